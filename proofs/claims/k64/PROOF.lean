import PyProof.Rows.All
import Wide.All
import OpenK.AllK
import Wide.FinOn
import HandS.ForMost
import HandS.Evl
import HandS.TupAny
import HandS.TupMul
import HandS.TupLe
import HandS.Deep
import HandS.Style
import HandS.SortInts
import HandS.IsInst
import HandS.Strs
import HandS.Conv
import KE.KEqDict
import HandS.TupSets
import KE.KRevSl
import HandS.NamedTupSort
import KE.KSortTup
import HandS.Walk
import HandS.SetFor
import KE.GoesEnum
import KE.KDictDisplayH
import HandS.Small
import HandS.Ends
import PySem.Challenge.RW_sparehands_k64_whole_tidy_houses
set_option Elab.async false
set_option maxRecDepth 100000
set_option maxHeartbeats 4000000
set_option linter.all false
/-! Co0: a little language over pure data, and its weakest preconditions. -/
namespace Co
open PySem

/-- the largest size that is asked for -/
def LINE : Nat := 16777216

/-- what an expression hands back: a fresh list or dict of its own, a value, or the name in slot i -/
inductive R where
  | own (d : PyData) | val (d : PyData) | pl (i : Nat)
/-- what a name holds -/
inductive Sl where
  | own (d : PyData) | val (d : PyData)
  /-- a list that the caller lent, to be changed -/
  | io (d : PyData)
abbrev Env := List (Option Sl)

inductive BOp where
  | add | sub | mul | fdiv | mod | pow
  deriving DecidableEq
inductive COp where
  | eq | ne | lt | le | gt | ge | isin | notin
  deriving DecidableEq
/-- built-ins of one argument -/
inductive B1 where
  | len | repr | sorted | tuple | list | min | sum | all | any | int | lenset | sortset | sortp
  deriving DecidableEq
inductive B2 where
  | max | min
  deriving DecidableEq
inductive Ty where
  | int | bool | str | tuple | list | dict
  deriving DecidableEq
/-- a target -/
inductive Tg where
  | nm (i : Nat) | tp (is : List Nat)

mutual
inductive E where
  | var (i : Nat)
  | cst (d : PyData)
  | tup (es : Es)
  | lst (es : Es)
  | dct (es : Es)
  | bin (op : BOp) (a b : E)
  | lrep (es : Es) (k : E)
  | glb (x : String) (n : Nat)
  | rg1 (a : E)
  | rgT (a : E)
  | rg2 (a b : E)
  | orep (x k : E)
  | neg (a : E)
  | not (a : E)
  | cmp (op : COp) (a b : E)
  | isn (a : E)
  | notn (a : E)
  | chain (o1 o2 : COp) (a b c : E)
  | and (a b : E)
  | or (a b : E)
  | ite (c a b : E)
  | idx (a i : E)
  | slo (a lo : E)
  | shi (a hi : E)
  | slh (a lo hi : E)
  | rev (a : E)
  | call (f : String) (sig : List Bool) (es : Es)
  | b1 (f : B1) (a : E)
  | b2 (f : B2) (a b : E)
  | isi (a : E) (ts : List Ty)
  | index (a b : E)
  | get1 (a k : E)
  | get2 (a k x : E)
  | append (i : Nat) (a : E)
  | extend (i : Nat) (a : E)
  | pop (i : Nat)
  | popat (i : Nat) (a : E)
  | lc (own : List Nat) (tg : Tg) (it : It) (cs : Es) (elt : E)
  | appx (a : E)
  | lcO (own : List Nat) (tg : Tg) (i : Nat) (cs : Es) (elt : E)
  | lc2 (own : List Nat) (tg : Tg) (it : It) (cs : Es) (tg2 : Tg) (it2 : It) (cs2 : Es) (elt : E)
inductive Es where
  | nil | cons (e : E) (es : Es)
inductive It where
  | of (e : E)
  | range1 (a : E)
  | range2 (a b : E)
  | range3 (a b c : E)
  | enum (a : E)
  | zip2 (strict : Bool) (a b : E)
  | zip3 (strict : Bool) (a b c : E)
end

inductive S where
  | skip
  | seq (a b : S)
  | expr (e : E)
  | asg (i : Nat) (e : E)
  | unpack (is : List Nat) (e : E)
  | par (is : List Nat) (es : Es)
  | put (i : Nat) (k e : E)
  | aug (i : Nat) (op : BOp) (e : E)
  | ifs (c : E) (a b : S)
  | for (tg : Tg) (it : It) (body : S)
  | whl (c : E) (body : S)
  | ret (e : E)
  | retn
  | brk
  | cont

/-- keeps what it tells of from being rewritten -/
inductive Kp {α : Sort u} (a : α) : Type where
  | mk
/-- one way or the other -/
def brn (b : Bool) (A B : Prop) (_ : Kp A) (_ : Kp B) : Prop := if b = true then A else B
/-- f, then K -/
def stp {α : Sort u} (f : α → Prop) (K : α) (_ : Kp K) : Prop := f K
/-- a def's promise: the arguments' data, what is wanted of the result and of the arguments that it changes -/
abbrev Spec := List PyData → (Sl → List PyData → Prop) → Prop
abbrev Tbl := String → Spec

/-! ### data -/
mutual
/-- no list, no dict within -/
def noRef : PyData → Bool
  | .list _ | .dict _ => false
  | .tuple xs => noRefs xs
  | .none | .bool _ | .int _ | .str _ => true
def noRefs : List PyData → Bool
  | [] => true
  | x :: xs => noRef x && noRefs xs
end
def isNoneD : PyData → Bool
  | .none => true
  | _ => false
def itemsOf : PyData → Option (List PyData)
  | .list xs | .tuple xs => some xs
  | _ => none
def boolsOf : List PyData → Option (List Bool)
  | [] => some []
  | .bool b :: r => (boolsOf r).map (b :: ·)
  | _ => none
def isTy : Ty → PyData → Bool
  | .int, .int _ | .int, .bool _ | .bool, .bool _ | .str, .str _ | .tuple, .tuple _ | .list, .list _ | .dict, .dict _ => true
  | _, _ => false
abbrev ixN (n : Nat) (i : Int) : Option Nat := L2.ixN n i
def cut (xs : List PyData) (lo hi : Option Int) : List PyData := (xs.drop (HT.sIx xs.length 0 lo)).take (HT.sIx xs.length xs.length hi - HT.sIx xs.length 0 lo)
/-- a key of a dict that is served: an int, a text, a tuple of such -/
def keyEq : PyData → PyData → Bool := PyData.eqv
def lookK (kvs : List (PyData × PyData)) (k : PyData) : Option PyData := (kvs.find? fun p => PyData.eqv p.1 k).map (·.2)
def putK (kvs : List (PyData × PyData)) (k v : PyData) : List (PyData × PyData) :=
  if (kvs.any fun p => PyData.eqv p.1 k) = true then kvs.map (fun p => if PyData.eqv p.1 k = true then (p.1, v) else p) else kvs ++ [(k, v)]
def isKey : PyData → Bool
  | .int _ | .str _ => true
  | _ => false
/-! ### results and names -/
def slot (env : Env) (i : Nat) : Option Sl := (env[i]?).join
def peek (r : R) (env : Env) : Option PyData :=
  match r with
  | .own d => some d
  | .val d => some d
  | .pl i => match slot env i with
    | some (.own d) => some d
    | some (.val d) => some d
    | some (.io d) => some d
    | none => none
/-- new contents of a list that may be changed -/
def slC : Option Sl → Option PyData
  | some (.own d) => some d
  | some (.io d) => some d
  | _ => none
def setC (env : Env) (i : Nat) (d : PyData) : Env :=
  match slot env i with
  | some (.io _) => env.set i (some (.io d))
  | _ => env.set i (some (.own d))
def isLst : Option PyData → Bool
  | some (.list _) => true
  | _ => false
/-- as a value that is shared from now on -/
def asV (r : R) (env : Env) (K : PyData → Env → Prop) : Prop :=
  match r with
  | .own d => K d env
  | .val d => K d env
  | .pl i => match slot env i with
    | some (.val d) => K d env
    | some (.own d) => K d (env.set i (some (.val d)))
    | _ => False
/-- as what a name is to hold: a list of its own goes over -/
def asS (r : R) (env : Env) (K : Sl → Env → Prop) : Prop :=
  match r with
  | .own d => K (.own d) env
  | .val d => K (.val d) env
  | .pl i => match slot env i with
    | some (.val d) => K (.val d) env
    | some (.own d) => K (.own d) (env.set i none)
    | _ => False
def asVs : List R → Env → (List PyData → Env → Prop) → Prop
  | [], env, K => K [] env
  | r :: rs, env, K => asV r env fun d env1 => asVs rs env1 fun ds env2 => K (d :: ds) env2
def asSs : List R → Env → (List Sl → Env → Prop) → Prop
  | [], env, K => K [] env
  | r :: rs, env, K => asS r env fun d env1 => asSs rs env1 fun ds env2 => K (d :: ds) env2
def setMany : Env → List Nat → List Sl → Env
  | env, i :: is, x :: xs => setMany (env.set i (some x)) is xs
  | env, _, _ => env
def bindT (tg : Tg) (x : PyData) (env : Env) (K : Env → Prop) : Prop :=
  match tg with
  | .nm i => K (env.set i (some (.val x)))
  | .tp is => match x with
    | .tuple xs => xs.length = is.length ∧ K (setMany env is (xs.map .val))
    | _ => False
def wipeE (env : Env) : List Nat → Env
  | [] => env
  | v :: vs => (wipeE env vs).set v none
/-- behind a comprehension's block: its own names are what they were -/
def unwipe (env0 env1 : Env) : List Nat → Env
  | [] => env1
  | v :: vs => (unwipe env0 env1 vs).set v (match slot env0 v with | some (.val d) => some (.val d) | _ => none)

/-! ### operations on data -/
def intBin (op : BOp) (i j : Int) (Q : R → Prop) : Prop :=
  match op with
  | .add => Q (.val (.int (i + j)))
  | .sub => Q (.val (.int (i - j)))
  | .mul => L2.CMul i j ∧ Q (.val (.int (i * j)))
  | .fdiv => L2.CDiv i j ∧ Q (.val (.int (i / j)))
  | .mod => 0 < j ∧ Q (.val (.int (i % j)))
  | .pow => L2.CPow i j ∧ Q (.val (.int (i ^ j.toNat)))
def bI (b : Bool) : Int := if b = true then 1 else 0
def boolBin (op : BOp) (b : Bool) (j : Int) (Q : R → Prop) : Prop :=
  match op with
  | .add => Q (.val (.int (bI b + j)))
  | .sub => Q (.val (.int (bI b - j)))
  | .mul => Q (.val (.int (bI b * j)))
  | _ => False
def binD (op : BOp) (x y : PyData) (Q : R → Prop) : Prop :=
  match x, y with
  | .int i, .int j => intBin op i j Q
  | .bool b, .int j => boolBin op b j Q
  | .str a, .str b => op = .add ∧ a.length + b.length ≤ LINE ∧ Q (.val (.str (a ++ b)))
  | .list a, .list b => op = .add ∧ a.length + b.length ≤ LINE ∧ Q (.own (.list (a ++ b)))
  | .tuple a, .tuple b => op = .add ∧ a.length + b.length ≤ LINE ∧ Q (.val (.tuple (a ++ b)))
  | .tuple a, .int k => op = .mul ∧ a ≠ [] ∧ 0 ≤ k ∧ k ≤ 1000 ∧ a.length ≤ 1000 ∧ Q (.val (.tuple (List.replicate k.toNat a).flatten))
  | _, _ => False
def ordI (op : COp) (i j : Int) : Bool :=
  match op with
  | .lt => decide (i < j)
  | .le => decide (i ≤ j)
  | .gt => decide (j < i)
  | _ => decide (j ≤ i)
def intsOf : List PyData → Option (List Int)
  | [] => some []
  | .int i :: r => (intsOf r).map (i :: ·)
  | _ => none
/-- tuples of ints, as sorting takes them -/
def tupsOf : List PyData → Option (List (List Int))
  | [] => some []
  | .tuple xs :: r => (intsOf xs).bind fun i => (tupsOf r).map (i :: ·)
  | _ => none
/-- what may be asked for in a list: data without dicts; anything, of tuples of ints -/
def shapedIn (x : PyData) (ds : List PyData) : Bool := SeqAt.shaped x || (tupsOf ds).isSome
def memD (x y : PyData) (K : Bool → Prop) : Prop :=
  match y with
  | .list ds => shapedIn x ds = true ∧ SeqAt.shaped y = true ∧ K (ds.any fun z => PyData.eqv z x)
  | .tuple ds => SeqAt.shaped x = true ∧ SeqAt.shaped y = true ∧ K (ds.any fun z => PyData.eqv z x)
  | .dict kvs => isKey x = true ∧ K (lookK kvs x).isSome
  | _ => False
def ordD (op : COp) (x y : PyData) (K : Bool → Prop) : Prop :=
  match x, y with
  | .int i, .int j => K (ordI op i j)
  | .int i, .bool b => op = .le ∧ K (decide (i ≤ bI b))
  | .bool b, .int j => op = .lt ∧ K (decide (bI b < j))
  | _, _ => False
def eqD (x y : PyData) (K : Bool → Prop) : Prop :=
  match x, y with
  | .str a, .str b => K (decide (a = b))
  | x, y => SeqAt.shaped x = true ∧ SeqAt.shaped y = true ∧ K (PyData.eqv x y)
def cmpD (op : COp) (x y : PyData) (K : Bool → Prop) : Prop :=
  match op with
  | .eq => eqD x y K
  | .ne => eqD x y fun b => K (!b)
  | .isin => memD x y K
  | .notin => memD x y fun b => K (!b)
  | op => ordD op x y K
def idxD (x i : PyData) (K : PyData → Prop) : Prop :=
  match x, i with
  | .list ds, .int k => ∃ v, L2.atI ds k = some v ∧ K v
  | .tuple ds, .int k => ∃ v, L2.atI ds k = some v ∧ K v
  | .dict kvs, k => isKey k = true ∧ ∃ v, lookK kvs k = some v ∧ K v
  | _, _ => False
def slcD (x : PyData) (lo hi : Option Int) (Q : R → Prop) : Prop :=
  match x with
  | .list ds => Q (.own (.list (cut ds lo hi)))
  | .tuple ds => Q (.val (.tuple (cut ds lo hi)))
  | _ => False
def revD (x : PyData) (Q : R → Prop) : Prop :=
  match x with
  | .list ds => Q (.own (.list ds.reverse))
  | .tuple ds => Q (.val (.tuple ds.reverse))
  | _ => False
/-- texts that are told are no longer than this -/
def fits (d : PyData) : Prop := d.showable = true ∧ d.depth ≤ 64 ∧ d.shown.length ≤ LINE
def ltInts : List Int → List Int → Bool := HT.lexLt
def isort {α : Type} (le : α → α → Bool) (xs : List α) : List α := xs.mergeSort le
/-- tuples of pairs, as sorting takes them -/
def pairsD (ps : List (Int × Int)) : PyData := .tuple (ps.map fun p => .tuple [.int p.1, .int p.2])
def flat : List (Int × Int) → List Int
  | [] => []
  | p :: r => p.1 :: p.2 :: flat r
def b1D (f : B1) (x : PyData) (Q : R → Prop) : Prop :=
  match f with
  | .len => (match x with
    | .list ds => Q (.val (.int (ds.length : Nat)))
    | .tuple ds => Q (.val (.int (ds.length : Nat)))
    | _ => False)
  | .repr => fits x ∧ Q (.val (.str x.shown))
  | .sorted => (match itemsOf x with
    | some ds => ds.length ≤ LINE ∧ ((∃ ns, intsOf ds = some ns ∧ Q (.own (.list ((isort (fun a b => decide (a ≤ b)) ns).map .int)))) ∨
      (x = .list ds ∧ ∃ ts, tupsOf ds = some ts ∧ ∀ ts' : List (List Int), ts'.Perm ts → ts'.Pairwise (fun a b => HT.lexLt b a = false) → Q (.own (.list (ts'.map fun t => .tuple (t.map .int))))))
    | none => False)
  | .tuple => (match x with
    | .list ds => Q (.val (.tuple ds))
    | .tuple ds => Q (.val (.tuple ds))
    | _ => False)
  | .list => (match x with
    | .list ds => Q (.own (.list ds))
    | .tuple ds => Q (.own (.list ds))
    | .dict kvs => Q (.own (.list (kvs.map (·.1))))
    | _ => False)
  | .min => (match itemsOf x with
    | some ds => ∃ ns, intsOf ds = some ns ∧ 0 < ns.length ∧ ∀ m, m ∈ ns → (∀ y, y ∈ ns → m ≤ y) → Q (.val (.int m))
    | none => False)
  | .sum => (match itemsOf x with
    | some ds => ∃ ns, intsOf ds = some ns ∧ Q (.val (.int ns.sum))
    | none => False)
  | .all => (match x with
    | .list ds => ∃ bs, boolsOf ds = some bs ∧ Q (.val (.bool (bs.all id)))
    | _ => False)
  | .any => (match x with
    | .list ds => ∃ bs, boolsOf ds = some bs ∧ Q (.val (.bool (bs.any id)))
    | _ => False)
  | .int => (match x with
    | .int i => Q (.val (.int i))
    | .bool b => Q (.val (.int (bI b)))
    | _ => False)
  | .lenset => (match x with
    | .tuple ds => ∃ ns, intsOf ds = some ns ∧ ns.length ≤ 4000 ∧ ∀ ks : List Int, ks.Nodup → (∀ k, k ∈ ks ↔ k ∈ ns) → Q (.val (.int (ks.length : Nat)))
    | .list ds => ∃ ns, intsOf ds = some ns ∧ ns.length ≤ 4000 ∧ ∀ ks : List Int, ks.Nodup → (∀ k, k ∈ ks ↔ k ∈ ns) → Q (.val (.int (ks.length : Nat)))
    | _ => False)
  | .sortset => (match x with
    | .tuple ds => ∃ ns, intsOf ds = some ns ∧ ns.length ≤ 63 ∧ ∀ ms : List Int, ms.Pairwise (· < ·) → (∀ k, k ∈ ms ↔ k ∈ ns) → Q (.own (.list (ms.map .int)))
    | .list ds => ∃ ns, intsOf ds = some ns ∧ ns.length ≤ 63 ∧ ∀ ms : List Int, ms.Pairwise (· < ·) → (∀ k, k ∈ ms ↔ k ∈ ns) → Q (.own (.list (ms.map .int)))
    | _ => False)
  | .sortp => (match x with
    | .list ds => ∃ tss : List (List (Int × Int)), ds = tss.map pairsD ∧ ds.length ≤ LINE ∧ (2 ≤ tss.length → ∀ t ∈ tss, t ≠ []) ∧ ∀ us : List (List (Int × Int)), us.Perm tss → us.Pairwise (fun a b => HT.lexLt (flat b) (flat a) = false) → Q (.own (.list (us.map pairsD)))
    | _ => False)
def b2D (f : B2) (x y : PyData) (Q : R → Prop) : Prop :=
  match x, y with
  | .int i, .int j => Q (.val (.int (match f with | .max => max i j | .min => min i j)))
  | _, _ => False

/-! ### calls -/
def noRefR : Sl → Bool
  | .val d => noRef d
  | .own (.list xs) => noRefs xs
  | .own (.dict kvs) => kvs.all fun p => noRef p.1 && noRef p.2
  | _ => false
def peeks : List R → Env → Option (List PyData)
  | [], _ => some []
  | r :: rs, env => match peek r env, peeks rs env with
    | some d, some ds => some (d :: ds)
    | _, _ => none
def isOwn (env : Env) (i : Nat) : Bool := (slC (slot env i)).isSome
def isIo (env : Env) (i : Nat) : Bool := match slot env i with | some (.io _) => true | _ => false
/-- the names whose lists are handed over to be changed -/
def inouts : List Bool → List R → List Nat
  | true :: sg, .pl i :: rs => i :: inouts sg rs
  | _ :: sg, _ :: rs => inouts sg rs
  | _, _ => []
/-- the other names that are handed over -/
def lents : List Bool → List R → List Nat
  | false :: sg, .pl i :: rs => i :: lents sg rs
  | _ :: sg, _ :: rs => lents sg rs
  | _, _ => []
def sigOk : List Bool → List R → Bool
  | [], [] => true
  | true :: sg, .pl _ :: rs => sigOk sg rs
  | false :: sg, _ :: rs => sigOk sg rs
  | _, _ => false
def okArgs (sig : List Bool) (rs : List R) (env : Env) : Bool :=
  sigOk sig rs && (inouts sig rs).all (isOwn env) && (inouts sig rs).all (fun i => !(lents sig rs).contains i) && decide ((inouts sig rs).Nodup)
def setOwn : Env → List Nat → List PyData → Env
  | env, i :: is, d :: ds => setOwn (setC env i d) is ds
  | env, _, _ => env
def freeze : Env → List Nat → Env
  | env, [] => env
  | env, i :: is => match slot env i with
    | some (.own d) => freeze (env.set i (some (.val d))) is
    | _ => freeze env is
def Sl.r : Sl → R
  | .own d => .own d
  | .val d => .val d
  | .io d => .val d
def Sl.d : Sl → PyData
  | .own d => d
  | .val d => d
  | .io d => d
def callW (Sp : Spec) (sig : List Bool) (rs : List R) (env : Env) (Q : R → Env → Prop) : Prop :=
  okArgs sig rs env = true ∧ ∃ ds, peeks rs env = some ds ∧
    stp (Sp ds) (fun res news => news.length = (inouts sig rs).length →
      if (noRefR res && (inouts sig rs).isEmpty) = true then Q res.r env
      else (lents sig rs).all (fun i => !isIo env i) = true ∧ Q res.r (setOwn (freeze env (lents sig rs)) (inouts sig rs) news)) .mk

/-! ### loops over items -/
def lcGo (bind : PyData → Env → (Env → Prop) → Prop) (conds : Env → (Bool → Env → Prop) → Prop) (elt : Env → (PyData → Env → Prop) → Prop) (own : List Nat) :
    List PyData → List PyData → Env → (List PyData → Env → Prop) → Prop
  | [], acc, env, K => K acc (wipeE env own)
  | x :: xs, acc, env, K => bind x (wipeE env own) fun env1 => conds env1 fun b env2 =>
      if b = true then elt env2 fun y env3 => lcGo bind conds elt own xs (acc ++ [y]) env3 K else lcGo bind conds elt own xs acc env2 K
def Tg.slots : Tg → List Nat
  | .nm i => [i]
  | .tp is => is
/-- over a list of one's own, that stays so -/
def lcGoO (bind : PyData → Env → (Env → Prop) → Prop) (conds : Env → (Bool → Env → Prop) → Prop) (elt : Env → (PyData → Env → Prop) → Prop) (own : List Nat) (i : Nat) (all : List PyData) :
    List PyData → List PyData → Env → (List PyData → Env → Prop) → Prop
  | [], acc, env, K => slot env i = some (.own (.list all)) ∧ K acc (wipeE env own)
  | x :: xs, acc, env, K => slot env i = some (.own (.list all)) ∧ bind x (wipeE env own) fun env1 => conds env1 fun b env2 =>
      if b = true then elt env2 fun y env3 => lcGoO bind conds elt own i all xs (acc ++ [y]) env3 K else lcGoO bind conds elt own i all xs acc env2 K
/-- two clauses -/
def lcGo2 (bind : PyData → Env → (Env → Prop) → Prop) (conds : Env → (Bool → Env → Prop) → Prop) (src2 : Env → (List PyData → Env → Prop) → Prop) (bind2 : PyData → Env → (Env → Prop) → Prop) (conds2 : Env → (Bool → Env → Prop) → Prop) (elt : Env → (PyData → Env → Prop) → Prop) (own own2 : List Nat) :
    List PyData → List PyData → Env → (List PyData → Env → Prop) → Prop
  | [], acc, env, K => K acc (wipeE env own)
  | x :: xs, acc, env, K => bind x (wipeE env own) fun env1 => conds env1 fun b env2 =>
      if b = true then src2 env2 fun items2 env3 => acc.length + items2.length ≤ LINE ∧ lcGo bind2 conds2 elt own2 items2 acc env3 fun acc' env4 => lcGo2 bind conds src2 bind2 conds2 elt own own2 xs acc' env4 K
      else lcGo2 bind conds src2 bind2 conds2 elt own own2 xs acc env2 K
structure Ends where
  nx : Env → Prop
  rt : Sl → Env → Prop
  bk : Env → Prop
  ct : Env → Prop
def forGo (bind : PyData → Env → (Env → Prop) → Prop) (body : Env → Ends → Prop) : List PyData → Env → Ends → Prop
  | [], env, D => D.nx env
  | x :: xs, env, D => bind x env fun env1 => body env1 { nx := fun e => forGo bind body xs e D, rt := D.rt, bk := D.nx, ct := fun e => forGo bind body xs e D }
/-- ints from hi down, so many -/
def rangeD (hi : Int) (n : Nat) : List PyData := (List.range n).map fun (k : Nat) => PyData.int (hi - (k : Int))
/-- ints from lo on, so many -/
def rangeL (lo : Int) (n : Nat) : List PyData := (List.range n).map fun (k : Nat) => PyData.int (lo + (k : Int))
def pairs2 (xs ys : List PyData) : List PyData := (xs.zip ys).map fun p => .tuple [p.1, p.2]
def pairs3 (xs ys zs : List PyData) : List PyData := (xs.zip (ys.zip zs)).map fun p => .tuple [p.1, p.2.1, p.2.2]
def enumL (xs : List PyData) : List PyData := pairs2 (rangeL 0 xs.length) xs

/-! ### weakest preconditions -/
def R.isNot (i : Nat) : R → Bool
  | .pl j => decide (j ≠ i)
  | _ => true
def dctGo : List PyData → List (PyData × PyData) → (List (PyData × PyData) → Prop) → Prop
  | [], acc, K => K acc
  | k :: v :: r, acc, K => isKey k = true ∧ dctGo r (putK acc k v) K
  | [_], _, _ => False
def dctD (ds : List PyData) (K : List (PyData × PyData) → Prop) : Prop := ds.length ≤ 20 ∧ dctGo ds [] K
def isT (r : R) (env : Env) (K : Bool → Prop) : Prop :=
  match peek r env with
  | some (.bool b) => K b
  | _ => False
def pk (r : R) (env : Env) (K : PyData → Prop) : Prop :=
  match peek r env with
  | some d => K d
  | none => False
/-- a temporary list is shared as soon as something else is reckoned -/
def R.still : R → R
  | .own d => .val d
  | r => r
mutual
def wpE (Φ : Tbl) : E → Env → (R → Env → Prop) → Prop
  | .var i, env, Q => (slot env i).isSome = true ∧ Q (.pl i) env
  | .cst d, env, Q => Q (.val d) env
  | .tup es, env, Q => wpEs Φ es env fun rs env1 => asVs rs env1 fun ds env2 => Q (.val (.tuple ds)) env2
  | .lst es, env, Q => wpEs Φ es env fun rs env1 => asVs rs env1 fun ds env2 => Q (.own (.list ds)) env2
  | .dct es, env, Q => wpEs Φ es env fun rs env1 => asVs rs env1 fun ds env2 => dctD ds fun kvs => Q (.own (.dict kvs)) env2
  | .bin op a b, env, Q => wpE Φ a env fun r1 env1 => wpE Φ b env1 fun r2 env2 => pk r1 env2 fun x => pk r2 env2 fun y => binD op x y fun r => Q r env2
  | .lrep es a, env, Q => wpEs Φ es env fun rs env1 => asVs rs env1 fun ds env2 => wpE Φ a env2 fun r env3 => pk r env3 fun y => match y with
    | .int k => -(2 ^ 63) ≤ k ∧ k < 2 ^ 63 ∧ ds.length * k.toNat ≤ LINE ∧ Q (.own (.list (List.replicate k.toNat ds).flatten)) env3
    | _ => False
  | .glb x n, env, Q => Q (.val (.int (n : Int))) env
  | .rgT a, env, Q => wpE Φ a env fun r env1 => pk r env1 fun x => match x with
    | .int j => -(2 ^ 62) ≤ j ∧ j < 2 ^ 62 ∧ j.toNat ≤ LINE ∧ Q (.val (.tuple (rangeL 0 j.toNat))) env1
    | _ => False
  | .rg1 a, env, Q => wpE Φ a env fun r env1 => pk r env1 fun x => match x with
    | .int j => -(2 ^ 62) ≤ j ∧ j < 2 ^ 62 ∧ j.toNat ≤ LINE ∧ Q (.own (.list (rangeL 0 j.toNat))) env1
    | _ => False
  | .rg2 a b, env, Q => wpE Φ a env fun r1 env1 => wpE Φ b env1 fun r2 env2 => pk r1 env2 fun x => pk r2 env2 fun y => match x, y with
    | .int i, .int j => (-(2 ^ 62) ≤ i ∧ i < 2 ^ 62 ∧ -(2 ^ 62) ≤ j ∧ j < 2 ^ 62) ∧ (j - i).toNat ≤ LINE ∧ Q (.own (.list (rangeL i (j - i).toNat))) env2
    | _, _ => False
  | .orep x k, env, Q => wpE Φ x env fun r env1 => match r with
    | .own (.list ds) => wpE Φ k env1 fun r2 env2 => pk r2 env2 fun y => match y with
      | .int k => -(2 ^ 63) ≤ k ∧ k < 2 ^ 63 ∧ ds.length * k.toNat ≤ LINE ∧ Q (.own (.list (List.replicate k.toNat ds).flatten)) env2
      | _ => False
    | _ => False
  | .neg a, env, Q => wpE Φ a env fun r env1 => pk r env1 fun x => match x with
    | .int i => Q (.val (.int (-i))) env1
    | _ => False
  | .not a, env, Q => wpE Φ a env fun r env1 => isT r env1 fun b => Q (.val (.bool (!b))) env1
  | .cmp op a b, env, Q => wpE Φ a env fun r1 env1 => wpE Φ b env1 fun r2 env2 => pk r1 env2 fun x => pk r2 env2 fun y => cmpD op x y fun b => Q (.val (.bool b)) env2
  | .isn a, env, Q => wpE Φ a env fun r env1 => pk r env1 fun x => Q (.val (.bool (isNoneD x))) env1
  | .notn a, env, Q => wpE Φ a env fun r env1 => pk r env1 fun x => Q (.val (.bool (!isNoneD x))) env1
  | .chain o1 o2 a b c, env, Q => wpE Φ a env fun r1 env1 => wpE Φ b env1 fun r2 env2 => pk r1 env2 fun x => pk r2 env2 fun y => cmpD o1 x y fun b1 =>
      brn b1 (wpE Φ c env2 fun r3 env3 => pk r2 env3 fun y' => pk r3 env3 fun z => cmpD o2 y' z fun b2 => Q (.val (.bool b2)) env3) (Q (.val (.bool false)) env2) .mk .mk
  | .and a b, env, Q => wpE Φ a env fun r env1 => isT r env1 fun t => brn t (wpE Φ b env1 Q) (Q (.val (.bool false)) env1) .mk .mk
  | .or a b, env, Q => wpE Φ a env fun r env1 => isT r env1 fun t => brn t (Q (.val (.bool true)) env1) (wpE Φ b env1 Q) .mk .mk
  | .ite c a b, env, Q => wpE Φ c env fun r env1 => isT r env1 fun t => brn t (wpE Φ a env1 Q) (wpE Φ b env1 Q) .mk .mk
  | .idx a i, env, Q => wpE Φ a env fun r1 env1 => wpE Φ i env1 fun r2 env2 => pk r1 env2 fun x => pk r2 env2 fun y => stp (idxD x y) (fun d => Q (.val d) env2) .mk
  | .slo a lo, env, Q => wpE Φ a env fun r1 env1 => wpE Φ lo env1 fun r2 env2 => pk r1 env2 fun x => pk r2 env2 fun y => match y with
    | .int i => slcD x (some i) none fun r => Q r env2
    | _ => False
  | .shi a hi, env, Q => wpE Φ a env fun r1 env1 => wpE Φ hi env1 fun r2 env2 => pk r1 env2 fun x => pk r2 env2 fun y => match y with
    | .int i => slcD x none (some i) fun r => Q r env2
    | _ => False
  | .slh a lo hi, env, Q => wpE Φ a env fun r1 env1 => wpE Φ lo env1 fun r2 env2 => pk r2 env2 fun y => match y with
    | .int i => wpE Φ hi env2 fun r3 env3 => pk r3 env3 fun z => (match z with
      | .int j => pk r1 env3 fun x => slcD x (some i) (some j) fun r => Q r env3
      | _ => False)
    | _ => False
  | .rev a, env, Q => wpE Φ a env fun r env1 => pk r env1 fun x => revD x fun r' => Q r' env1
  | .call f sig es, env, Q => wpEs Φ es env fun rs env1 => callW (Φ f) sig rs env1 Q
  | .b1 f a, env, Q => wpE Φ a env fun r env1 => pk r env1 fun x => b1D f x fun r' => Q r' env1
  | .b2 f a b, env, Q => wpE Φ a env fun r1 env1 => wpE Φ b env1 fun r2 env2 => pk r1 env2 fun x => pk r2 env2 fun y => b2D f x y fun r => Q r env2
  | .isi a ts, env, Q => wpE Φ a env fun r env1 => pk r env1 fun x => Q (.val (.bool (ts.any fun t => isTy t x))) env1
  | .index a b, env, Q => wpE Φ a env fun r1 env1 => pk r1 env1 (fun x => isTy .tuple x = true) ∧ wpE Φ b env1 fun r2 env2 => pk r1 env2 fun x => pk r2 env2 fun y => match x with
    | .tuple ds => SeqAt.shaped x = true ∧ SeqAt.shaped y = true ∧ ∃ j, ds.findIdx? (fun z => PyData.eqv z y) = some j ∧ Q (.val (.int (j : Nat))) env2
    | _ => False
  | .get1 a k, env, Q => wpE Φ a env fun r1 env1 => pk r1 env1 (fun x => isTy .dict x = true) ∧ wpE Φ k env1 fun r2 env2 => pk r1 env2 fun x => pk r2 env2 fun y => match x with
    | .dict kvs => isKey y = true ∧ stp (fun (K : PyData → Prop) => K ((lookK kvs y).getD .none)) (fun d => Q (.val d) env2) .mk
    | _ => False
  | .get2 a k x, env, Q => wpE Φ a env fun r1 env1 => pk r1 env1 (fun x => isTy .dict x = true) ∧ wpE Φ k env1 fun r2 env2 => wpE Φ x env2 fun r3 env3 => pk r1 env3 fun c => pk r2 env3 fun y => asV r3 env3 fun z env4 => match c with
    | .dict kvs => isKey y = true ∧ stp (fun (K : PyData → Prop) => K ((lookK kvs y).getD z)) (fun d => Q (.val d) env4) .mk
    | _ => False
  | .append i a, env, Q => isLst (slC (slot env i)) = true ∧ wpE Φ a env fun r env1 => asV r env1 fun d env2 => match slC (slot env2 i) with
    | some (.list ds) => ds.length < LINE ∧ Q (.val .none) (setC env2 i (.list (ds ++ [d])))
    | _ => False
  | .extend i a, env, Q => isLst (slC (slot env i)) = true ∧ wpE Φ a env fun r env1 => asV r env1 fun d env1 => match slC (slot env1 i), d with
    | some (.list ds), .list xs => ds.length + xs.length ≤ LINE ∧ Q (.val .none) (setC env1 i (.list (ds ++ xs)))
    | some (.list ds), .tuple xs => ds.length + xs.length ≤ LINE ∧ Q (.val .none) (setC env1 i (.list (ds ++ xs)))
    | _, _ => False
  | .pop i, env, Q => match slC (slot env i) with
    | some (.list ds) => stp (fun (K : PyData → Prop) => ∃ d, ds.getLast? = some d ∧ K d) (fun d => Q (.val d) (setC env i (.list ds.dropLast))) .mk
    | _ => False
  | .popat i a, env, Q => isLst (slC (slot env i)) = true ∧ wpE Φ a env fun r env1 => pk r env1 fun k => match slC (slot env1 i), k with
    | some (.list ds), .int j => -(2 ^ 63) ≤ j ∧ j < 2 ^ 63 ∧ stp (fun (K : Nat → PyData → Prop) => ∃ n d, L2.ixN ds.length j = some n ∧ ds[n]? = some d ∧ K n d) (fun n d => Q (.val d) (setC env1 i (.list (ds.eraseIdx n)))) .mk
    | _, _ => False
  | .lc own tg it cs elt, env, Q => wpI Φ it env fun items env1 => items.length < LINE ∧
      stp (lcGo (bindT tg) (wpCs Φ cs) (fun e K => wpE Φ elt e fun r e1 => asV r e1 K) own items [] env1) (fun ds env2 => Q (.own (.list ds)) (unwipe env1 env2 own)) .mk
  | .appx a, env, Q => wpE Φ a env fun r env1 => match r with
    | .own (.list ds) => ds.length < LINE ∧ Q (.val .none) env1
    | _ => False
  | .lcO own tg i cs elt, env, Q => match slot env i with
    | some (.own (.list items)) => items.length < LINE ∧ stp (lcGoO (bindT tg) (wpCs Φ cs) (fun e K => wpE Φ elt e fun r e1 => asV r e1 K) own i items items [] env) (fun ds env2 => Q (.own (.list ds)) (unwipe env env2 own)) .mk
    | _ => False
  | .lc2 own tg it cs tg2 it2 cs2 elt, env, Q => wpI Φ it env fun items env1 =>
      stp (lcGo2 (bindT tg) (wpCs Φ cs) (wpI Φ it2) (bindT tg2) (wpCs Φ cs2) (fun e K => wpE Φ elt e fun r e1 => asV r e1 K) own tg2.slots items [] env1) (fun ds env2 => Q (.own (.list ds)) (unwipe env1 env2 own)) .mk
def wpEs (Φ : Tbl) : Es → Env → (List R → Env → Prop) → Prop
  | .nil, env, Q => Q [] env
  | .cons e es, env, Q => wpE Φ e env fun r env1 => wpEs Φ es env1 fun rs env2 => Q (r.still :: rs) env2
def wpEs' (Φ : Tbl) : Es → Env → (List R → Env → Prop) → Prop
  | .nil, env, Q => Q [] env
  | .cons e es, env, Q => wpE Φ e env fun r env1 => wpEs' Φ es env1 fun rs env2 => Q (r :: rs) env2
/-- the tests of a comprehension: none or one -/
def wpCs (Φ : Tbl) : Es → Env → (Bool → Env → Prop) → Prop
  | .nil, env, K => K true env
  | .cons e _, env, K => wpE Φ e env fun r env1 => isT r env1 fun b => K b env1
def wpI (Φ : Tbl) : It → Env → (List PyData → Env → Prop) → Prop
  | .of e, env, K => wpE Φ e env fun r env1 => asV r env1 fun d env2 => match d with
    | .list ds => K ds env2
    | .tuple ds => K ds env2
    | _ => False
  | .range1 a, env, K => wpE Φ a env fun r env1 => pk r env1 fun d => match d with
    | .int j => -(2 ^ 62) ≤ j ∧ j < 2 ^ 62 ∧ K (rangeL 0 j.toNat) env1
    | _ => False
  | .range2 a b, env, K => wpE Φ a env fun r1 env1 => wpE Φ b env1 fun r2 env2 => pk r1 env2 fun x => pk r2 env2 fun y => match x, y with
    | .int i, .int j => (-(2 ^ 62) ≤ i ∧ i < 2 ^ 62 ∧ -(2 ^ 62) ≤ j ∧ j < 2 ^ 62) ∧ K (rangeL i (j - i).toNat) env2
    | _, _ => False
  | .range3 a b c, env, K => wpE Φ a env fun r1 env1 => wpE Φ b env1 fun r2 env2 => wpE Φ c env2 fun r3 env3 => pk r1 env3 fun x => pk r2 env3 fun y => pk r3 env3 fun z => match x, y, z with
    | .int i, .int j, .int l => (-(2 ^ 62) ≤ i ∧ i < 2 ^ 62 ∧ -(2 ^ 62) ≤ j ∧ j < 2 ^ 62 ∧ l = -1) ∧ K (rangeD i (i - j).toNat) env3
    | _, _, _ => False
  | .enum a, env, K => wpE Φ a env fun r env1 => asV r env1 fun d env2 => match d with
    | .list ds => K (enumL ds) env2
    | .tuple ds => K (enumL ds) env2
    | _ => False
  | .zip2 strict a b, env, K => wpE Φ a env fun r1 env1 => wpE Φ b env1 fun r2 env2 => asV r1 env2 fun x env3 => asV r2 env3 fun y env4 => match itemsOf x, itemsOf y with
    | some xs, some ys => (strict = true → xs.length = ys.length) ∧ K (pairs2 xs ys) env4
    | _, _ => False
  | .zip3 strict a b c, env, K => wpE Φ a env fun r1 env1 => wpE Φ b env1 fun r2 env2 => wpE Φ c env2 fun r3 env3 => asV r1 env3 fun x env4 => asV r2 env4 fun y env5 => asV r3 env5 fun z env6 =>
      match itemsOf x, itemsOf y, itemsOf z with
      | some xs, some ys, some zs => (strict = true → xs.length = ys.length ∧ ys.length = zs.length) ∧ K (pairs3 xs ys zs) env6
      | _, _, _ => False
end

def wpS (Φ : Tbl) : S → Env → Ends → Prop
  | .skip, env, D => D.nx env
  | .seq a b, env, D => wpS Φ a env { D with nx := fun e => wpS Φ b e D }
  | .expr e, env, D => wpE Φ e env fun _ env1 => D.nx env1
  | .asg i e, env, D => wpE Φ e env fun r env1 => asS r env1 fun s env2 => D.nx (env2.set i (some s))
  | .unpack is e, env, D => wpE Φ e env fun r env1 => pk r env1 fun d => match d with
    | .tuple ds => ds.length = is.length ∧ D.nx (setMany env1 is (ds.map .val))
    | _ => False
  | .par is es, env, D => wpEs' Φ es env fun rs env1 => asSs rs env1 fun ss env2 => ss.length = is.length ∧ D.nx (setMany env2 is ss)
  | .put i k e, env, D => wpE Φ e env fun r env1 => asV r env1 fun d env2 => (slC (slot env2 i)).isSome = true ∧ wpE Φ k env2 fun r2 env3 => pk r2 env3 fun y => match slC (slot env3 i), y with
    | some (.list ds), .int j => ∃ n, L2.ixN ds.length j = some n ∧ D.nx (setC env3 i (.list (ds.set n d)))
    | some (.dict kvs), y => isKey y = true ∧ kvs.length < LINE ∧ D.nx (setC env3 i (.dict (putK kvs y d)))
    | _, _ => False
  | .aug i op e, env, D => match op with
    | .add => (slot env i).isSome = true ∧ wpE Φ e env fun r env1 => pk r env1 fun y => ∃ n k, slot env1 i = some (.val (.int n)) ∧ y = .int k ∧ D.nx (env1.set i (some (.val (.int (n + k)))))
    | .sub => (slot env i).isSome = true ∧ wpE Φ e env fun r env1 => pk r env1 fun y => ∃ n k, slot env1 i = some (.val (.int n)) ∧ y = .int k ∧ D.nx (env1.set i (some (.val (.int (n - k)))))
    | _ => False
  | .ifs c a b, env, D => wpE Φ c env fun r env1 => isT r env1 fun t => brn t (wpS Φ a env1 D) (wpS Φ b env1 D) .mk .mk
  | .for tg it body, env, D => wpI Φ it env fun items env1 => stp (forGo (bindT tg) (wpS Φ body) items env1) D .mk
  | .whl c body, env, D => ∃ W : Nat → Env → Prop, (∃ m, W m env) ∧ ∀ m env, W m env → wpE Φ c env fun r env1 => isT r env1 fun t =>
      brn t (wpS Φ body env1 { nx := fun e => ∃ m', m' < m ∧ W m' e, rt := D.rt, bk := D.nx, ct := fun e => ∃ m', m' < m ∧ W m' e }) (D.nx env1) .mk .mk
  | .ret e, env, D => wpE Φ e env fun r env1 => asS r env1 D.rt
  | .retn, env, D => D.rt (.val .none) env
  | .brk, env, D => D.bk env
  | .cont, env, D => D.ct env
end Co

set_option linter.all false
/-! Co1: how data stands in the layer's heap. -/
namespace Co
open PySem PySem.Spec PyProof.Rows L2

abbrev Frag := PySem.W.Frag
def keyD : Key → PyData
  | .inl i => .int i
  | .inr x => .str x
def dctOf (kv : List (Key × V)) (ds : List PyData) : List (PyData × PyData) := (kv.map fun p => keyD p.1).zip ds

mutual
/-- a value that stands for a datum, all of it shared: in F -/
inductive Den (K : Frag) (F : Hp) : V → PyData → Prop
  | non : Den K F .non .none
  | bl (b : Bool) : Den K F (.bl b) (.bool b)
  | int (i : Int) : Den K F (.int i) (.int i)
  | str (x : Str) : Den K F (.str x) (.str x)
  | lst {a : Addr} {xs : List V} {ds : List PyData} : SqL K F a xs → DenAll K F xs ds → Den K F (.ref a) (.list ds)
  | tup {a : Addr} {xs : List V} {ds : List PyData} : SqT K F a xs → DenAll K F xs ds → Den K F (.ref a) (.tuple ds)
  | dct {a : Addr} {kv : List (Key × V)} {ds : List PyData} {kvs : List (PyData × PyData)} : F a = some (.dK kv) → DenAll K F (kv.map (·.2)) ds → kvs = dctOf kv ds → Den K F (.ref a) (.dict kvs)
inductive DenAll (K : Frag) (F : Hp) : List V → List PyData → Prop
  | nil : DenAll K F [] []
  | cons {v : V} {vs : List V} {d : PyData} {ds : List PyData} : Den K F v d → DenAll K F vs ds → DenAll K F (v :: vs) (d :: ds)
end

section
variable {K : Frag} {F F' H H' : Hp}
theorem same_sqT {a : Addr} {xs : List V} (e : Same F F') (h : SqT K F a xs) : SqT K F' a xs := by
  rcases h with (h | ⟨o, h⟩) | h
  · exact .inl (.inl (e _ _ h))
  · exact .inl (.inr ⟨o, e _ _ h⟩)
  · exact .inr h
mutual
theorem Den.mono (e : Same F F') : ∀ {v : V} {d : PyData}, Den K F v d → Den K F' v d
  | _, _, .non => .non
  | _, _, .bl b => .bl b
  | _, _, .int i => .int i
  | _, _, .str x => .str x
  | _, _, .lst h t => .lst (e.seq h) (DenAll.mono e t)
  | _, _, .tup h t => .tup (same_sqT e h) (DenAll.mono e t)
  | _, _, .dct h t q => .dct (e _ _ h) (DenAll.mono e t) q
theorem DenAll.mono (e : Same F F') : ∀ {vs : List V} {ds : List PyData}, DenAll K F vs ds → DenAll K F' vs ds
  | _, _, .nil => .nil
  | _, _, .cons h t => .cons (Den.mono e h) (DenAll.mono e t)
end
theorem DenAll.length : ∀ {vs : List V} {ds : List PyData}, DenAll K F vs ds → vs.length = ds.length
  | _, _, .nil => rfl
  | _, _, .cons _ t => by simp [DenAll.length t]
theorem DenAll.get : ∀ {vs : List V} {ds : List PyData} {i : Nat} {d : PyData}, DenAll K F vs ds → ds[i]? = some d → ∃ v, vs[i]? = some v ∧ Den K F v d
  | _, _, _, _, .nil, e => by simp at e
  | _, _, 0, _, .cons h _, e => by simp at e; subst e; exact ⟨_, rfl, h⟩
  | _, _, i + 1, _, .cons _ t, e => by simpa using DenAll.get (i := i) t (by simpa using e)
theorem DenAll.getV : ∀ {vs : List V} {ds : List PyData} {i : Nat} {v : V}, DenAll K F vs ds → vs[i]? = some v → ∃ d, ds[i]? = some d ∧ Den K F v d
  | _, _, _, _, .nil, e => by simp at e
  | _, _, 0, _, .cons h _, e => by simp at e; subst e; exact ⟨_, rfl, h⟩
  | _, _, i + 1, _, .cons _ t, e => by simpa using DenAll.getV (i := i) t (by simpa using e)
theorem DenAll.append : ∀ {vs ws : List V} {ds es : List PyData}, DenAll K F vs ds → DenAll K F ws es → DenAll K F (vs ++ ws) (ds ++ es)
  | _, _, _, _, .nil, h => h
  | _, _, _, _, .cons h t, q => .cons h (DenAll.append t q)
theorem DenAll.take (n : Nat) : ∀ {vs : List V} {ds : List PyData}, DenAll K F vs ds → DenAll K F (vs.take n) (ds.take n) := by
  induction n with
  | zero => intro _ _ _; simp; exact .nil
  | succ n ih =>
    intro vs ds h
    cases h with
    | nil => exact .nil
    | cons h t => exact .cons h (ih t)
theorem DenAll.drop (n : Nat) : ∀ {vs : List V} {ds : List PyData}, DenAll K F vs ds → DenAll K F (vs.drop n) (ds.drop n) := by
  induction n with
  | zero => intro _ _ h; exact h
  | succ n ih =>
    intro vs ds h
    cases h with
    | nil => exact .nil
    | cons h t => exact ih t
theorem DenAll.set {v : V} {d : PyData} (q : Den K F v d) : ∀ {vs : List V} {ds : List PyData} (n : Nat), DenAll K F vs ds → DenAll K F (vs.set n v) (ds.set n d)
  | _, _, _, .nil => .nil
  | _, _, 0, .cons _ t => .cons q t
  | _, _, n + 1, .cons h t => .cons h (DenAll.set q n t)
theorem DenAll.erase : ∀ {vs : List V} {ds : List PyData} (n : Nat), DenAll K F vs ds → DenAll K F (vs.eraseIdx n) (ds.eraseIdx n)
  | _, _, _, .nil => .nil
  | _, _, 0, .cons _ t => t
  | _, _, n + 1, .cons h t => .cons h (DenAll.erase n t)
theorem DenAll.reverse {vs : List V} {ds : List PyData} (h : DenAll K F vs ds) : DenAll K F vs.reverse ds.reverse := by
  induction h using DenAll.rec (motive_1 := fun _ _ _ => True) with
  | nil => exact .nil
  | cons h t _ ih => simp only [List.reverse_cons]; exact ih.append (.cons h .nil)
  | _ => trivial
theorem DenAll.dropLast {vs : List V} {ds : List PyData} (h : DenAll K F vs ds) : DenAll K F vs.dropLast ds.dropLast := by
  rw [List.dropLast_eq_take, List.dropLast_eq_take, h.length]; exact h.take _
theorem DenAll.rep {vs : List V} {ds : List PyData} (h : DenAll K F vs ds) : ∀ k : Nat, DenAll K F (List.replicate k vs).flatten (List.replicate k ds).flatten
  | 0 => by simp; exact .nil
  | k + 1 => by simp only [List.replicate_succ, List.flatten_cons]; exact h.append (DenAll.rep h k)
theorem DenAll.ints : ∀ {ns : List Int} {vs : List V}, DenAll K F vs (ns.map PyData.int) → vs = ns.map V.int
  | [], _, h => by cases h; rfl
  | n :: ns, _, h => by
    cases h with
    | cons h t => cases h; rw [DenAll.ints t]; rfl
theorem DenAll.of_ints : ∀ (ns : List Int), DenAll K F (ns.map V.int) (ns.map PyData.int)
  | [] => .nil
  | n :: ns => .cons (.int n) (DenAll.of_ints ns)
theorem DenAll.bools : ∀ {bs : List Bool} {vs : List V}, DenAll K F vs (bs.map PyData.bool) → vs = bs.map V.bl
  | [], _, h => by cases h; rfl
  | n :: ns, _, h => by
    cases h with
    | cons h t => cases h; rw [DenAll.bools t]; rfl

/-- at p a list or dict of one's own -/
def OwnAt (K : Frag) (F H : Hp) (p : Addr) : PyData → Prop
  | .list ds => ∃ vs, H p = some (.lst vs) ∧ DenAll K F vs ds
  | .dict kvs => ∃ kv ds, H p = some (.dK kv) ∧ DenAll K F (kv.map (·.2)) ds ∧ kvs = dctOf kv ds
  | _ => False
theorem OwnAt.mono {p : Addr} {d : PyData} (h : OwnAt K F H p d) (e : Same F F') (q : H' p = H p) : OwnAt K F' H' p d := by
  cases d <;> first | exact h.elim | skip
  · obtain ⟨vs, a, b⟩ := h; exact ⟨vs, q.trans a, b.mono e⟩
  · obtain ⟨kv, ds, a, b, c⟩ := h; exact ⟨kv, ds, q.trans a, b.mono e, c⟩
theorem OwnAt.there {p : Addr} {d : PyData} (h : OwnAt K F H p d) : ∃ o, H p = some o ∧ Mut (some o) := by
  cases d <;> first | exact h.elim | skip
  · obtain ⟨vs, a, b⟩ := h; exact ⟨_, a, trivial⟩
  · obtain ⟨kv, ds, a, b, c⟩ := h; exact ⟨_, a, trivial⟩
theorem same_add {p : Addr} {o : HO} (h : F p = none) : Same F (upd F p o) := fun b x e => by
  rw [upd_ne (ne_of_none e h)]; exact e
/-- a list of one's own becomes shared -/
theorem OwnAt.share {p : Addr} {d : PyData} {o : HO} (h : OwnAt K F H p d) (e : H p = some o) (n : F p = none) : Den K (upd F p o) (.ref p) d := by
  cases d <;> first | exact h.elim | skip
  · obtain ⟨vs, a, b⟩ := h
    rw [a] at e; cases e
    exact .lst (.inl (.inl upd_same)) (b.mono (same_add n))
  · obtain ⟨kv, ds, a, b, c⟩ := h
    rw [a] at e; cases e
    exact .dct upd_same (b.mono (same_add n)) c

/-- what may be read of a value: its first level in H, the rest shared -/
def View (K : Frag) (F H : Hp) (v : V) : PyData → Prop
  | .list ds => ∃ a xs, v = .ref a ∧ SqL K H a xs ∧ DenAll K F xs ds
  | .tuple ds => ∃ a xs, v = .ref a ∧ SqT K F a xs ∧ DenAll K F xs ds
  | .dict kvs => ∃ a kv ds, v = .ref a ∧ H a = some (.dK kv) ∧ DenAll K F (kv.map (·.2)) ds ∧ kvs = dctOf kv ds
  | .none => v = .non
  | .bool b => v = .bl b
  | .int i => v = .int i
  | .str x => v = .str x
theorem View.of_den (e : Same F H) {v : V} {d : PyData} (h : Den K F v d) : View K F H v d := by
  cases h with
  | non => rfl
  | bl b => rfl
  | int i => rfl
  | str x => rfl
  | lst h t => exact ⟨_, _, rfl, e.seq h, t⟩
  | tup h t => exact ⟨_, _, rfl, h, t⟩
  | dct h t q => exact ⟨_, _, _, rfl, e _ _ h, t, q⟩
theorem View.of_own {p : Addr} {d : PyData} (h : OwnAt K F H p d) : View K F H (.ref p) d := by
  cases d <;> first | exact h.elim | skip
  · obtain ⟨vs, a, b⟩ := h; exact ⟨_, _, rfl, .inl (.inl a), b⟩
  · obtain ⟨kv, ds, a, b, c⟩ := h; exact ⟨_, _, _, rfl, a, b, c⟩
theorem View.den (e : Same F H) {v : V} {d : PyData} (h : View K F H v d) : Den K H v d := by
  cases d with
  | none => cases h; exact .non
  | bool b => cases h; exact .bl b
  | int i => cases h; exact .int i
  | str x => cases h; exact .str x
  | list ds => obtain ⟨a, xs, rfl, h, t⟩ := h; exact .lst h (t.mono e)
  | tuple ds => obtain ⟨a, xs, rfl, h, t⟩ := h; exact .tup (same_sqT e h) (t.mono e)
  | dict kvs => obtain ⟨a, kv, ds, rfl, h, t, q⟩ := h; exact .dct h (t.mono e) q

/-- what is known of a def's (or block's) run: the heap it began with, the lists that were lent to it, the temporary lists -/
structure Gh where
  H0 : Hp
  F0 : Hp
  ins : List (Nat × Addr)
  tmps : List (Addr × PyData)

theorem slot_set {env : Env} {i j : Nat} {s : Option Sl} : slot (env.set i s) j = if i = j ∧ i < env.length then s else slot env j := by
  unfold slot
  by_cases h : i = j
  · subst h
    by_cases hl : i < env.length
    · rw [List.getElem?_set_self hl, if_pos ⟨rfl, hl⟩]; rfl
    · rw [if_neg (fun q => hl q.2), List.getElem?_eq_none (by simpa using hl), List.getElem?_eq_none (by simpa using hl)]
  · rw [List.getElem?_set_ne h, if_neg (fun q => h q.1)]
theorem slot_lt {env : Env} {i : Nat} {s : Sl} (h : slot env i = some s) : i < env.length := by
  unfold slot at h
  by_cases q : i < env.length
  · exact q
  · rw [List.getElem?_eq_none (by omega)] at h; cases h

structure Rep (K : Frag) (io : List Nat) (g : Gh) (env : Env) (σ : L2.St) (F H : Hp) : Prop where
  sub : Same F H
  sub0 : Same g.F0 F
  frame : ∀ b o, g.H0 b = some o → (∀ q ∈ g.ins, q.2 ≠ b) → H b = some o
  nof : ∀ b o, g.H0 b = some o → g.F0 b = none → F b = none
  len : env.length = σ.length
  vals : ∀ i d, slot env i = some (.val d) → ∃ v, σ[i]? = some (some v) ∧ Den K F v d
  owns : ∀ i d, slot env i = some (.own d) → ∃ p, σ[i]? = some (some (.ref p)) ∧ F p = none ∧ OwnAt K F H p d ∧ g.H0 p = none ∧ ∀ t ∈ g.tmps, t.1 ≠ p
  sep : ∀ i j d e p, slot env i = some (.own d) → slot env j = some (.own e) → σ[i]? = some (some (.ref p)) → σ[j]? = some (some (.ref p)) → i = j
  ios : ∀ i d, slot env i = some (.io d) → ∃ p, (i, p) ∈ g.ins ∧ F p = none ∧ OwnAt K F H p d
  ins : ∀ q ∈ g.ins, σ[q.1]? = some (some (.ref q.2)) ∧ (∃ d, slot env q.1 = some (.io d)) ∧ ∃ o, g.H0 q.2 = some o
  insI : g.ins.map (·.1) = io
  insN : (g.ins.map (·.2)).Nodup
  tmp : ∀ t ∈ g.tmps, F t.1 = none ∧ OwnAt K F H t.1 t.2 ∧ g.H0 t.1 = none
  tmpN : (g.tmps.map (·.1)).Nodup

/-- what an expression handed back -/
def RDen (K : Frag) (g : Gh) (F H : Hp) (σ : L2.St) (env : Env) (v : V) : R → Prop
  | .val d => Den K F v d
  | .own d => ∃ p, v = .ref p ∧ F p = none ∧ OwnAt K F H p d ∧ g.H0 p = none ∧ (∀ t ∈ g.tmps, t.1 ≠ p) ∧ ∀ i d', slot env i = some (.own d') → σ[i]? ≠ some (some (.ref p))
  | .pl i => σ[i]? = some (some v) ∧ (slot env i).isSome = true
/-- .. a temporary list being shared -/
def StDen (K : Frag) (F : Hp) (σ : L2.St) (v : V) : R → Prop
  | .val d => Den K F v d
  | .own d => Den K F v d
  | .pl i => σ[i]? = some (some v)
theorem StDen.mono {σ : L2.St} {v : V} {r : R} (h : StDen K F σ v r) (e : Same F F') : StDen K F' σ v r := by
  cases r with
  | val d => exact Den.mono e h
  | own d => exact Den.mono e h
  | pl i => exact h

variable {io : List Nat} {g : Gh} {env : Env} {σ : L2.St}
/-- sharing an address that is nobody's -/
theorem Rep.share {p : Addr} {o : HO} (R : Rep K io g env σ F H) (n : F p = none) (e : H p = some o) (h0 : g.H0 p = none)
    (h1 : ∀ i d, slot env i = some (.own d) → σ[i]? ≠ some (some (.ref p))) (h2 : ∀ q ∈ g.ins, q.2 ≠ p) (h3 : ∀ t ∈ g.tmps, t.1 ≠ p) : Rep K io g env σ (upd F p o) H := by
  have m := same_add (F := F) (o := o) n
  have nf : ∀ b x, g.H0 b = some x → g.F0 b = none → upd F p o b = none := fun b x q z => by
    rw [upd_ne (ne_of_none q h0)]; exact R.nof b x q z
  refine ⟨fun b x q => ?_, R.sub0.trans m, R.frame, nf, R.len, fun i d q => ?_, fun i d q => ?_, R.sep, fun i d q => ?_, R.ins, R.insI, R.insN, fun t ht => ?_, R.tmpN⟩
  · by_cases hb : b = p
    · subst hb; rw [upd_same] at q; cases q; exact e
    · rw [upd_ne hb] at q; exact R.sub _ _ q
  · obtain ⟨v, a, b⟩ := R.vals i d q; exact ⟨v, a, b.mono m⟩
  · obtain ⟨p', a, b, c, dd⟩ := R.owns i d q
    have ne : p' ≠ p := fun z => h1 i d q (z ▸ a)
    exact ⟨p', a, by rw [upd_ne ne]; exact b, c.mono m rfl, dd⟩
  · obtain ⟨p', a, b, c⟩ := R.ios i d q
    exact ⟨p', a, by rw [upd_ne (h2 _ a)]; exact b, c.mono m rfl⟩
  · obtain ⟨a, b, c⟩ := R.tmp t ht
    exact ⟨by rw [upd_ne (h3 t ht)]; exact a, b.mono m rfl, c⟩
/-- a temporary is shared -/
theorem still_ok {v : V} {r : R} (R : Rep K io g env σ F H) (h : RDen K g F H σ env v r) : ∃ F', Same F F' ∧ Rep K io g env σ F' H ∧ StDen K F' σ v r ∧ RDen K g F' H σ env v r.still := by
  cases r with
  | val d => exact ⟨F, Same.refl F, R, h, h⟩
  | pl i => exact ⟨F, Same.refl F, R, h.1, h⟩
  | own d =>
    obtain ⟨p, rfl, n, o, z, t, s⟩ := h
    obtain ⟨ho, e, _⟩ := o.there
    have dn := o.share e n
    refine ⟨upd F p ho, same_add n, R.share n e z s (fun q hq z' => ?_) t, dn, dn⟩
    obtain ⟨_, _, w, hw⟩ := R.ins q hq
    rw [z', z] at hw; cases hw
/-- what a result's datum looks like -/
theorem peek_view {v : V} {r : R} {d : PyData} (R : Rep K io g env σ F H) (h : StDen K F σ v r) (e : peek r env = some d) : View K F H v d := by
  cases r with
  | val d' => cases e; exact .of_den R.sub h
  | own d' => cases e; exact .of_den R.sub h
  | pl i =>
    have hs : σ[i]? = some (some v) := h
    unfold peek at e
    simp only at e
    cases q : slot env i with
    | none => rw [q] at e; cases e
    | some s =>
      rw [q] at e
      cases s with
      | own d' =>
        cases e
        obtain ⟨p, a, _, c, _⟩ := R.owns i _ q
        rw [hs] at a; cases a
        exact .of_own c
      | val d' =>
        cases e
        obtain ⟨v', a, c⟩ := R.vals i _ q
        rw [hs] at a; cases a
        exact .of_den R.sub c
      | io d' =>
        cases e
        obtain ⟨p, hq, _, c⟩ := R.ios i _ q
        have a := (R.ins _ hq).1
        rw [hs] at a; cases a
        exact .of_own c
theorem pk_view {v : V} {r : R} {P : PyData → Prop} (R : Rep K io g env σ F H) (h : StDen K F σ v r) (e : pk r env P) : ∃ d, View K F H v d ∧ P d := by
  unfold pk at e
  cases q : peek r env with
  | none => rw [q] at e; exact e.elim
  | some d => rw [q] at e; exact ⟨d, peek_view R h q, e⟩
theorem isT_view {v : V} {r : R} {P : Bool → Prop} (R : Rep K io g env σ F H) (h : StDen K F σ v r) (e : isT r env P) : ∃ b, v = .bl b ∧ P b := by
  unfold isT at e
  cases q : peek r env with
  | none => rw [q] at e; exact e.elim
  | some d =>
    rw [q] at e
    cases d <;> first | exact e.elim | exact ⟨_, peek_view R h q, e⟩

/-- a name's own list becomes shared -/
theorem Rep.freeze1 {i : Nat} {d : PyData} (R : Rep K io g env σ F H) (h : slot env i = some (.own d)) :
    ∃ p F', σ[i]? = some (some (.ref p)) ∧ Same F F' ∧ Rep K io g (env.set i (some (.val d))) σ F' H ∧ Den K F' (.ref p) d := by
  obtain ⟨p, a, n, o, z, t⟩ := R.owns i d h
  obtain ⟨ho, e, _⟩ := o.there
  have hl := slot_lt h
  have m := same_add (F := F) (o := ho) n
  have hsl : ∀ j, slot (env.set i (some (.val d))) j = if i = j then some (.val d) else slot env j := fun j => by
    rw [slot_set]; by_cases q : i = j
    · rw [if_pos ⟨q, hl⟩, if_pos q]
    · rw [if_neg (fun z => q z.1), if_neg q]
  have nio : ∀ q ∈ g.ins, q.2 ≠ p := fun q hq z' => by
    obtain ⟨_, _, w, hw⟩ := R.ins q hq
    rw [z', z] at hw; cases hw
  have nf : ∀ b x, g.H0 b = some x → g.F0 b = none → upd F p ho b = none := fun b x q w => by
    rw [upd_ne (ne_of_none q z)]; exact R.nof b x q w
  refine ⟨p, upd F p ho, a, m, ⟨fun b x q => ?_, R.sub0.trans m, R.frame, nf, by simpa using R.len, fun j d' q => ?_, fun j d' q => ?_, fun j k d' e' p' q1 q2 q3 q4 => ?_, fun j d' q => ?_, fun q hq => ?_, R.insI, R.insN, fun t' ht => ?_, R.tmpN⟩, o.share e n⟩
  · by_cases hb : b = p
    · subst hb; rw [upd_same] at q; cases q; exact e
    · rw [upd_ne hb] at q; exact R.sub _ _ q
  · rw [hsl] at q
    by_cases c : i = j
    · subst c
      rw [if_pos rfl] at q; cases q
      exact ⟨_, a, o.share e n⟩
    · rw [if_neg c] at q
      obtain ⟨v, a', b⟩ := R.vals j d' q; exact ⟨v, a', b.mono m⟩
  · rw [hsl] at q
    by_cases c : i = j
    · rw [if_pos c] at q; cases q
    · rw [if_neg c] at q
      obtain ⟨p', a', b', c', dd⟩ := R.owns j d' q
      have ne : p' ≠ p := fun z' => c (R.sep i j _ _ p h q a (z' ▸ a'))
      exact ⟨p', a', by rw [upd_ne ne]; exact b', c'.mono m rfl, dd⟩
  · rw [hsl] at q1 q2
    by_cases c1 : i = j
    · rw [if_pos c1] at q1; cases q1
    · by_cases c2 : i = k
      · rw [if_pos c2] at q2; cases q2
      · rw [if_neg c1] at q1; rw [if_neg c2] at q2
        exact R.sep j k _ _ p' q1 q2 q3 q4
  · rw [hsl] at q
    by_cases c : i = j
    · rw [if_pos c] at q; cases q
    · rw [if_neg c] at q
      obtain ⟨p', a', b', c'⟩ := R.ios j d' q
      exact ⟨p', a', by rw [upd_ne (nio _ a')]; exact b', c'.mono m rfl⟩
  · obtain ⟨q1, ⟨d', q2⟩, q3⟩ := R.ins q hq
    refine ⟨q1, ⟨d', ?_⟩, q3⟩
    rw [hsl, if_neg]
    · exact q2
    · intro c; rw [← c, h] at q2; cases q2
  · obtain ⟨a', b', c'⟩ := R.tmp t' ht
    exact ⟨by rw [upd_ne (t t' ht)]; exact a', b'.mono m rfl, c'⟩
/-- asV, as the heap has it -/
theorem asV_ok {v : V} {r : R} {P : PyData → Env → Prop} (R : Rep K io g env σ F H) (h : StDen K F σ v r) (e : asV r env P) :
    ∃ d env' F', Same F F' ∧ Rep K io g env' σ F' H ∧ Den K F' v d ∧ P d env' := by
  cases r with
  | val d => exact ⟨d, env, F, Same.refl F, R, h, e⟩
  | own d => exact ⟨d, env, F, Same.refl F, R, h, e⟩
  | pl i =>
    have hs : σ[i]? = some (some v) := h
    unfold asV at e
    simp only at e
    cases q : slot env i with
    | none => rw [q] at e; exact e.elim
    | some s =>
      rw [q] at e
      cases s with
      | val d =>
        obtain ⟨v', a, c⟩ := R.vals i _ q
        rw [hs] at a; cases a
        exact ⟨d, env, F, Same.refl F, R, c, e⟩
      | own d =>
        obtain ⟨p, F', a, m, R', dn⟩ := R.freeze1 q
        rw [hs] at a; cases a
        exact ⟨d, _, F', m, R', dn, e⟩
      | io d => exact e.elim
end
end Co

set_option linter.all false
/-! Co2: results of operations; expressions one in another. -/
namespace Co
open PySem PySem.Spec PyProof.Rows L2

/-- how a result comes: an old value, a new list or dict, a new tuple -/
inductive Out (K : Frag) (F H : Hp) : R → V → Hp → Prop
  | old {v : V} {d : PyData} : Den K F v d → Out K F H (.val d) v H
  | own {p : Addr} {o : HO} {d : PyData} : H p = none → OwnAt K F (upd H p o) p d → Out K F H (.own d) (.ref p) (upd H p o)
  | tup {p : Addr} {xs : List V} {ds : List PyData} : H p = none → DenAll K F xs ds → Out K F H (.val (.tuple ds)) (.ref p) (upd H p (.tup xs))

section
variable {K : Frag} {F F' H H' : Hp} {io : List Nat} {g : Gh} {env : Env} {σ : L2.St}
theorem Rep.h0 (R : Rep K io g env σ F H) {p : Addr} (n : H p = none) : g.H0 p = none ∧ F p = none ∧ (∀ t ∈ g.tmps, t.1 ≠ p) ∧ (∀ q ∈ g.ins, q.2 ≠ p) ∧ ∀ i d, slot env i = some (.own d) → σ[i]? ≠ some (some (.ref p)) := by
  have i1 : ∀ q ∈ g.ins, q.2 ≠ p := fun q hq z => by
    obtain ⟨_, ⟨d, hd⟩, _⟩ := R.ins q hq
    obtain ⟨p', hp, _, o⟩ := R.ios _ _ hd
    obtain ⟨ho, e, _⟩ := o.there
    have e1 := (R.ins _ hp).1
    have e2 := (R.ins q hq).1
    rw [e1] at e2
    have e3 : p' = q.2 := by injection (Option.some.inj (Option.some.inj e2))
    rw [e3, z, n] at e; cases e
  refine ⟨?_, ?_, fun t ht z => ?_, i1, fun i d h z => ?_⟩
  · cases q : g.H0 p with
    | none => rfl
    | some o =>
      rw [R.frame p o q i1] at n; cases n
  · cases q : F p with
    | none => rfl
    | some o => rw [R.sub p o q] at n; cases n
  · obtain ⟨_, o, _⟩ := R.tmp t ht
    obtain ⟨ho, e, _⟩ := o.there
    rw [z, n] at e; cases e
  · obtain ⟨p', a, _, o, _⟩ := R.owns i d h
    rw [z] at a; cases a
    obtain ⟨ho, e, _⟩ := o.there
    rw [n] at e; cases e
/-- a new object is laid -/
theorem Rep.lay (R : Rep K io g env σ F H) {p : Addr} {o : HO} (n : H p = none) : Rep K io g env σ F (upd H p o) := by
  obtain ⟨h0, hF, ht, hi, ho⟩ := R.h0 n
  have m : Same H (upd H p o) := same_add n
  have ne : ∀ {b : Addr} {d : PyData}, OwnAt K F H b d → upd H p o b = H b := fun {b d} q => by
    obtain ⟨w, e, _⟩ := q.there
    exact upd_ne (ne_of_none e n)
  exact ⟨R.sub.trans m, R.sub0, fun b x q i => m _ _ (R.frame b x q i), R.nof, R.len, R.vals, fun i d q => by
      obtain ⟨p', a, b, c, e⟩ := R.owns i d q
      exact ⟨p', a, b, c.mono (Same.refl F) (ne c), e⟩, R.sep, fun i d q => by
      obtain ⟨p', a, b, c⟩ := R.ios i d q
      exact ⟨p', a, b, c.mono (Same.refl F) (ne c)⟩, R.ins, R.insI, R.insN, fun t ht => by
      obtain ⟨a, b, c⟩ := R.tmp t ht
      exact ⟨a, b.mono (Same.refl F) (ne b), c⟩, R.tmpN⟩
theorem out_ok {r : R} {v : V} (R : Rep K io g env σ F H) (h : Out K F H r v H') : ∃ F', Same F F' ∧ Rep K io g env σ F' H' ∧ RDen K g F' H' σ env v r := by
  cases h with
  | old d => exact ⟨F, Same.refl F, R, d⟩
  | @own p o d n q =>
    obtain ⟨h0, hF, ht, hi, ho⟩ := R.h0 n
    exact ⟨F, Same.refl F, R.lay n, p, rfl, hF, q, h0, ht, ho⟩
  | @tup p xs ds n q =>
    obtain ⟨h0, hF, ht, hi, ho⟩ := R.h0 n
    have m := same_add (F := F) (o := .tup xs) hF
    refine ⟨_, m, (R.lay n).share hF upd_same h0 ho hi ht, ?_⟩
    exact .tup (.inl (.inl upd_same)) (q.mono m)
end

/-- the reading of an expression of the little language -/
def tE (K : Frag) (Φ : Tbl) (io : List Nat) (c : E) : TE := fun σ H Qv => ∃ g F env Q, Rep K io g env σ F H ∧ wpE Φ c env Q ∧
  ∀ v H' F' r env', Same F F' → Rep K io g env' σ F' H' → RDen K g F' H' σ env' v r → Q r env' → Qv v H'
theorem PE.weak {X : Cx} {e : Expr} {t t' : TE} (h : PE X e t) (w : ∀ σ H Q, t' σ H Q → t σ H Q) : PE X e t' := ⟨fun pins s σ H Q I q => h.run pins s σ H Q I (w _ _ _ q)⟩
theorem PT.weak {X : Cx} {e : Expr} {t t' : TT} (h : PT X e t) (w : ∀ σ H Q, t' σ H Q → t σ H Q) : PT X e t' := ⟨fun pins s σ H Q I q => h.run pins s σ H Q I (w _ _ _ q)⟩
theorem PA.weak {X : Cx} {es : List Expr} {t t' : TA} (h : PA X es t) (w : ∀ σ H Q, t' σ H Q → t σ H Q) : PA X es t' := ⟨fun pos pins s σ H Q I q => h.run pos pins s σ H Q I (w _ _ _ q)⟩
theorem PI.weak {X : Cx} {tg e : Expr} {t t' : TI} (h : PI X tg e t) (w : ∀ σ H Q, t' σ H Q → t σ H Q) : PI X tg e t' := ⟨fun pins s σ H Q I q => h.run pins s σ H Q I (w _ _ _ q)⟩
theorem PS.weak {X : Cx} {e : Stmt} {t t' : TS} (h : PS X e t) (w : ∀ D σ H, t' D σ H → t D σ H) : PS X e t' := ⟨fun pins s σ H D I q => h.run pins s σ H D I (w _ _ _ q)⟩
theorem PSs.weak {X : Cx} {e : List Stmt} {t t' : TS} (h : PSs X e t) (w : ∀ D σ H, t' D σ H → t D σ H) : PSs X e t' := ⟨fun pins s σ H D I q => h.run pins s σ H D I (w _ _ _ q)⟩

section
variable {K : Frag} {Φ : Tbl} {io : List Nat} {g : Gh} {F H : Hp} {env : Env} {σ : L2.St}
theorem one_ {a : E} {P : R → Env → Prop} {Qv : V → Hp → Prop} (R : Rep K io g env σ F H) (h : wpE Φ a env P)
    (k : ∀ v H' F' r env', Same F F' → Rep K io g env' σ F' H' → StDen K F' σ v r → P r env' → Qv v H') : tE K Φ io a σ H Qv :=
  ⟨g, F, env, P, R, h, fun v H' F' r env' e R' d q => by
    obtain ⟨F2, m, R2, s, _⟩ := still_ok R' d
    exact k v H' F2 r env' (e.trans m) R2 s q⟩
theorem two_ {a b : E} {P : R → R → Env → Prop} {Qv : V → V → Hp → Prop} (R : Rep K io g env σ F H) (h : wpE Φ a env fun r1 env1 => wpE Φ b env1 fun r2 env2 => P r1 r2 env2)
    (k : ∀ v1 v2 H' F' r1 r2 env', Same F F' → Rep K io g env' σ F' H' → StDen K F' σ v1 r1 → StDen K F' σ v2 r2 → P r1 r2 env' → Qv v1 v2 H') :
    tE K Φ io a σ H fun v1 H1 => tE K Φ io b σ H1 fun v2 H2 => Qv v1 v2 H2 :=
  one_ R h fun v1 H1 F1 r1 env1 e1 R1 s1 q1 => one_ R1 q1 fun v2 H2 F2 r2 env2 e2 R2 s2 q2 => k v1 v2 H2 F2 r1 r2 env2 (e1.trans e2) R2 (s1.mono e2) s2 q2
theorem three_ {a b c : E} {P : R → R → R → Env → Prop} {Qv : V → V → V → Hp → Prop} (R : Rep K io g env σ F H)
    (h : wpE Φ a env fun r1 env1 => wpE Φ b env1 fun r2 env2 => wpE Φ c env2 fun r3 env3 => P r1 r2 r3 env3)
    (k : ∀ v1 v2 v3 H' F' r1 r2 r3 env', Same F F' → Rep K io g env' σ F' H' → StDen K F' σ v1 r1 → StDen K F' σ v2 r2 → StDen K F' σ v3 r3 → P r1 r2 r3 env' → Qv v1 v2 v3 H') :
    tE K Φ io a σ H fun v1 H1 => tE K Φ io b σ H1 fun v2 H2 => tE K Φ io c σ H2 fun v3 H3 => Qv v1 v2 v3 H3 :=
  one_ R h fun v1 H1 F1 r1 env1 e1 R1 s1 q1 => two_ R1 q1 fun v2 v3 H2 F2 r2 r3 env2 e2 R2 s2 s3 q2 => k v1 v2 v3 H2 F2 r1 r2 r3 env2 (e1.trans e2) R2 (s1.mono e2) s2 s3 q2

/-- two operands, an operation on their data -/
def rOp (K : Frag) (D : PyData → PyData → (R → Prop) → Prop) : R2 := fun x y H Q => ∃ F d1 d2, Same F H ∧ View K F H x d1 ∧ View K F H y d2 ∧ D d1 d2 fun r => ∀ v H', Out K F H r v H' → Q v H'
def Mono2 (D : PyData → PyData → (R → Prop) → Prop) : Prop := ∀ x y (Q Q' : R → Prop), (∀ r, Q r → Q' r) → D x y Q → D x y Q'
def Mono1 (D : PyData → (R → Prop) → Prop) : Prop := ∀ x (Q Q' : R → Prop), (∀ r, Q r → Q' r) → D x Q → D x Q'
theorem op_ok {a b : E} {D : PyData → PyData → (R → Prop) → Prop} {Q : R → Env → Prop} {Qv : V → Hp → Prop} (M : Mono2 D) (R : Rep K io g env σ F H)
    (h : wpE Φ a env fun r1 env1 => wpE Φ b env1 fun r2 env2 => pk r1 env2 fun x => pk r2 env2 fun y => D x y fun r => Q r env2)
    (k : ∀ v H' F' r env', Same F F' → Rep K io g env' σ F' H' → RDen K g F' H' σ env' v r → Q r env' → Qv v H') : tOp (rOp K D) (tE K Φ io a) (tE K Φ io b) σ H Qv :=
  two_ R h fun v1 v2 H' F' r1 r2 env' e R' s1 s2 q => by
    obtain ⟨d1, w1, q⟩ := pk_view R' s1 q
    obtain ⟨d2, w2, q⟩ := pk_view R' s2 q
    refine ⟨F', d1, d2, R'.sub, w1, w2, M _ _ _ _ (fun r hr v H2 o => ?_) q⟩
    obtain ⟨F2, m, R2, dn⟩ := out_ok R' o
    exact k v H2 F2 r env' (e.trans m) R2 dn hr
def rUn (K : Frag) (D : PyData → (R → Prop) → Prop) : V → Hp → VK → Prop := fun x H Q => ∃ F d, Same F H ∧ View K F H x d ∧ D d fun r => ∀ v H', Out K F H r v H' → Q v H'
theorem un_ok {a : E} {D : PyData → (R → Prop) → Prop} {Q : R → Env → Prop} {Qv : V → Hp → Prop} (M : Mono1 D) (R : Rep K io g env σ F H) (h : wpE Φ a env fun r env1 => pk r env1 fun x => D x fun r' => Q r' env1)
    (k : ∀ v H' F' r env', Same F F' → Rep K io g env' σ F' H' → RDen K g F' H' σ env' v r → Q r env' → Qv v H') : tE K Φ io a σ H fun x H1 => rUn K D x H1 Qv :=
  one_ R h fun v1 H' F' r1 env' e R' s1 q => by
    obtain ⟨d1, w1, q⟩ := pk_view R' s1 q
    refine ⟨F', d1, R'.sub, w1, M _ _ _ (fun r hr v H2 o => ?_) q⟩
    obtain ⟨F2, m, R2, dn⟩ := out_ok R' o
    exact k v H2 F2 r env' (e.trans m) R2 dn hr
def rC1 (K : Frag) (D : PyData → (R → Prop) → Prop) : List V → Hp → VK → Prop := fun vs H Q => ∃ x, vs = [x] ∧ rUn K D x H Q
def rC2 (K : Frag) (D : PyData → PyData → (R → Prop) → Prop) : List V → Hp → VK → Prop := fun vs H Q => ∃ x y, vs = [x, y] ∧ rOp K D x y H Q
/-- scalars as results -/
theorem Out.int {F H : Hp} {i : Int} : Out K F H (.val (.int i)) (.int i) H := .old (.int i)
theorem Out.bl {F H : Hp} {b : Bool} : Out K F H (.val (.bool b)) (.bl b) H := .old (.bl b)
theorem Out.non {F H : Hp} : Out K F H (.val .none) .non H := .old .non
theorem Out.str {F H : Hp} {x : Str} : Out K F H (.val (.str x)) (.str x) H := .old (.str x)
end

/-! ### monotony of the operations -/
theorem binD_mono (op : BOp) : Mono2 (binD op) := fun x y Q Q' h q => by
  unfold binD at q ⊢
  split at q
  · unfold intBin at q ⊢
    cases op
    · exact h _ q
    · exact h _ q
    · exact ⟨q.1, h _ q.2⟩
    · exact ⟨q.1, h _ q.2⟩
    · exact ⟨q.1, h _ q.2⟩
    · exact ⟨q.1, h _ q.2⟩
  · unfold boolBin at q ⊢
    cases op <;> first | exact h _ q | exact q
  · exact ⟨q.1, q.2.1, h _ q.2.2⟩
  · exact ⟨q.1, q.2.1, h _ q.2.2⟩
  · exact ⟨q.1, q.2.1, h _ q.2.2⟩
  · exact ⟨q.1, q.2.1, q.2.2.1, q.2.2.2.1, q.2.2.2.2.1, h _ q.2.2.2.2.2⟩
  · exact q
theorem memD_mono {x y : PyData} {Q Q' : Bool → Prop} (h : ∀ b, Q b → Q' b) (q : memD x y Q) : memD x y Q' := by
  unfold memD at q ⊢
  split at q
  · exact ⟨q.1, q.2.1, h _ q.2.2⟩
  · exact ⟨q.1, q.2.1, h _ q.2.2⟩
  · exact ⟨q.1, h _ q.2⟩
  · exact q
theorem ordD_mono {op : COp} {x y : PyData} {Q Q' : Bool → Prop} (h : ∀ b, Q b → Q' b) (q : ordD op x y Q) : ordD op x y Q' := by
  unfold ordD at q ⊢
  split at q
  · exact h _ q
  · exact ⟨q.1, h _ q.2⟩
  · exact ⟨q.1, h _ q.2⟩
  · exact q.elim
theorem eqD_mono {x y : PyData} {Q Q' : Bool → Prop} (h : ∀ b, Q b → Q' b) (q : eqD x y Q) : eqD x y Q' := by
  unfold eqD at q ⊢
  split at q
  · exact h _ q
  · exact ⟨q.1, q.2.1, h _ q.2.2⟩
theorem cmpD_mono (op : COp) {x y : PyData} {Q Q' : Bool → Prop} (h : ∀ b, Q b → Q' b) (q : cmpD op x y Q) : cmpD op x y Q' := by
  unfold cmpD at q ⊢
  cases op <;> simp only at q ⊢
  · exact eqD_mono h q
  · exact eqD_mono (fun b => h _) q
  · exact ordD_mono h q
  · exact ordD_mono h q
  · exact ordD_mono h q
  · exact ordD_mono h q
  · exact memD_mono h q
  · exact memD_mono (fun b => h _) q
theorem slcD_mono {lo hi : Option Int} {x : PyData} {Q Q' : R → Prop} (h : ∀ b, Q b → Q' b) (q : slcD x lo hi Q) : slcD x lo hi Q' := by
  unfold slcD at q ⊢
  split at q
  · exact h _ q
  · exact h _ q
  · exact q
theorem revD_mono : Mono1 revD := fun x Q Q' h q => by
  unfold revD at q ⊢
  split at q
  · exact h _ q
  · exact h _ q
  · exact q
theorem b2D_mono (f : B2) : Mono2 (b2D f) := fun x y Q Q' h q => by
  unfold b2D at q ⊢
  split at q
  · exact h _ q
  · exact q
theorem b1D_mono (f : B1) : Mono1 (b1D f) := fun x Q Q' h q => by
  unfold b1D at q ⊢
  cases f <;> simp only at q ⊢
  case len => split at q <;> first | exact h _ q | exact q
  case repr => exact ⟨q.1, h _ q.2⟩
  case sorted =>
    split at q
    · obtain ⟨l, q⟩ := q
      refine ⟨l, ?_⟩
      rcases q with ⟨ns, e, q⟩ | ⟨e0, ts, e, q⟩
      · exact .inl ⟨ns, e, h _ q⟩
      · exact .inr ⟨e0, ts, e, fun ts' a b => h _ (q ts' a b)⟩
    · exact q
  case tuple => split at q <;> first | exact h _ q | exact q
  case list => split at q <;> first | exact h _ q | exact q
  case min =>
    split at q
    · obtain ⟨ns, e, l, q⟩ := q
      exact ⟨ns, e, l, fun m a b => h _ (q m a b)⟩
    · exact q
  case sum =>
    split at q
    · obtain ⟨ns, e, q⟩ := q
      exact ⟨ns, e, h _ q⟩
    · exact q
  case all =>
    split at q
    · obtain ⟨ns, e, q⟩ := q
      exact ⟨ns, e, h _ q⟩
    · exact q
  case any =>
    split at q
    · obtain ⟨ns, e, q⟩ := q
      exact ⟨ns, e, h _ q⟩
    · exact q
  case int => split at q <;> first | exact h _ q | exact q
  case lenset =>
    split at q
    · obtain ⟨ns, e, l, q⟩ := q
      exact ⟨ns, e, l, fun ks a b => h _ (q ks a b)⟩
    · obtain ⟨ns, e, l, q⟩ := q
      exact ⟨ns, e, l, fun ks a b => h _ (q ks a b)⟩
    · exact q
  case sortset =>
    split at q
    · obtain ⟨ns, e, l, q⟩ := q
      exact ⟨ns, e, l, fun ks a b => h _ (q ks a b)⟩
    · obtain ⟨ns, e, l, q⟩ := q
      exact ⟨ns, e, l, fun ks a b => h _ (q ks a b)⟩
    · exact q
  case sortp =>
    split at q
    · obtain ⟨tss, e, l, n, q⟩ := q
      exact ⟨tss, e, l, n, fun us a b => h _ (q us a b)⟩
    · exact q
end Co

set_option linter.all false
/-! Co3: the operations of the little language, as the machine has them. -/
namespace Co
open PySem PySem.Spec PyProof.Rows L2

def opOf : BOp → Operator
  | .add => .Add | .sub => .Sub | .mul => .Mult | .fdiv => .FloorDiv | .mod => .Mod | .pow => .Pow

section
variable {X : Cx}
theorem line_le {n : Nat} (h : n ≤ LINE) : n ≤ sizeLine := by rw [sizeLine_eq]; exact h
theorem le_line {n : Nat} (h : n ≤ sizeLine) : n ≤ LINE := by rw [sizeLine_eq] at h; exact h

/-- xs + ys, lists that are read -/
def rCatL (K : Frag) : R2 := fun x y H Q => ∃ a b xs ys, x = .ref a ∧ y = .ref b ∧ SqL K H a xs ∧ SqL K H b ys ∧ xs.length + ys.length ≤ sizeLine ∧ ∀ p, H p = none → Q (.ref p) (upd H p (.lst (xs ++ ys)))
theorem op_catL : OpR X (binaryOp .Add) (rCatL X.K) := by
  intro pins s σ H x y v u Q I rx ry h
  obtain ⟨a, b, xs, ys, rfl, rfl, hx, hy, hz, q⟩ := h
  cases rx
  cases ry
  obtain ⟨its, r, ⟨⟨cls, dd, data, sl⟩, n, e, hc, hd, hda⟩, z⟩ := I.list hx
  obtain ⟨its2, r2, ⟨⟨cls2, dd2, data2, sl2⟩, n2, e2, hc2, hd2, hda2⟩, z2⟩ := I.list hy
  simp only at hc hd hda hc2 hd2 hda2
  subst hc hd hda hc2 hd2 hda2
  have hl := r.length
  have hl2 := r2.length
  have hs : its.toArray.size + its2.toArray.size ≤ sizeLine := by rw [List.size_toArray, List.size_toArray, ← hl, ← hl2]; exact hz
  refine concat_meets ⟨_, e, rfl⟩ ⟨_, e2, rfl⟩ noFill_list_add seq_list_add PySem.F.slot_list_add PySem.F.entry_list_add (PySem.F.args_list_add_2 _ _) (list_addW a b its.toArray its2.toArray n n2 none none sl sl2 hs) ⟨e, e2, ?_⟩
  have ea : its.toArray ++ its2.toArray = (its ++ its2).toArray := List.append_toArray _ _
  rw [ea]
  exact ⟨.ref _, _, I.lnew (t' := s.toks) (r.append r2) (by rw [List.length_append]; exact hz), rfl, q _ I.fresh⟩

theorem tuple_mulOne (l : Addr) (items : Array Value) (n : Nat) (dd : Option Addr) (sl : Array (Option Value)) (x : Int) (u : Tok) (c0 : (decide (x < -(2 ^ 63)) || decide (x ≥ 2 ^ 63)) = false) (c1 : (items.isEmpty || x == 1) = true) :
    Meets (Builtin.«tuple.__mul__» ⟨[.ref l, .int x u], []⟩) (fun _ R s => s.heap.get? l = some { cls := .type "tuple", dict := dd, data := .seq items n, slots := sl } ∧ R (.ok (.ret (Value.ref l))) s) :=
  .of_wp fun prog w A R s h => by
    obtain ⟨hp, g, d, tk, os⟩ := s
    obtain ⟨hl, h⟩ := h
    have f1 := AutoSeq1.idx_int
    wp_walk using wpAny_loadPart' hl
    repeat (first
      | (refine wpAny_ite_false (decide_eq_false (by rw [c0]; exact Bool.false_ne_true)) ?_; wp_walk using wpAny_loadPart' hl)
      | (refine wpAny_ite_true (decide_eq_true c1) ?_; wp_walk using wpAny_loadPart' hl))
    exact ⟨_, rfl, h⟩
theorem tuple_mulNone (l : Addr) (items : Array Value) (n : Nat) (dd : Option Addr) (sl : Array (Option Value)) (x : Int) (u : Tok) (c0 : (decide (x < -(2 ^ 63)) || decide (x ≥ 2 ^ 63)) = false) (c1 : (items.isEmpty || x == 1) = false) (c2 : (decide (x ≤ 0) || items.isEmpty) = true) :
    Meets (Builtin.«tuple.__mul__» ⟨[.ref l, .int x u], []⟩) (fun _ R s => s.heap.get? l = some { cls := .type "tuple", dict := dd, data := .seq items n, slots := sl } ∧
      R (.ok (.ret (Value.ref s.heap.objs.size))) { s with heap := s.heap.push { cls := Value.type "tuple", data := Data.seq #[] }, toks := s.toks }) :=
  .of_wp fun prog w A R s h => by
    obtain ⟨hp, g, d, tk, os⟩ := s
    obtain ⟨hl, h⟩ := h
    have f1 := AutoSeq1.idx_int
    wp_walk using wpAny_loadPart' hl
    repeat (first
      | (refine wpAny_ite_false (decide_eq_false (by rw [c0]; exact Bool.false_ne_true)) ?_; wp_walk using wpAny_loadPart' hl)
      | (refine wpAny_ite_false (decide_eq_false (by rw [c1]; exact Bool.false_ne_true)) ?_; wp_walk using wpAny_loadPart' hl)
      | (refine wpAny_ite_true (decide_eq_true c2) ?_; wp_walk using wpAny_loadPart' hl))
    exact ⟨_, rfl, h⟩
/-- tuple * k, not the empty tuple -/
def rRepA (K : Frag) : R2 := fun x y H Q => ∃ l k xs, x = .ref l ∧ y = .int k ∧ SqT K H l xs ∧ xs ≠ [] ∧ 0 ≤ k ∧ k ≤ 1000 ∧ xs.length ≤ 1000 ∧
  (∀ p, H p = none → Q (.ref p) (upd H p (.tup (List.replicate k.toNat xs).flatten))) ∧ (k = 1 → Q (.ref l) H)
theorem op_repA : OpR X (binaryOp .Mult) (rRepA X.K) := by
  intro pins s σ H x y v u Q I rx ry h
  obtain ⟨l, k, xs, rfl, rfl, hT, hne, h0, h1, hz, q, q1⟩ := h
  by_cases hk : 2 ≤ k
  · exact op_repT pins s σ H _ _ v u Q I rx ry ⟨l, k, xs, rfl, rfl, hT, hne, hk, h1, hz, q⟩
  cases rx
  obtain ⟨t, rfl⟩ := ry
  obtain ⟨its, r, ⟨⟨cls, dd, data, sl⟩, ho, hc, n, hd⟩, hs⟩ := I.tuple hT
  simp only at hc hd
  subst hc hd
  have hi : its.toArray.isEmpty = false := by
    cases its with
    | nil => exact absurd (r.length.symm ▸ rfl : xs.length = 0) (fun e => hne (List.eq_nil_of_length_eq_zero e))
    | cons a b => rfl
  have c0 : (decide (k < -(2 ^ 63)) || decide (k ≥ 2 ^ 63)) = false := by
    rw [decide_eq_false (by omega), decide_eq_false (by omega)] <;> rfl
  by_cases he : k = 1
  · subst he
    have c1 : (its.toArray.isEmpty || (1 : Int) == 1) = true := by simp
    exact wpAny_binaryOp_repeat_ref (T := "tuple") (U := "int") (by decide) ⟨_, ho, rfl⟩ (fun s' => typeIs_int s' 1 t) noFill_tuple_mul F.fills_int_mul F.slot_int_rmul repeat_tuple F.slot_int_index.lookup
      (call_meets F.slot_int_rmul (typeIs_int s 1 t) F.entry_int_rmul (F.args_int_rmul_2 _ _) (int_rmul_tuple 1 t l its.toArray n dd sl)
        ⟨ho, rfl, ⟨_, ho, rfl⟩, call_meets F.slot_tuple_mul ⟨_, ho, rfl⟩ F.entry_tuple_mul (F.args_tuple_mul_2 _ _) (tuple_mulOne l its.toArray n dd sl 1 t c0 c1) ⟨ho, .ref l, H, I, rfl, q1 rfl⟩⟩)
  · have e : k = 0 := by omega
    subst e
    have c1 : (its.toArray.isEmpty || (0 : Int) == 1) = false := by rw [hi]; rfl
    have c2 : (decide ((0 : Int) ≤ 0) || its.toArray.isEmpty) = true := by simp
    refine wpAny_binaryOp_repeat_ref (T := "tuple") (U := "int") (by decide) ⟨_, ho, rfl⟩ (fun s' => typeIs_int s' 0 t) noFill_tuple_mul F.fills_int_mul F.slot_int_rmul repeat_tuple F.slot_int_index.lookup
      (call_meets F.slot_int_rmul (typeIs_int s 0 t) F.entry_int_rmul (F.args_int_rmul_2 _ _) (int_rmul_tuple 0 t l its.toArray n dd sl)
        ⟨ho, rfl, ⟨_, ho, rfl⟩, call_meets F.slot_tuple_mul ⟨_, ho, rfl⟩ F.entry_tuple_mul (F.args_tuple_mul_2 _ _) (tuple_mulNone l its.toArray n dd sl 0 t c0 c1 c2) ⟨ho, ?_⟩⟩)
    refine ⟨.ref s.heap.objs.size, _, I.laid (t' := s.toks) (o := .tup []) (fun b ob q => Heap.get?_push_of_some _ q) (Nat.le_refl _) ?_, rfl, q _ (I.hok.fresh (Nat.le_refl _))⟩
    exact ⟨Nat.zero_le _, [], .nil, IsTup.new _ _⟩

theorem binR (op : BOp) : OpR X (binaryOp (opOf op)) (rOp X.K (binD op)) := by
  intro pins s σ H x y v u Q I rx ry h
  obtain ⟨F, d1, d2, m, w1, w2, q⟩ := h
  unfold binD at q
  split at q
  · -- int, int
    rename_i i j
    cases w1
    cases w2
    unfold intBin at q
    cases op
    · exact op_add pins s σ H _ _ v u Q I rx ry ⟨i, j, rfl, rfl, q _ _ .int⟩
    · exact op_sub pins s σ H _ _ v u Q I rx ry ⟨i, j, rfl, rfl, q _ _ .int⟩
    · exact op_mul pins s σ H _ _ v u Q I rx ry ⟨i, j, rfl, rfl, q.1, q.2 _ _ .int⟩
    · exact op_fdiv pins s σ H _ _ v u Q I rx ry ⟨i, j, rfl, rfl, q.1, q.2 _ _ .int⟩
    · exact op_mod pins s σ H _ _ v u Q I rx ry ⟨i, j, rfl, rfl, q.1, q.2 _ _ .int⟩
    · exact op_pow pins s σ H _ _ v u Q I rx ry ⟨i, j, rfl, rfl, q.1, q.2 _ _ .int⟩
  · -- bool, int
    rename_i b j
    cases w1
    cases w2
    cases rx
    obtain ⟨t, rfl⟩ := ry
    unfold boolBin at q
    cases op <;> first | exact q.elim | skip
    · exact PySem.IntBool.add_bool_int ⟨.int _, H, I.tok _, ⟨_, rfl⟩, q _ _ .int⟩
    · exact PySem.IntBool.sub_bool_int ⟨.int _, H, I.tok _, ⟨_, rfl⟩, q _ _ .int⟩
    · exact PySem.IntBool.mul_bool_int ⟨.int _, H, I.tok _, ⟨_, rfl⟩, q _ _ .int⟩
  · -- texts
    rename_i a b
    cases w1
    cases w2
    obtain ⟨rfl, z, q⟩ := q
    exact op_add_str pins s σ H _ _ v u Q I rx ry ⟨a, b, rfl, rfl, line_le z, q _ _ .str⟩
  · -- lists
    obtain ⟨rfl, z, q⟩ := q
    obtain ⟨a, xs, rfl, h1, t1⟩ := w1
    obtain ⟨b, ys, rfl, h2, t2⟩ := w2
    refine op_catL pins s σ H _ _ v u Q I rx ry ⟨a, b, xs, ys, rfl, rfl, h1, h2, ?_, fun p n => q _ _ (.own n ⟨_, upd_same, t1.append t2⟩)⟩
    rw [t1.length, t2.length]; exact line_le z
  · -- tuples
    obtain ⟨rfl, z, q⟩ := q
    obtain ⟨a, xs, rfl, h1, t1⟩ := w1
    obtain ⟨b, ys, rfl, h2, t2⟩ := w2
    refine op_catA pins s σ H _ _ v u Q I rx ry ⟨a, b, xs, ys, rfl, rfl, same_sqT m h1, same_sqT m h2, by rw [t1.length, t2.length]; exact line_le z, fun e => ?_, fun _ e => ?_, fun _ _ p n => q _ _ (.tup n (t1.append t2))⟩
    · subst e
      cases t1
      exact q _ _ (.old (.tup h2 t2))
    · subst e
      cases t2
      rw [List.append_nil] at q
      exact q _ _ (.old (.tup h1 t1))
  · -- tuple * int
    obtain ⟨rfl, ne, k0, k1, z, q⟩ := q
    obtain ⟨a, xs, rfl, h1, t1⟩ := w1
    cases w2
    exact op_repA pins s σ H _ _ v u Q I rx ry ⟨a, _, xs, rfl, rfl, same_sqT m h1, fun e => ne (by subst e; cases t1; rfl), k0, k1, by rw [t1.length]; exact z, fun p n => q _ _ (.tup n (t1.rep _)), fun e => by
      subst e
      have e2 := q (.ref a) H (.old (.tup h1 (by simpa using t1)))
      exact e2⟩
  · exact q.elim
end
end Co

set_option linter.all false
/-! Co34: anything asked for in a list of tuples of ints. -/
namespace PySem.SeqAt
open AutoSeq1 (wpAny_loadPart')
open MeetsSeq
section
variable {A : Around} {s : Shared} {a : Addr} {o : Obj} {es : Array DictEntry} {ep : Nat}
theorem dict_eq_declines {prog : Program} {w : World} {E : Value → Shared → Prop} {T : String} {x : Value} {Q : Value → Shared → Prop} (ta : s.TypeIs (.ref a) "dict") (tx : s.TypeIs x T) (hs : isSubtype (.type T) (.type "dict") = pure false) (h : Q .notImplemented s) :
    wpAny (model prog w) A (call (.builtin "dict.__eq__") [.ref a, x]) Q E s := by
  refine wpAny_call_entry PySem.F.slot_dict_eq_refl ta PySem.F.entry_dict_eq ?_ (PySem.F.args_dict_eq_2 _ _)
  show wpAny _ _ (Builtin.Dict.dictSlotArgs "__eq__" ⟨[.ref a, x], []⟩ >>= _) _ _ s
  refine wpAny_bind ?_
  unfold Builtin.Dict.dictSlotArgs
  refine wpAny_bind (wpAny_notOrdered_dict ta ?_)
  show wpAny _ _ (pure (Value.ref a, x)) _ _ s
  refine wpAny_pure ?_
  refine wpAny_bind (wpAny_isInstance (T := T) tx hs ?_)
  simp only [Bool.not_false, if_true]
  exact wpAny_bind (wpAny_rule (wpAny_pure ⟨_, rfl, h⟩))
theorem int_eq_declines_dict (b : Int) (u : Tok) (l : Addr) (c : Value) (es : Array DictEntry) (n : Nat) (dd : Option Addr) (sl : Array (Option Value)) :
    Meets (Builtin.«int.__eq__» ⟨[.int b u, .ref l], []⟩) (fun _ R s => s.heap.get? l = some { cls := c, dict := dd, data := .dict es n, slots := sl } ∧ R (.ok (.ret .notImplemented)) s) :=
  .of_wp fun prog w A R s h => by obtain ⟨hp, g, d, tk, os⟩ := s; obtain ⟨hl, h⟩ := h; wp_walk using wpAny_loadPart' hl, wpAny_load hl; exact ⟨_, rfl, h⟩
theorem tuple_eq_declines_dict (l b : Addr) (items : Array Value) (es : Array DictEntry) (n n2 : Nat) (dd dd2 : Option Addr) (sl sl2 : Array (Option Value)) :
    Meets (Builtin.«tuple.__eq__» ⟨[.ref l, .ref b], []⟩) (fun _ R s => s.heap.get? l = some { cls := .type "tuple", dict := dd, data := .seq items n, slots := sl } ∧ s.heap.get? b = some { cls := .type "dict", dict := dd2, data := .dict es n2, slots := sl2 } ∧ R (.ok (.ret .notImplemented)) s) :=
  .of_wp fun prog w A R s h => by obtain ⟨hp, g, d, tk, os⟩ := s; obtain ⟨hl, hb, h⟩ := h; have f1 := F.sub_dict_tuple; wp_walk using wpAny_loadPart' hl, wpAny_loadPart' hb; exact ⟨_, rfl, h⟩
theorem EqAt.int_dict (b : Int) (u : Tok) (ho : s.heap.get? a = some o) (hc : o.cls = .type "dict") (hd : o.data = .dict es ep) (hu : A.units < cLine) : EqAt A s (.int b u) (.ref a) false := fun prog w E Q h => by
  obtain ⟨cls, dd, data, sl⟩ := o
  simp only at hc hd
  subst hc hd
  unfold eqBool
  refine wpAny_holding ?_
  refine wpAny_ite_split (fun hab => absurd (eq_of_beq hab) nofun) (fun _ => ?_)
  refine wpAny_bind (rc_eq_decline_or (k := false) (typeIs_int s b u) ⟨_, ho, rfl⟩ (by decide) F.sub_dict_int F.slot_int_eq F.slot_dict_eq_refl
    (fun _ hq => call_meets F.slot_int_eq (typeIs_int s b u) F.entry_int_eq (F.args_int_eq_2 _ _) (int_eq_declines_dict b u a (.type "dict") es ep dd sl) ⟨ho, hq⟩)
    (fun _ hq => dict_eq_declines ⟨_, ho, rfl⟩ (typeIs_int s b u) F.sub_int_dict hq)
    (fun _ hq => wpAny_of_eq (rfl : isSame (.int b u) (.ref a) = pure false) hq) (.inr hu) (wpAny_truthy_bool h))
theorem EqAt.tuple_dict {l : Addr} {items : Array Value} (hl : s.heap.IsTuple l items) (ho : s.heap.get? a = some o) (hc : o.cls = .type "dict") (hd : o.data = .dict es ep) (hu : A.units < cLine) : EqAt A s (.ref l) (.ref a) false := by
  have hne : l ≠ a := fun e => by
    subst e
    obtain ⟨o2, ho2, hc2, _⟩ := hl
    rw [ho] at ho2
    cases ho2
    rw [hc] at hc2
    exact absurd hc2 (by simp)
  refine .of_refs hne fun prog w E Q h => ?_
  obtain ⟨⟨cls, dd, data, sl⟩, ho1, hc1, n, hd1⟩ := id hl
  obtain ⟨cls2, dd2, data2, sl2⟩ := o
  simp only at hc hd hc1 hd1
  subst hc hd hc1 hd1
  exact rc_eq_decline_or (k := false) ⟨_, ho1, rfl⟩ ⟨_, ho, rfl⟩ (by decide) F.sub_dict_tuple F.slot_tuple_eq F.slot_dict_eq_refl
    (fun _ hq => call_meets F.slot_tuple_eq ⟨_, ho1, rfl⟩ F.entry_tuple_eq (F.args_tuple_eq_2 _ _) (tuple_eq_declines_dict l a items es n ep dd dd2 sl sl2) ⟨ho1, ho, hq⟩)
    (fun _ hq => dict_eq_declines ⟨_, ho, rfl⟩ ⟨_, ho1, rfl⟩ F.sub_tuple_dict hq)
    (fun _ hq => wpAny_isSame_ref_other' hne ho1 ho (by simp) hq) (.inr hu) h
end
end PySem.SeqAt
namespace Co
open PySem PySem.Spec PyProof.Rows L2
theorem intsOf_map0 : ∀ {ds : List PyData} {ns : List Int}, intsOf ds = some ns → ds = ns.map .int
  | [], ns, h => by cases h; rfl
  | .int i :: r, ns, h => by
    cases q : intsOf r with
    | none => simp [intsOf, q] at h
    | some m =>
      simp [intsOf, q] at h
      subst h
      rw [intsOf_map0 q]; rfl
  | .none :: _, _, h => by simp [intsOf] at h
  | .bool _ :: _, _, h => by simp [intsOf] at h
  | .str _ :: _, _, h => by simp [intsOf] at h
  | .list _ :: _, _, h => by simp [intsOf] at h
  | .tuple _ :: _, _, h => by simp [intsOf] at h
  | .dict _ :: _, _, h => by simp [intsOf] at h
section
variable {X : Cx} {pins : List (Addr × Obj)} {σ : L2.St} {F H : Hp} {s : Shared} {A : Around}
theorem tups_items (I : Inv X pins σ H s) (m : Same F H) : ∀ {ds : List PyData} {xs : List V} {its : List Value}, (tupsOf ds).isSome = true → DenAll X.K F xs ds → Vals xs its →
    (∀ v ∈ its, ∃ ns, TS.TupInts s.heap v ns) ∧ its.map (fun v => PyData.tuple ((TS.intsOf s.heap v).map .int)) = ds
  | [], _, _, e, .nil, .nil => ⟨by simp, rfl⟩
  | .tuple es :: ds, _, _, e, .cons (.tup (a := a) hq ht) t, .cons r rr => by
    simp only [tupsOf] at e
    cases h1 : Co.intsOf es with
    | none => rw [h1] at e; cases e
    | some ns =>
      rw [h1] at e
      have e2 : (tupsOf ds).isSome = true := by
        cases h2 : tupsOf ds with
        | none => rw [h2] at e; cases e
        | some _ => rfl
      cases r
      obtain ⟨i1, i2⟩ := tups_items I m e2 t rr
      have ees := intsOf_map0 h1
      subst ees
      have ex := ht.ints
      subst ex
      have tq := tupI_raw I (same_sqT m hq)
      refine ⟨fun v hv => ?_, ?_⟩
      · rcases List.mem_cons.mp hv with rfl | hv
        · exact ⟨ns, tq⟩
        · exact i1 v hv
      · rw [List.map_cons, i2, tq.ints]
  | .none :: _, _, _, e, _, _ => by simp [tupsOf] at e
  | .int _ :: _, _, _, e, _, _ => by simp [tupsOf] at e
  | .bool _ :: _, _, _, e, _, _ => by simp [tupsOf] at e
  | .str _ :: _, _, _, e, _, _ => by simp [tupsOf] at e
  | .list _ :: _, _, _, e, _, _ => by simp [tupsOf] at e
  | .dict _ :: _, _, _, e, _, _ => by simp [tupsOf] at e
theorem dict_at (I : Inv X pins σ H s) {a : Addr} {kv : List (Key × V)} (h : H a = some (.dK kv)) : ∃ o es ep, s.heap.get? a = some o ∧ o.cls = .type "dict" ∧ o.data = .dict es ep := by
  obtain ⟨_, _, vs, _, o, es, ep, h1, h2, h3, _⟩ := dk_of I.hok h
  exact ⟨o, es, ep, h1, h2.1, h3⟩
theorem eq_int_any (I : Inv X pins σ H s) (m : Same F H) (hu : A.units < cLine) {a : Int} {t : Tok} {v : V} {u : Value} {d : PyData} (hd : Den X.K F v d) (r : RelV v u) : SeqAt.EqAt A s (.int a t) u (PyData.eqv (.int a) d) := by
  cases hd with
  | non => cases r; exact SeqAt.EqAt.int_none a t
  | bl b => cases r; exact SeqAt.EqAt.int_bool a t b
  | int i => obtain ⟨t', rfl⟩ := r; exact SeqAt.EqAt.int_int a t i t'
  | str x => obtain ⟨t', rfl⟩ := r; exact SeqAt.EqAt.int_str a t x t'
  | lst hq _ =>
    cases r
    obtain ⟨its, rv, hl, _⟩ := I.list (m.seq hq)
    exact SeqAt.EqAt.int_list a t hl.isList hu
  | tup hq _ =>
    cases r
    obtain ⟨its, rv, hl, _⟩ := I.tuple (same_sqT m hq)
    exact SeqAt.EqAt.int_tuple a t (show s.heap.IsTuple _ its.toArray from hl) hu
  | dct hq _ _ =>
    cases r
    obtain ⟨o, es, ep, h1, h2, h3⟩ := dict_at I (m _ _ hq)
    exact SeqAt.EqAt.int_dict a t h1 h2 h3 hu
theorem vals_at : ∀ {xs : List V} {us : List Value} {j : Nat} {u : Value}, Vals xs us → us[j]? = some u → ∃ v, xs[j]? = some v ∧ RelV v u
  | [], [], j, u, .nil, e => by simp at e
  | x :: xs, y :: us, 0, u, .cons r _, e => by
    simp at e; subst e
    exact ⟨x, rfl, r⟩
  | x :: xs, y :: us, j + 1, u, .cons _ t, e => by simpa using vals_at (j := j) t (by simpa using e)
theorem ints_at : ∀ {ns : List Int} {us : List Value} {j : Nat} {u : Value}, IntsAre us ns → us[j]? = some u → ∃ (a : Int) (t : Tok), u = .int a t ∧ ns[j]? = some a
  | _, [], j, u, .nil, e => by simp at e
  | _, _ :: us, 0, u, .cons x t _, e => by
    simp at e; subst e
    exact ⟨_, _, rfl, rfl⟩
  | _, _ :: us, j + 1, u, .cons _ _ h, e => by simpa using ints_at (j := j) h (by simpa using e)
/-- a tuple of ints against anything -/
theorem eq_tup_any (I : Inv X pins σ H s) (m : Same F H) (hu : A.units + 1 < cLine) {y : Value} {ns : List Int} {v : V} {u : Value} {d : PyData} (ht : TS.TupInts s.heap y ns) (hd : View X.K F H v d) (r : RelV v u) : SeqAt.EqAt A s y u (PyData.eqv (.tuple (ns.map .int)) d) := by
  obtain ⟨a, xs, rfl, it, hI⟩ := ht
  have hu0 : A.units < cLine := by omega
  have it' : s.heap.IsTuple a xs := it
  cases d with
  | none => cases hd; cases r; exact SeqAt.EqAt.tuple_none it' hu0
  | bool b => cases hd; cases r; exact SeqAt.EqAt.tuple_bool b it' hu0
  | int i => cases hd; obtain ⟨t', rfl⟩ := r; exact SeqAt.EqAt.tuple_int i t' it' hu0
  | str x => cases hd; obtain ⟨t', rfl⟩ := r; exact SeqAt.EqAt.tuple_str x t' it' hu0
  | list ds =>
    obtain ⟨b, zs, rfl, hq, _⟩ := hd
    cases r
    obtain ⟨its, rv, hl, _⟩ := I.list hq
    exact SeqAt.EqAt.tuple_list it' hl.isList hu0
  | dict kvs =>
    obtain ⟨b, kv, ds, rfl, hq, _, _⟩ := hd
    cases r
    obtain ⟨o, es, ep, h1, h2, h3⟩ := dict_at I hq
    exact SeqAt.EqAt.tuple_dict it' h1 h2 h3 hu0
  | tuple ds =>
    obtain ⟨b, zs, rfl, hq, t⟩ := hd
    cases r
    obtain ⟨its, rv, hl, _⟩ := I.tuple (same_sqT m hq)
    have hl' : s.heap.IsTuple b its.toArray := hl
    have hlen : its.length = ds.length := by rw [← rv.length, t.length]
    have hxl : xs.size = ns.length := by rw [← Array.length_toList]; exact hI.length
    by_cases hab : a = b
    · subst hab
      have hx : xs.toList = its := by
        obtain ⟨o, ho, hc, n, hdd⟩ := it
        obtain ⟨o2, ho2, hc2, n2, hd2⟩ := hl'
        rw [ho] at ho2; cases ho2
        rw [hdd] at hd2
        injection hd2 with e1 e2
        rw [e1]
      have : ds = ns.map .int := by
        apply List.ext_getElem?
        intro j
        cases hj : ds[j]? with
        | none =>
          have h1 := List.getElem?_eq_none_iff.mp hj
          rw [List.getElem?_eq_none]
          rw [List.length_map, ← hxl, ← Array.length_toList, hx, hlen]; exact h1
        | some dj =>
          have h1 := (List.getElem?_eq_some_iff.mp hj).1
          obtain ⟨w, hw, dw⟩ := t.get hj
          obtain ⟨uj, huj⟩ : ∃ uj, its[j]? = some uj := ⟨_, List.getElem?_eq_getElem (by omega)⟩
          obtain ⟨w', hw', rw'⟩ := vals_at rv huj
          rw [hw] at hw'; cases hw'
          rw [← hx] at huj
          obtain ⟨i, ti, rfl, hi⟩ := ints_at hI huj
          rw [List.getElem?_map, hi]
          cases dw with
          | int i' => obtain ⟨t2, e⟩ := rw'; cases e; rfl
          | non => cases rw'
          | bl b => cases rw'
          | str x => obtain ⟨_, e⟩ := rw'; cases e
          | lst _ _ => cases rw'
          | tup _ _ => cases rw'
          | dct _ _ _ => cases rw'
      rw [this]
      have e : PyData.eqv (.tuple (ns.map .int)) (.tuple (ns.map .int)) = true := SeqAt.eqv_refl _ (by
        have : ∀ l : List Int, PyData.canLayAll0 (l.map .int) = true := fun l => by
          induction l with
          | nil => rfl
          | cons x l ih => simp [PyData.canLayAll0, PyData.canLay0, ih]
        simp [PyData.canLay0, this])
      rw [e]
      exact SeqAt.EqAt.same _
    · refine .of_refs hab ?_
      have e := SeqAt.eqvAll_eq (ns.map PyData.int) ds
      have e2 : PyData.eqv (.tuple (ns.map .int)) (.tuple ds) = PyData.eqvAll (ns.map .int) ds := by simp only [PyData.eqv]
      have hsz : (xs.size == its.toArray.size) = ((ns.map PyData.int).length == ds.length) := by rw [hxl, List.size_toArray, hlen, List.length_map]
      have hmin : min xs.size its.toArray.size = min (ns.map PyData.int).length ds.length := by rw [hxl, List.size_toArray, hlen, List.length_map]
      rw [e2, ← e, ← hsz, ← hmin]
      refine SeqAt.RcAt.tuples it' hl' hu0 fun j h1 h2 => ?_
      have hj1 : xs.toList[j]? = some xs[j] := by simp [h1]
      have hj2 : its[j]? = some its.toArray[j] := by simp at h2; simp [h2]
      obtain ⟨i, ti, ei, hi⟩ := ints_at hI hj1
      obtain ⟨w, hw, rw'⟩ := vals_at rv hj2
      obtain ⟨dj, hdj, dw⟩ := t.getV hw
      have : SeqAt.pairEq (ns.map PyData.int) ds j = PyData.eqv (.int i) dj := by
        unfold SeqAt.pairEq
        simp [hi, hdj]
      rw [this, ei]
      exact eq_int_any I m hu dw rw'
end
end Co

set_option linter.all false
/-! Co4: comparisons, subscripts, slices. -/
namespace Co
open PySem PySem.Spec PyProof.Rows L2

def cmpOf : COp → CmpOp
  | .eq => .Eq | .ne => .NotEq | .lt => .Lt | .le => .LtE | .gt => .Gt | .ge => .GtE | .isin => .In | .notin => .NotIn

/-! ### data without dicts -/
mutual
theorem Den.dp {K : Frag} {F : Hp} : ∀ {v : V} {d : PyData}, Den K F v d → d.canLay0 = true → Dp K F v d
  | _, _, .non, _ => .non
  | _, _, .bl b, _ => .bl b
  | _, _, .int i, _ => .int i
  | _, _, .str x, _ => .str x
  | _, _, .lst h t, q => .lst h (DenAll.dp t (by simpa [PyData.canLay0] using q))
  | _, _, .tup h t, q => .tup h (DenAll.dp t (by simpa [PyData.canLay0] using q))
  | _, _, .dct h t e, q => by simp [PyData.canLay0] at q
theorem DenAll.dp {K : Frag} {F : Hp} : ∀ {v : List V} {d : List PyData}, DenAll K F v d → PyData.canLayAll0 d = true → DpAll K F v d
  | _, _, .nil, _ => .nil
  | _, _, .cons h t, q => by
    simp only [PyData.canLayAll0, Bool.and_eq_true] at q
    exact .cons (Den.dp h q.1) (DenAll.dp t q.2)
end

/-! ### dicts -/
theorem eqv_key (a b : Key) : PyData.eqv (keyD a) (keyD b) = decide (a = b) := by
  cases a <;> cases b <;> simp [keyD, PyData.eqv]
  · exact (Bool.beq_eq_decide_eq _ _)
  · exact (Bool.beq_eq_decide_eq _ _)
theorem isKey_of {d : PyData} (h : isKey d = true) : ∃ k, d = keyD k := by
  cases d <;> simp [isKey] at h
  · exact ⟨.inl _, rfl⟩
  · exact ⟨.inr _, rfl⟩
theorem den_key {K : Frag} {F : Hp} {v : V} {k : Key} (h : View K F F v (keyD k)) : v = kV k := by
  cases k <;> exact h
theorem view_key {K : Frag} {F H : Hp} {v : V} {k : Key} (h : View K F H v (keyD k)) : v = kV k := by
  cases k <;> exact h
section
variable {K : Frag} {F : Hp}
theorem look_dct {k : Key} : ∀ {kv : List (Key × V)} {ds : List PyData}, DenAll K F (kv.map (·.2)) ds →
    (valV kv k = none ∧ lookK (dctOf kv ds) (keyD k) = none) ∨ ∃ v d, valV kv k = some v ∧ lookK (dctOf kv ds) (keyD k) = some d ∧ Den K F v d
  | [], ds, h => by
    cases h
    exact .inl ⟨rfl, rfl⟩
  | (a, v) :: kv, ds, h => by
    cases h with
    | @cons _ _ d ds h t =>
      by_cases e : a = k
      · refine .inr ⟨v, d, valV_pos e, ?_, h⟩
        simp [lookK, dctOf, List.find?_cons, eqv_key, e]
      · have e2 : lookK (dctOf ((a, v) :: kv) (d :: ds)) (keyD k) = lookK (dctOf kv ds) (keyD k) := by
          simp [lookK, dctOf, List.find?_cons, eqv_key, e]
        rw [e2, valV_neg (p := (a, v)) e]
        exact look_dct t
theorem any_dct {k : Key} {kv : List (Key × V)} {ds : List PyData} (t : DenAll K F (kv.map (·.2)) ds) : ((dctOf kv ds).any fun p => PyData.eqv p.1 (keyD k)) = kv.any fun p => decide (p.1 = k) := by
  induction kv generalizing ds with
  | nil => cases t; rfl
  | cons p kv ih =>
    cases t with
    | @cons _ _ d ds h t =>
      show ((PyData.eqv (keyD p.1) (keyD k)) || (dctOf kv ds).any _) = _
      rw [ih t, eqv_key]; rfl
theorem map_dct {k : Key} {v : V} {d : PyData} (hv : Den K F v d) : ∀ {kv : List (Key × V)} {ds : List PyData}, DenAll K F (kv.map (·.2)) ds →
    ∃ ds', DenAll K F ((kv.map (fun p => if p.1 = k then (p.1, v) else p)).map (·.2)) ds' ∧ (dctOf kv ds).map (fun p => if PyData.eqv p.1 (keyD k) = true then (p.1, d) else p) = dctOf (kv.map (fun p => if p.1 = k then (p.1, v) else p)) ds'
  | [], ds, h => by
    cases h
    exact ⟨[], .nil, rfl⟩
  | (a, w) :: kv, ds, h => by
    cases h with
    | @cons _ _ e ds h t =>
      obtain ⟨ds', i1, i2⟩ := map_dct hv t
      by_cases q : a = k
      · refine ⟨d :: ds', ?_, ?_⟩
        · simp only [List.map_cons, if_pos q]
          exact .cons hv i1
        · simp only [List.map_cons, dctOf, List.zip_cons_cons, eqv_key, q, decide_true, if_true] at i2 ⊢
          rw [← i2]
      · refine ⟨e :: ds', ?_, ?_⟩
        · simp only [List.map_cons, if_neg q]
          exact .cons h i1
        · simp only [List.map_cons, dctOf, List.zip_cons_cons, eqv_key, q, decide_false, Bool.false_eq_true, if_false] at i2 ⊢
          rw [← i2]
theorem zip_one {α β : Type} : ∀ (as : List α) (bs : List β) (a : α) (b : β), as.length = bs.length → (as ++ [a]).zip (bs ++ [b]) = as.zip bs ++ [(a, b)] := fun as bs a b h => by
  rw [List.zip_append h]; rfl
theorem put_dct {k : Key} {v : V} {d : PyData} (hv : Den K F v d) {kv : List (Key × V)} {ds : List PyData} (t : DenAll K F (kv.map (·.2)) ds) :
    ∃ ds', DenAll K F ((L2.putK kv k v).map (·.2)) ds' ∧ putK (dctOf kv ds) (keyD k) d = dctOf (L2.putK kv k v) ds' := by
  unfold putK L2.putK
  rw [any_dct t]
  split
  · exact map_dct hv t
  · refine ⟨ds ++ [d], ?_, ?_⟩
    · rw [List.map_append]; exact t.append (.cons hv .nil)
    · unfold dctOf
      rw [List.map_append, List.map_cons, List.map_nil, zip_one]
      have := t.length
      simpa using this
end

section
variable {X : Cx}
theorem View.dp {K : Frag} {F H : Hp} (m : Same F H) {v : V} {d : PyData} (h : View K F H v d) (q : SeqAt.shaped d = true) : Dp K H v d := (h.den m).dp (SeqAt.canLay_of_shaped q)
def qB (D : PyData → PyData → (Bool → Prop) → Prop) : PyData → PyData → (R → Prop) → Prop := fun x y Q => D x y fun b => Q (.val (.bool b))
theorem op_inTup (hu : X.A.units + 65 < cLine) {pins : List (Addr × Obj)} {s : Shared} {σ : L2.St} {H : Hp} {x y : V} {v u : Value} {Q : VK} {d : PyData} {ds : List PyData} (I : Inv X pins σ H s) (rx : RelV x v) (ry : RelV y u)
    (hd : Dp X.K H x d) (he : Dp X.K H y (.tuple ds)) (sd : SeqAt.shaped d = true) (se : SeqAt.shaped (.tuple ds) = true) (q : Q (.bl (ds.any fun z => PyData.eqv z d)) H) :
    wpAny (model X.prog X.w) X.A (compareOp .In v u) (EP X pins σ Q) X.xe s := by
  obtain ⟨as, r1⟩ := Dp.reads I d x v hd rx
  obtain ⟨bs, r2⟩ := Dp.reads I (.tuple ds) y u he ry
  have hc : PyData.canLayAll0 ds = true := by simpa [PyData.canLay0] using SeqAt.canLay_of_shaped se
  exact SeqAt.in_tuple_reads r2 r1 hc (SeqAt.canLay_of_shaped sd) (room_in_shaped sd hu) ⟨.bl _, H, I, rfl, q⟩
theorem op_notInTup (hu : X.A.units + 65 < cLine) {pins : List (Addr × Obj)} {s : Shared} {σ : L2.St} {H : Hp} {x y : V} {v u : Value} {Q : VK} {d : PyData} {ds : List PyData} (I : Inv X pins σ H s) (rx : RelV x v) (ry : RelV y u)
    (hd : Dp X.K H x d) (he : Dp X.K H y (.tuple ds)) (sd : SeqAt.shaped d = true) (se : SeqAt.shaped (.tuple ds) = true) (q : Q (.bl (!ds.any fun z => PyData.eqv z d)) H) :
    wpAny (model X.prog X.w) X.A (compareOp .NotIn v u) (EP X pins σ Q) X.xe s := by
  obtain ⟨as, r1⟩ := Dp.reads I d x v hd rx
  obtain ⟨bs, r2⟩ := Dp.reads I (.tuple ds) y u he ry
  have hc : PyData.canLayAll0 ds = true := by simpa [PyData.canLay0] using SeqAt.canLay_of_shaped se
  exact SeqAt.notIn_tuple_reads r2 r1 hc (SeqAt.canLay_of_shaped sd) (room_in_shaped sd hu) ⟨.bl _, H, I, rfl, q⟩
theorem dget_view {K : Frag} {F H : Hp} {k : Key} {kv : List (Key × V)} {ds : List PyData} {a : Addr} (h : H a = some (.dK kv)) (t : DenAll K F (kv.map (·.2)) ds) :
    ∃ o, DGet H a (kV k) o ∧ o.isSome = (lookK (dctOf kv ds) (keyD k)).isSome ∧ ∀ d, lookK (dctOf kv ds) (keyD k) = some d → ∃ v, o = some v ∧ Den K F v d := by
  refine ⟨_, DGet.k h, ?_, fun d q => ?_⟩
  · rcases look_dct (k := k) t with ⟨a, b⟩ | ⟨v, d, a, b, c⟩ <;> rw [a, b] <;> rfl
  · rcases look_dct (k := k) t with ⟨a, b⟩ | ⟨v, d', a, b, c⟩
    · rw [b] at q; cases q
    · rw [b] at q; cases q
      exact ⟨v, a, c⟩
/-- anything in a list of tuples of ints -/
theorem op_inT (hu : X.A.units + 65 < cLine) {pins : List (Addr × Obj)} {s : Shared} {σ : L2.St} {F H : Hp} {x y : V} {v u : Value} {d : PyData} {ds : List PyData} (I : Inv X pins σ H s) (m : Same F H) (rx : RelV x v) (ry : RelV y u)
    (hd : View X.K F H x d) (he : View X.K F H y (.list ds)) (st : (tupsOf ds).isSome = true) : ∃ l items e, u = .ref l ∧ s.heap.IsList l items ∧ (∀ z, z ∈ items → SeqAt.EqAt X.A.in1 s z v (e z)) ∧ items.any e = ds.any fun z => PyData.eqv z d := by
  obtain ⟨a, xs, rfl, hq, t⟩ := he
  cases ry
  obtain ⟨its, rv, hl, hz⟩ := I.list hq
  obtain ⟨i1, i2⟩ := tups_items I m st t rv
  refine ⟨a, its.toArray, fun z => PyData.eqv (.tuple ((TS.intsOf s.heap z).map .int)) d, rfl, hl.isList, fun z hz => ?_, ?_⟩
  · have hz' : z ∈ its := by simpa using hz
    obtain ⟨ns, tn⟩ := i1 z hz'
    have := eq_tup_any (A := X.A.in1) I m (by show X.A.units + 1 + 1 < cLine; omega) tn hd rx
    have e : (fun z => (PyData.tuple (List.map PyData.int (TS.intsOf s.heap z))).eqv d) z = (PyData.tuple (List.map PyData.int ns)).eqv d := by
      show (PyData.tuple (List.map PyData.int (TS.intsOf s.heap z))).eqv d = _
      rw [tn.ints]
    rw [e]
    exact this
  · rw [← i2, List.any_map, ← Array.any_toList]
    rfl
theorem memR_in (hu : X.A.units + 66 < cLine) : OpR X (compareOp .In) (rOp X.K (qB memD)) := by
  intro pins s σ H x y v u Q I rx ry h
  obtain ⟨F, d1, d2, m, w1, w2, q⟩ := h
  unfold qB memD at q
  split at q
  · rename_i ds
    cases hsh : SeqAt.shaped d1 with
    | true => exact op_inD (by omega) pins s σ H x y v u Q I rx ry ⟨d1, ds, w1.dp m hsh, w2.dp m q.2.1, hsh, q.2.1, q.2.2 _ _ .bl⟩
    | false =>
      have st : (tupsOf ds).isSome = true := by have := q.1; unfold shapedIn at this; rw [hsh] at this; simpa using this
      obtain ⟨l, items, e, rfl, hl, he, ha⟩ := op_inT (by omega) I m rx ry w1 w2 st
      exact SeqAt.in_listAt e hl he (by rw [ha]; exact ⟨.bl _, H, I, rfl, q.2.2 _ _ .bl⟩)
  · rename_i ds
    exact op_inTup (by omega) I rx ry (w1.dp m q.1) (w2.dp m q.2.1) q.1 q.2.1 (q.2.2 _ _ .bl)
  · rename_i kvs
    obtain ⟨hk, q⟩ := q
    obtain ⟨k, rfl⟩ := isKey_of hk
    obtain rfl := view_key w1
    obtain ⟨a, kv, ds, rfl, h1, t, rfl⟩ := w2
    cases ry
    obtain ⟨o, g, e, _⟩ := dget_view (k := k) h1 t
    refine d_in (by omega) I g rx fun s' I' => ⟨.bl _, H, I', rfl, ?_⟩
    rw [e]
    exact q _ _ .bl
  · exact q.elim
theorem memR_notin (hu : X.A.units + 66 < cLine) : OpR X (compareOp .NotIn) (rOp X.K (qB fun x y K => memD x y fun b => K (!b))) := by
  intro pins s σ H x y v u Q I rx ry h
  obtain ⟨F, d1, d2, m, w1, w2, q⟩ := h
  replace q : memD d1 d2 fun b => ∀ v H', Out X.K F H (.val (.bool !b)) v H' → Q v H' := q
  unfold memD at q
  split at q
  · rename_i ds
    cases hsh : SeqAt.shaped d1 with
    | true => exact op_notInD (by omega) pins s σ H x y v u Q I rx ry ⟨d1, ds, w1.dp m hsh, w2.dp m q.2.1, hsh, q.2.1, q.2.2 _ _ .bl⟩
    | false =>
      have st : (tupsOf ds).isSome = true := by have := q.1; unfold shapedIn at this; rw [hsh] at this; simpa using this
      obtain ⟨l, items, e, rfl, hl, he, ha⟩ := op_inT (by omega) I m rx ry w1 w2 st
      exact SeqAt.notIn_listAt e hl he (by rw [ha]; exact ⟨.bl _, H, I, rfl, q.2.2 _ _ .bl⟩)
  · rename_i ds
    exact op_notInTup (by omega) I rx ry (w1.dp m q.1) (w2.dp m q.2.1) q.1 q.2.1 (q.2.2 _ _ .bl)
  · rename_i kvs
    obtain ⟨hk, q⟩ := q
    obtain ⟨k, rfl⟩ := isKey_of hk
    obtain rfl := view_key w1
    obtain ⟨a, kv, ds, rfl, h1, t, rfl⟩ := w2
    cases ry
    obtain ⟨o, g, e, _⟩ := dget_view (k := k) h1 t
    refine d_notIn (by omega) I g rx fun s' I' => ⟨.bl _, H, I', rfl, ?_⟩
    rw [e]
    exact q _ _ .bl
  · exact q.elim
theorem bool_lt_int (a : Bool) (b : Int) (u : Tok) : Gives (Builtin.«int.__lt__» ⟨[.bool a, .int b u], []⟩) (.val (Value.bool (decide ((if a = true then (1 : Int) else 0) < b)))) :=
  .of_wp fun M A E s Q h => by obtain ⟨hp, g, d, tk, os⟩ := s; wp_walk; exact ⟨_, rfl, h⟩
theorem bool_ge_int (a : Bool) (b : Int) (u : Tok) : Gives (Builtin.«int.__ge__» ⟨[.bool a, .int b u], []⟩) (.val (Value.bool (decide ((if a = true then (1 : Int) else 0) ≥ b)))) :=
  .of_wp fun M A E s Q h => by obtain ⟨hp, g, d, tk, os⟩ := s; wp_walk; exact ⟨_, rfl, h⟩
theorem ordR (op : COp) (h1 : op ≠ .eq) (h2 : op ≠ .ne) (h3 : op ≠ .isin) (h4 : op ≠ .notin) : OpR X (compareOp (cmpOf op)) (rOp X.K (qB (ordD op))) := by
  intro pins s σ H x y v u Q I rx ry h
  obtain ⟨F, d1, d2, m, w1, w2, q⟩ := h
  unfold qB ordD at q
  split at q
  · rename_i i j
    cases w1
    cases w2
    cases op <;> first | contradiction | skip
    · exact op_lt pins s σ H _ _ v u Q I rx ry ⟨i, j, rfl, rfl, q _ _ .bl⟩
    · exact op_le pins s σ H _ _ v u Q I rx ry ⟨i, j, rfl, rfl, q _ _ .bl⟩
    · exact op_gt pins s σ H _ _ v u Q I rx ry ⟨i, j, rfl, rfl, q _ _ .bl⟩
    · exact op_ge pins s σ H _ _ v u Q I rx ry ⟨i, j, rfl, rfl, q _ _ .bl⟩
  · rename_i i b
    obtain ⟨rfl, q⟩ := q
    cases w1
    cases w2
    obtain ⟨t, rfl⟩ := rx
    cases ry
    show wpAny _ X.A (richCompare .LtE _ _) _ _ _
    exact SeqAt.rc_sub_first_or (typeIs_int s i t) rfl (by decide) PySem.F.sub_bool_int PySem.F.slot_bool_ge (call_gives PySem.F.slot_bool_ge rfl PySem.F.entry_int_ge (PySem.F.args_int_ge_2 _ _) (bool_ge_int b i t) ⟨nofun, .bl _, H, I, rfl, q _ _ .bl⟩) (.inl rfl)
  · rename_i b j
    obtain ⟨rfl, q⟩ := q
    cases w1
    cases w2
    cases rx
    obtain ⟨t, rfl⟩ := ry
    show wpAny _ X.A (richCompare .Lt _ _) _ _ _
    exact wpAny_richCompare_left rfl (typeIs_int s j t) (by decide) PySem.F.sub_int_bool PySem.F.slot_bool_lt (call_gives PySem.F.slot_bool_lt rfl PySem.F.entry_int_lt (PySem.F.args_int_lt_2 _ _) (bool_lt_int b j t) ⟨nofun, .bl _, H, I, rfl, q _ _ .bl⟩)
  · exact q.elim
theorem cmpR (op : COp) (hu : X.A.units + 66 < cLine) : OpR X (compareOp (cmpOf op)) (rOp X.K (qB (cmpD op))) := by
  have es : ∀ {a b : Str}, decide (V.str a = V.str b) = decide (a = b) := fun {a b} => by simp
  cases op
  · intro pins s σ H x y v u Q I rx ry h
    obtain ⟨F, d1, d2, m, w1, w2, q⟩ := h
    have q : eqD d1 d2 fun t => ∀ v H', Out X.K F H (.val (.bool t)) v H' → Q v H' := q
    unfold eqD at q
    split at q
    · cases w1
      cases w2
      refine op_eq pins s σ H _ _ v u Q I rx ry ⟨rfl, ?_⟩
      rw [es]
      exact q _ _ .bl
    · obtain ⟨q1, q2, q⟩ := q
      exact op_eqD (by omega) pins s σ H x y v u Q I rx ry ⟨d1, d2, w1.dp m q1, w2.dp m q2, q1, q2, q _ _ .bl⟩
  · intro pins s σ H x y v u Q I rx ry h
    obtain ⟨F, d1, d2, m, w1, w2, q⟩ := h
    have q : eqD d1 d2 fun t => ∀ v H', Out X.K F H (.val (.bool (!t))) v H' → Q v H' := q
    unfold eqD at q
    split at q
    · cases w1
      cases w2
      refine op_ne pins s σ H _ _ v u Q I rx ry ⟨rfl, ?_⟩
      rw [es]
      exact q _ _ .bl
    · obtain ⟨q1, q2, q⟩ := q
      exact op_neD (by omega) pins s σ H x y v u Q I rx ry ⟨d1, d2, w1.dp m q1, w2.dp m q2, q1, q2, q _ _ .bl⟩
  · exact ordR .lt (by decide) (by decide) (by decide) (by decide)
  · exact ordR .le (by decide) (by decide) (by decide) (by decide)
  · exact ordR .gt (by decide) (by decide) (by decide) (by decide)
  · exact ordR .ge (by decide) (by decide) (by decide) (by decide)
  · exact memR_in hu
  · exact memR_notin hu

theorem atI_den {K : Frag} {F : Hp} {xs : List V} {ds : List PyData} {i : Int} {d : PyData} (t : DenAll K F xs ds) (h : L2.atI ds i = some d) : ∃ v, L2.atI xs i = some v ∧ Den K F v d := by
  unfold L2.atI at h ⊢
  rw [t.length]
  cases e : L2.ixN ds.length i with
  | none => rw [e] at h; cases h
  | some j =>
    rw [e] at h
    exact t.get h
def qV (D : PyData → PyData → (PyData → Prop) → Prop) : PyData → PyData → (R → Prop) → Prop := fun x y Q => D x y fun d => Q (.val d)
theorem idxR (hu : X.A.units + 66 < cLine) : IxR X (rOp X.K (qV idxD)) := by
  intro value slice pins s σ H x y v u Q I rx ry h hs
  obtain ⟨F, d1, d2, m, w1, w2, q⟩ := h
  unfold qV idxD at q
  split at q
  · rename_i ds k
    obtain ⟨d, e, q⟩ := q
    obtain ⟨a, xs, rfl, h1, t⟩ := w1
    cases w2
    obtain ⟨z, e2, dn⟩ := atI_den t e
    exact ix_list value slice pins s σ H _ _ v u Q I rx ry ⟨a, xs, k, z, rfl, rfl, h1, e2, q _ _ (.old dn)⟩ hs
  · rename_i ds k
    obtain ⟨d, e, q⟩ := q
    obtain ⟨a, xs, rfl, h1, t⟩ := w1
    cases w2
    obtain ⟨z, e2, dn⟩ := atI_den t e
    exact ix_tup value slice pins s σ H _ _ v u Q I rx ry ⟨a, xs, k, z, rfl, rfl, same_sqT m h1, e2, q _ _ (.old dn)⟩ hs
  · rename_i kvs k0
    obtain ⟨hk, d, e, q⟩ := q
    obtain ⟨k, rfl⟩ := isKey_of hk
    obtain rfl := view_key w2
    obtain ⟨a, kv, ds, rfl, h1, t, rfl⟩ := w1
    cases rx
    obtain ⟨o, g, _, f⟩ := dget_view (k := k) h1 t
    obtain ⟨z, rfl, dn⟩ := f d e
    exact tail_any (dict_typeIs I g) PySem.F.slot_dict_getitem.lookup (d_getItem (by omega) I g ry fun w' s' I' rw' => ⟨z, H, I', rw', q _ _ (.old dn)⟩) hs
  · exact q.elim
def rSl (K : Frag) : V → Option Int → Option Int → Hp → VK → Prop := fun x lo hi H Q => ∃ F d, Same F H ∧ View K F H x d ∧ slcD d lo hi fun r => ∀ v H', Out K F H r v H' → Q v H'
theorem cut_den {K : Frag} {F : Hp} {xs : List V} {ds : List PyData} {lo hi : Option Int} (t : DenAll K F xs ds) : DenAll K F (cutV xs lo hi) (cut ds lo hi) := by
  unfold cutV cut
  rw [t.length]
  exact (t.drop _).take _
theorem slcR : SlR X (rSl X.K) := by
  intro pins s σ H x v vl vu lo hi sl Q I rx hs pl pu h
  obtain ⟨F, d, m, w, q⟩ := h
  unfold slcD at q
  split at q
  · obtain ⟨a, xs, rfl, h1, t⟩ := w
    exact sl_list pins s σ H _ v vl vu lo hi sl Q I rx hs pl pu ⟨a, xs, rfl, h1, fun p n => q _ _ (.own n ⟨_, upd_same, cut_den t⟩)⟩
  · obtain ⟨a, xs, rfl, h1, t⟩ := w
    refine sl_tupA pins s σ H _ v vl vu lo hi sl Q I rx hs pl pu ⟨a, xs, rfl, same_sqT m h1, fun e => ?_, fun _ p n => q _ _ (.tup n (cut_den t))⟩
    rename_i ds
    have e2 : cut ds lo hi = ds := by
      unfold cut
      rw [← t.length, e.1, e.2, List.drop_zero, t.length, Nat.sub_zero, List.take_length]
    rw [e2] at q
    exact q _ _ (.old (.tup h1 t))
  · exact q.elim
end
end Co

set_option linter.all false
/-! Co22: x[::-1] of a list or a tuple. -/
namespace Co
open PySem PySem.Spec PyProof.Rows L2
section
variable {prog : Program} {w : World} {A : Around} {E : Value → Shared → Prop} {s : Shared}
theorem places_rev (n : Nat) : Builtin.Slice.slicePlaces ((n : Int) - 1) (-1) (-1) = n := by
  unfold Builtin.Slice.slicePlaces
  rw [if_neg (by decide)]
  by_cases h : (n : Int) - 1 > -1
  · rw [if_pos h, show (- -1 : Int) = 1 by decide, Int.ediv_one]; omega
  · rw [if_neg h]; omega
theorem adjust_rev (n : Nat) : Builtin.Slice.sliceAdjust none none (-1) (n : Int) = ((n : Int) - 1, -1) := by
  first
  | rfl
  | simp [Builtin.Slice.sliceAdjust]
theorem fm_congr {α β : Type} {f g : α → Option β} : ∀ {l : List α}, (∀ x ∈ l, f x = g x) → l.filterMap f = l.filterMap g
  | [], _ => rfl
  | x :: l, h => by
    rw [List.filterMap_cons, List.filterMap_cons, h x (List.mem_cons_self ..), fm_congr fun y hy => h y (List.mem_cons_of_mem _ hy)]
theorem pick_rev (xs : Array Value) : ((List.range xs.size).filterMap fun (m : Nat) => xs[((xs.size : Int) - 1 + (m : Int) * -1).toNat]?).toArray = xs.toList.reverse.toArray := by
  have e : (List.range xs.size).filterMap (fun (m : Nat) => xs[((xs.size : Int) - 1 + (m : Int) * -1).toNat]?) = ((List.range xs.size).map fun k => xs.size - 1 - k).filterMap (xs[·]?) := by
    rw [List.filterMap_map]
    refine fm_congr fun m hm => ?_
    have hm := List.mem_range.mp hm
    show xs[((xs.size : Int) - 1 + (m : Int) * -1).toNat]? = xs[xs.size - 1 - m]?
    have e : ((xs.size : Int) - 1 + (m : Int) * -1).toNat = xs.size - 1 - m := by omega
    rw [e]
  rw [e, PySem.W.krv_range, List.filterMap_reverse, PySem.W.krv_all]
theorem sliceApplied_rev {sl : Addr} {vl vu vs : Value} {n : Nat} {Q : Int × Int × Nat → Shared → Prop} (hs : s.heap.IsSliceOf sl vl vu vs) (pl : IsPart vl none) (pu : IsPart vu none) (ps : IsPart vs (some (-1)))
    (h : Q ((n : Int) - 1, -1, n) s) : wpAny (model prog w) A (Builtin.Slice.sliceApplied (.ref sl) (pure (n : Int))) Q E s := by
  obtain ⟨os, hos, hcs, hds⟩ := id hs
  unfold Builtin.Slice.sliceApplied Builtin.Slice.sliceFields
  refine wpAny_bind (wpAny_bind (wpAny_field hos hds (x := vl) rfl (wpAny_bind (wpAny_field hos hds (x := vu) rfl (wpAny_bind (wpAny_field hos hds (x := vs) rfl (wpAny_pure ?_)))))))
  refine wpAny_bind (HT.slicePart_ ps ?_)
  show wpAny _ _ (if ((-1 : Int) == 0) = true then _ else _) _ _ s
  rw [if_neg (by decide)]
  refine wpAny_bind (HT.slicePart_ pl (wpAny_bind (HT.slicePart_ pu (wpAny_bind (wpAny_pure ?_)))))
  show wpAny _ _ (match Builtin.Slice.sliceAdjust none none (-1) (n : Int) with | (lo, hi) => pure (lo, (-1 : Int), Builtin.Slice.slicePlaces lo hi (-1))) _ _ s
  rw [adjust_rev n]
  show wpAny _ _ (pure ((n : Int) - 1, (-1 : Int), Builtin.Slice.slicePlaces ((n : Int) - 1) (-1) (-1))) _ _ s
  rw [places_rev]
  exact wpAny_pure h
theorem getItem_tuple_rev {t sl : Addr} {items : Array Value} {vl vu vs : Value} {Q : Value → Shared → Prop} (ht : IsTup s.heap t items) (hs : s.heap.IsSliceOf sl vl vu vs) (pl : IsPart vl none) (pu : IsPart vu none) (ps : IsPart vs (some (-1)))
    (h : Q (.ref s.heap.objs.size) { s with heap := s.heap.push { cls := .type "tuple", data := .seq items.toList.reverse.toArray } })
    (hsz : items.size ≤ sizeLine) : wpAny (model prog w) A (getItem (.ref t) (.ref sl)) Q E s := by
  have htake : sizeOk (.seq items.toList.reverse.toArray) := by
    show items.toList.reverse.toArray.size ≤ sizeLine
    rw [List.size_toArray, List.length_reverse, Array.length_toList]
    exact hsz
  obtain ⟨os, hos, hcs, hds⟩ := id hs
  have hTs : s.TypeIs (.ref sl) "slice" := ⟨os, hos, hcs⟩
  unfold getItem
  try with_reducible refine wpAny_holding ?_
  first | refine wpAny_bind (wpAny_pure ?_) | skip
  refine wpAny_bind (wpAny_sequenceKey ht.typeIs (by decide) ?_)
  refine wpAny_bind (wpAny_callSpecial?_slot (name := Str.ofString "__getitem__") ht.typeIs PyProof.Rows.slot_tuple_getitem
    (wpAny_call_entry PyProof.Rows.slot_tuple_getitem ht.typeIs entry_tuple_getitem ?_ (args_tuple_getitem _ _)))
  show wpAny _ _ (Builtin.Tuple.tupleItemsOf (.ref t) >>= _) _ _ s
  refine wpAny_bind (tupleItemsOf_ ht ?_)
  refine wpAny_bind (wpAny_typeOf hTs ?_)
  rw [if_pos (by decide)]
  refine wpAny_bind (sliceApplied_rev hs pl pu ps ?_)
  have hno : ¬ ((((items.size : Int) - 1) == 0 && (-1 : Int) == 1 && items.size == items.size) = true) := by
    rw [show ((-1 : Int) == 1) = false by decide, Bool.and_false, Bool.false_and]
    exact Bool.false_ne_true
  show wpAny _ _ (if (((items.size : Int) - 1) == 0 && (-1 : Int) == 1 && items.size == items.size) = true then _ else _) _ _ s
  rw [if_neg hno, pick_rev]
  first
    | exact wpAny_bind (m := Builtin.Tuple.tupleExact _) (wpAny_newObj_type (wpAny_pure ⟨_, rfl, wpAny_pure h⟩) htake)
    | exact wpAny_bind (m := Builtin.Tuple.tupleExact _) (wpAny_newObj_type (wpAny_bind (wpAny_pure (wpAny_pure ⟨_, rfl, wpAny_pure h⟩))) htake)
    | exact wpAny_bind (wpAny_bind (m := Builtin.Tuple.tupleExact _) (wpAny_newObj_type (wpAny_pure (wpAny_pure ⟨_, rfl, wpAny_pure h⟩)) htake))
    | exact wpAny_bind (wpAny_bind (m := Builtin.Tuple.tupleExact _) (wpAny_newObj_type (wpAny_pure ⟨_, rfl, wpAny_pure h⟩) htake))
end
section
variable {X : Cx}
def rRev (K : Frag) : V → Hp → VK → Prop := fun x H Q => ∃ F d, Same F H ∧ View K F H x d ∧ revD d fun r => ∀ v H', Out K F H r v H' → Q v H'
def tRev (K : Frag) (te : TE) : TE := fun σ H Q => te σ H fun x H1 => rRev K x H1 Q
theorem pe_rev {e : Expr} {te : TE} {k : Nat} {p1 p2 p3 pos : Pos} (he : PE X e te) : PE X (.Subscript e (.Slice none none (some (.UnaryOp .USub (.Constant (.int 1) k p1) p2)) p3) pos) (tRev X.K te) := by
  refine ⟨fun pins s σ H Q I h => ?_⟩
  refine Subscript_ (thn (he.run pins s σ H _ I h) fun v s1 ⟨x, H1, I1, r1, q1⟩ => ?_)
  obtain ⟨F, d, m, w, q⟩ := q1
  have hst : PO X (some (.UnaryOp .USub (.Constant (.int 1) k p1) p2)) (tPart (tUn (rU fun i => .int (-i)) (tC (.int 1)))) := po_some (pe_un un_neg pe_int)
  refine wpAny_Slice (thn (po_none.run pins s1 σ H1 (fun o H2 => o = none ∧ H2 = H1) I1 ⟨rfl, rfl⟩) fun vl s2 ⟨l, H2, I2, pl, el, e2⟩ => ?_)
  subst el e2
  refine thn (po_none.run pins s2 σ H2 (fun o H3 => o = none ∧ H3 = H2) I2 ⟨rfl, rfl⟩) fun vu s3 ⟨u, H3, I3, pu, eu, e3⟩ => ?_
  subst eu e3
  refine thn (hst.run pins s3 σ H3 (fun o H4 => o = some (-1) ∧ H4 = H3) I3 ⟨1, rfl, -1, rfl, rfl, rfl⟩) fun vs s4 ⟨o, H4, I4, ps, eo, e4⟩ => ?_
  subst eo e4
  have I5 : Inv X pins σ H4 { s4 with heap := s4.heap.push { cls := .type "slice", data := .fields #[vl, vu, vs] } } := I4.kept (t' := s4.toks) fun b ob q => Heap.get?_push_of_some _ q
  unfold revD at q
  split at q
  · obtain ⟨a, xs, rfl, hx, t⟩ := w
    cases r1
    obtain ⟨its, r, ht, hz⟩ := I5.list hx
    have hlen := r.length
    refine tail_any (ops := [.ref a, .ref s4.heap.objs.size]) ht.isList.typeIs (PySem.slot_list_getitem.lookup) ?_ (by with_unfolding_all rfl)
    refine wpAny_getItem_list_slice ht.isList (Heap.IsSliceOf.new _ vl vu vs) pl pu ps (by decide) ?_ (by rw [List.size_toArray]; omega)
    rw [PySem.W.krv_pick]
    have n := I5.hok.fresh (Nat.le_refl _)
    refine ⟨.ref _, _, I5.laid (t' := s4.toks) (o := .lst xs.reverse) (fun b ob q => Heap.get?_push_of_some _ q) (Nat.le_refl _) ?_, rfl, q _ _ (.own n ⟨_, upd_same, t.reverse⟩)⟩
    exact ⟨by rw [List.length_reverse]; exact hz, _, 0, r.reverse, Heap.get?_push_size _ rfl⟩
  · obtain ⟨a, xs, rfl, hx, t⟩ := w
    cases r1
    obtain ⟨its, r, ht, hz⟩ := I5.tuple (same_sqT m hx)
    have hlen := r.length
    refine tail_any (ops := [.ref a, .ref s4.heap.objs.size]) ht.typeIs (PyProof.Rows.slot_tuple_getitem.lookup) ?_ (by with_unfolding_all rfl)
    refine getItem_tuple_rev ht (Heap.IsSliceOf.new _ vl vu vs) pl pu ps ?_ (by rw [List.size_toArray]; omega)
    have n := I5.hok.fresh (Nat.le_refl _)
    refine ⟨.ref _, _, I5.laid (t' := s4.toks) (o := .tup xs.reverse) (fun b ob q => Heap.get?_push_of_some _ q) (Nat.le_refl _) ?_, rfl, q _ _ (.tup n t.reverse)⟩
    exact ⟨by rw [List.length_reverse]; exact hz, _, r.reverse, ⟨_, Heap.get?_push_size _ rfl, rfl, 0, rfl⟩⟩
  · exact q.elim
theorem e_rev {Φ : Tbl} {io : List Nat} {a : E} {e : Expr} {k : Nat} {p1 p2 p3 pos : Pos} (ha : PE X e (tE X.K Φ io a)) : PE X (.Subscript e (.Slice none none (some (.UnaryOp .USub (.Constant (.int 1) k p1) p2)) p3) pos) (tE X.K Φ io (.rev a)) :=
  PE.weak (pe_rev ha) fun σ H Q ⟨g, F, env, Q', Rp, w, k⟩ => un_ok revD_mono Rp w k
end
end Co

set_option linter.all false
/-! Co27: sorting tuples of ints of any lengths (none of them empty). -/
namespace Co
open PySem PySem.Spec PyProof.Rows L2
section
variable {prog : Program} {w : World} {A : Around} {E : Value → Shared → Prop} {s : Shared}
theorem katlex_ints {Q : Bool → Shared → Prop} : ∀ {us vs : List Value} {xs ys : List Int} (i : Nat), IntsAre us xs → IntsAre vs ys → Q (HT.lexLt xs ys) s → PySem.W.KatLex prog w A true (decide (xs.length < ys.length)) Q (us.zip vs) i s
  | [], [], _, _, i, .nil, .nil, q => PySem.W.kat_nil q
  | [], _ :: _, _, _, i, .nil, .cons y t h, q => PySem.W.kat_nil (by
      rw [HT.lexLt_nil_cons] at q
      simpa using q)
  | _ :: _, [], _, _, i, .cons x t h, .nil, q => PySem.W.kat_nil (by
      rw [HT.lexLt_cons_nil] at q
      simpa using q)
  | _ :: us, _ :: vs, _, _, i, .cons (ns := xs) x t h, .cons (ns := ys) y u h', q => by
    rw [HT.lexLt_cons] at q
    rw [List.zip_cons_cons]
    refine PySem.W.kat_cons (SeqAt.EqAt.int_int x t y u prog w _ _ ?_)
    refine PySem.W.kat_go (fun e1 => ?_) (fun e1 => ?_)
    · have ex : x = y := by simpa using e1
      rw [if_pos ex] at q
      have e : decide ((x :: xs).length < (y :: ys).length) = decide (xs.length < ys.length) := by simp
      rw [e]
      exact PySem.W.kat_yes (katlex_ints (i + 1) h h' q)
    · have ex : ¬ x = y := by simpa using e1
      rw [if_neg ex] at q
      cases i with
      | zero => exact PySem.W.kat_no (oneLt_int q)
      | succ i => exact PySem.W.kat_no (PySem.W.kat_one _ _ (PyProof.Rows.lt_int q))
theorem tups_cmp {vs : List Value} (ht : ∀ v ∈ vs, ∃ ns, TS.TupInts s.heap v ns) : SrtO.Cmp prog w A s (tuples' true) (fun p => p.1 ∈ vs) (SrtO.lt2 fun v u => HT.lexLt (TS.intsOf s.heap v) (TS.intsOf s.heap u)) := by
  intro p q hm hm'
  obtain ⟨ns, h1⟩ := ht _ hm
  obtain ⟨ms, h2⟩ := ht _ hm'
  show wpAny (model prog w) A (keyLt' (tuples' true) p.1 q.1) (fun r s' => s' = s ∧ r = HT.lexLt (TS.intsOf s.heap p.1) (TS.intsOf s.heap q.1)) (fun _ _ => False) s
  rw [h1.ints, h2.ints]
  obtain ⟨a, xs, e, ⟨o, ho, hc, n, hd⟩, i⟩ := h1
  obtain ⟨b, ys, e', ⟨o', ho', hc', n', hd'⟩, i'⟩ := h2
  rw [e, e']
  refine PySem.W.kat_lt ho hd ho' hd' ?_
  have l1 : xs.size = ns.length := by rw [← Array.length_toList]; exact i.length
  have l2 : ys.size = ms.length := by rw [← Array.length_toList]; exact i'.length
  rw [l1, l2]
  exact katlex_ints 0 i i' ⟨rfl, rfl⟩
theorem firsts_tups {h : Heap} : ∀ {vs : List Value}, (∀ v ∈ vs, ∃ ns, TS.TupInts h v ns ∧ ns ≠ []) → ∃ fs, PySem.W.KatTups h vs fs ∧ fs.length = vs.length ∧ ∀ f ∈ fs, ∃ x t, f = Value.int x t
  | [], _ => ⟨[], PySem.W.KatTups.nil, rfl, by simp⟩
  | v :: vs, hv => by
    obtain ⟨fs, t, l, hf⟩ := firsts_tups fun u hu => hv u (List.mem_cons_of_mem _ hu)
    obtain ⟨ns, ⟨a, xs, rfl, ⟨o, ho, hc, n, hd⟩, i⟩, hne⟩ := hv v List.mem_cons_self
    cases ns with
    | nil => exact absurd rfl hne
    | cons x ns =>
      obtain ⟨xl⟩ := xs
      simp only at i
      cases i with
      | cons _ t' i' => exact ⟨.int x t' :: fs, PySem.W.KatTups.cons ho hc hd rfl t, by rw [List.length_cons, List.length_cons, l], fun f hf' => by
          rcases List.mem_cons.mp hf' with rfl | hf'
          · exact ⟨_, _, rfl⟩
          · exact hf f hf'⟩
theorem tups_sortable {a : Addr} {vs : List Value} (h0 : 0 < vs.length) (ht : ∀ v ∈ vs, ∃ ns, TS.TupInts s.heap v ns ∧ ns ≠ []) (ha : ∀ o, s.heap.get? a = some o → o.cls ≠ .type "tuple") :
    SrtO.SortableO prog w A s a vs fun v u => HT.lexLt (TS.intsOf s.heap v) (TS.intsOf s.heap u) := by
  intro h' keep
  have kp : ∀ b o, s.heap.get? b = some o → o.cls = .type "tuple" → h'.get? b = some o := fun b o e c => keep b o (fun z => by subst z; exact ha o e c) e
  have ht' : ∀ v ∈ vs, ∃ ns, TS.TupInts h' v ns ∧ ns ≠ [] := fun v hv => by
    obtain ⟨ns, t, n⟩ := ht v hv
    exact ⟨ns, t.keeps kp, n⟩
  obtain ⟨fs, h1, h2, h3⟩ := firsts_tups ht'
  refine ⟨tuples' true, fun Q E hq => ?_, ?_⟩
  · refine PySem.W.kat_kind (T := .type "int") h1 (by omega) (fun f hm => ?_) (by rfl) ?_
    · obtain ⟨x, t, rfl⟩ := h3 f hm
      exact PySem.W.Looks.now
    · have e : (Value.type "int" != Value.type "tuple") = true := by first | decide +kernel | rfl | decide
      rw [e]
      exact hq
  · intro p q hm hm'
    have := tups_cmp (prog := prog) (w := w) (A := A) (s := { s with heap := h' }) (vs := vs) (fun v hv => by obtain ⟨ns, t, _⟩ := ht' v hv; exact ⟨ns, t⟩) p q hm hm'
    obtain ⟨n1, t1, _⟩ := ht _ hm
    obtain ⟨n2, t2, _⟩ := ht _ hm'
    have e1 : TS.intsOf h' p.1 = TS.intsOf s.heap p.1 := (t1.keeps kp).ints.trans t1.ints.symm
    have e2 : TS.intsOf h' q.1 = TS.intsOf s.heap q.1 := (t2.keeps kp).ints.trans t2.ints.symm
    have e3 : SrtO.lt2 (fun v u => HT.lexLt (TS.intsOf h' v) (TS.intsOf h' u)) p q = SrtO.lt2 (fun v u => HT.lexLt (TS.intsOf s.heap v) (TS.intsOf s.heap u)) p q := by
      show HT.lexLt (TS.intsOf h' p.1) (TS.intsOf h' q.1) = HT.lexLt (TS.intsOf s.heap p.1) (TS.intsOf s.heap q.1)
      rw [e1, e2]
    show wpAny _ _ _ (fun r s' => s' = _ ∧ r = SrtO.lt2 (fun v u => HT.lexLt (TS.intsOf s.heap v) (TS.intsOf s.heap u)) p q) _ _
    rw [← e3]
    exact this
end
end Co

set_option linter.all false
/-! Co33: sorting tuples of ints, the empty one among them. -/
namespace Co
open PySem PySem.Spec PyProof.Rows L2
section
variable {prog : Program} {w : World} {A : Around} {E : Value → Shared → Prop} {s : Shared}
theorem firsts_any {M : Model} : ∀ {vs : List Value}, (∀ v ∈ vs, ∃ ns, TS.TupInts s.heap v ns) → ∃ fs : List (Option Value), (∀ (E : Value → Shared → Prop) (Q : List (Option Value) → Shared → Prop), Q fs s → wpAny M A (vs.mapM firstOfTuple') Q E s) ∧
    ((∃ v ∈ vs, TS.TupInts s.heap v []) → fs.all (·.isSome) = false)
  | [], _ => ⟨[], fun E Q h => by rw [List.mapM_nil]; exact wpAny_pure h, fun ⟨v, hv, _⟩ => absurd hv (by simp)⟩
  | v :: vs, hv => by
    obtain ⟨fs, h1, h2⟩ := firsts_any (M := M) fun u hu => hv u (List.mem_cons_of_mem _ hu)
    obtain ⟨ns, ht⟩ := hv v List.mem_cons_self
    have hns := ht.ints
    obtain ⟨a, xs, rfl, ⟨o, ho, hc, n, hd⟩, i⟩ := ht
    refine ⟨xs[0]? :: fs, fun E Q h => ?_, ?_⟩
    · rw [List.mapM_cons]
      refine wpAny_bind ?_
      rw [PySem.W.kas_first_eq]
      refine wpAny_bind (PySem.W.Looks.here (show PySem.W.Looks M s.heap (typeOf (.ref a)) o.cls from (PySem.W.Looks.ld ho).andThen .now) ?_)
      rw [hc, if_neg (by first | decide | simp)]
      refine wpAny_bind (listItems_at ho hd (wpAny_pure ?_))
      exact wpAny_bind (h1 E (fun bs s' => wpAny M A (pure (xs[0]? :: bs)) Q E s') (wpAny_pure h))
    · rintro ⟨u, hu, hu0⟩
      rw [List.all_cons]
      rcases List.mem_cons.mp hu with rfl | hu
      · have e : ns = [] := hns.symm.trans hu0.ints
        subst e
        have : xs.toList = [] := List.eq_nil_of_length_eq_zero i.length
        have hx : xs = #[] := by
          obtain ⟨l⟩ := xs
          simp only at this
          rw [this]
        rw [hx]
        rfl
      · rw [h2 ⟨u, hu, hu0⟩, Bool.and_false]
theorem tups_kindAny {M : Model} {vs : List Value} (h2 : 2 ≤ vs.length) (ht : ∀ v ∈ vs, ∃ ns, TS.TupInts s.heap v ns) (h0 : ∃ v ∈ vs, TS.TupInts s.heap v []) :
    ∃ κ, (κ = general' ∨ κ = oneType') ∧ ∀ (E : Value → Shared → Prop) (Q : SortKind → Shared → Prop), Q κ s → wpAny M A (keyKind' vs.toArray) Q E s := by
  obtain ⟨fs, h1, hf⟩ := firsts_any (M := M) (A := A) ht
  have start : ∀ (E : Value → Shared → Prop) (Q : SortKind → Shared → Prop), wpAny M A (do
      if (fs.toArray[0]?.bind id).isSome then return general'
      return if (← oneTypeOnly' vs.toArray).isSome then oneType' else general') Q E s → wpAny M A (keyKind' vs.toArray) Q E s := fun E Q hq => by
    rw [keyKind'_eq, List.mapM_toArray, map_eq_pure_bind]
    refine wpAny_bind (wpAny_bind (h1 E _ (wpAny_pure ?_)))
    rw [if_neg (by rw [List.all_toArray, hf h0]; decide)]
    exact hq
  by_cases hs : (fs.toArray[0]?.bind id).isSome = true
  · refine ⟨general', .inl rfl, fun E Q hq => start E Q ?_⟩
    rw [if_pos hs]
    exact wpAny_pure hq
  · refine ⟨oneType', .inr rfl, fun E Q hq => start E Q ?_⟩
    rw [if_neg hs]
    rw [oneTypeOnly'_eq, List.mapM_toArray, map_eq_pure_bind]
    have hT : ∀ v ∈ vs, PySem.W.Looks M s.heap (typeOf v) (.type "tuple") := fun v hv => by
      obtain ⟨ns, a, xs, rfl, ⟨o, ho, hc, n, hd⟩, i⟩ := ht v hv
      rw [← hc]
      exact (PySem.W.Looks.ld ho).andThen .now
    refine wpAny_bind (wpAny_bind (wpAny_bind (PySem.W.kas_mapM (r := Value.type "tuple") _ (fun v hv Q' hq => (hT v hv).here hq) (wpAny_pure ?_))))
    obtain ⟨v₁, rest, rfl⟩ : ∃ v₁ rest, vs = v₁ :: rest := by
      match vs, h2 with
      | [], h2 => simp at h2
      | v₁ :: rest, _ => exact ⟨v₁, rest, rfl⟩
    have hall : ((List.map (fun _ => Value.type "tuple") (v₁ :: rest)).toArray.all fun x => x == Value.type "tuple") = true := by
      simp only [List.all_toArray, List.all_map, List.all_eq_true]
      intro _ _
      rfl
    have h0 : (List.map (fun _ => Value.type "tuple") (v₁ :: rest)).toArray[0]? = some (Value.type "tuple") := by simp
    rw [h0]
    simp only [hall, if_true]
    exact wpAny_pure (wpAny_pure hq)
theorem tups_cmpG {vs : List Value} (hu : A.units < cLine) (ht : ∀ v ∈ vs, ∃ ns, TS.TupInts s.heap v ns) : SrtO.Cmp prog w A s general' (fun p => p.1 ∈ vs) (SrtO.lt2 fun v u => HT.lexLt (TS.intsOf s.heap v) (TS.intsOf s.heap u)) := by
  intro p q hm hm'
  obtain ⟨ns, h1⟩ := ht _ hm
  obtain ⟨ms, h2⟩ := ht _ hm'
  show wpAny (model prog w) A (oneLt' false p.1 q.1) (fun r s' => s' = s ∧ r = HT.lexLt (TS.intsOf s.heap p.1) (TS.intsOf s.heap q.1)) (fun _ _ => False) s
  rw [h1.ints, h2.ints]
  obtain ⟨a, xs, e, t1, i⟩ := h1
  obtain ⟨b, ys, e', t2, i'⟩ := h2
  rw [e, e']
  exact PySem.W.kat_one _ _ (HT.lt_tupInts t1 t2 i i' hu ⟨rfl, rfl⟩)
theorem tups_cmpO {vs : List Value} (hu : A.units < cLine) (ht : ∀ v ∈ vs, ∃ ns, TS.TupInts s.heap v ns) : SrtO.Cmp prog w A s oneType' (fun p => p.1 ∈ vs) (SrtO.lt2 fun v u => HT.lexLt (TS.intsOf s.heap v) (TS.intsOf s.heap u)) := by
  intro p q hm hm'
  obtain ⟨ns, h1⟩ := ht _ hm
  obtain ⟨ms, h2⟩ := ht _ hm'
  show wpAny (model prog w) A (keyLt' oneType' p.1 q.1) (fun r s' => s' = s ∧ r = HT.lexLt (TS.intsOf s.heap p.1) (TS.intsOf s.heap q.1)) (fun _ _ => False) s
  rw [h1.ints, h2.ints]
  obtain ⟨a, xs, e, ⟨⟨cls, dd, data, sl⟩, ho, hc, n, hd⟩, i⟩ := h1
  obtain ⟨b, ys, e', ⟨⟨cls2, dd2, data2, sl2⟩, ho2, hc2, n2, hd2⟩, i'⟩ := h2
  simp only at hc hd hc2 hd2
  subst hc hd hc2 hd2
  rw [e, e', keyLt'_oneType, oneLt'_eq]
  simp only [if_true]
  refine wpAny_bind (wpAny_cRoomFor hu ?_)
  refine wpAny_bind (wpAny_callSpecialIfBound?_slot (T := "tuple") ⟨_, ho, rfl⟩ PySem.F.slot_tuple_lt (call_meets PySem.F.slot_tuple_lt ⟨_, ho, rfl⟩ PySem.F.entry_tuple_lt (PySem.F.args_tuple_lt_2 _ _) (HT.tuple_lt_ints a b xs ys n n2 dd dd2 sl sl2 ns ms i i')
    ⟨ho, ho2, ?_⟩))
  exact wpAny_truthy_bool ⟨rfl, rfl⟩
theorem tups_sortableA {a : Addr} {vs : List Value} (hu : A.units < cLine) (h2 : 2 ≤ vs.length) (ht : ∀ v ∈ vs, ∃ ns, TS.TupInts s.heap v ns) (ha : ∀ o, s.heap.get? a = some o → o.cls ≠ .type "tuple") :
    SrtO.SortableO prog w A s a vs fun v u => HT.lexLt (TS.intsOf s.heap v) (TS.intsOf s.heap u) := by
  by_cases h0 : ∃ v ∈ vs, TS.TupInts s.heap v []
  case neg =>
    refine tups_sortable (by omega) (fun v hv => ?_) ha
    obtain ⟨ns, t⟩ := ht v hv
    exact ⟨ns, t, fun e => h0 ⟨v, hv, e ▸ t⟩⟩
  intro h' keep
  have kp : ∀ b o, s.heap.get? b = some o → o.cls = .type "tuple" → h'.get? b = some o := fun b o e c => keep b o (fun z => by subst z; exact ha o e c) e
  have ht' : ∀ v ∈ vs, ∃ ns, TS.TupInts h' v ns := fun v hv => by
    obtain ⟨ns, t⟩ := ht v hv
    exact ⟨ns, t.keeps kp⟩
  have h0' : ∃ v ∈ vs, TS.TupInts h' v [] := by
    obtain ⟨v, hv, t⟩ := h0
    exact ⟨v, hv, t.keeps kp⟩
  have conv : ∀ κ, SrtO.Cmp prog w A { s with heap := h' } κ (fun p => p.1 ∈ vs) (SrtO.lt2 fun v u => HT.lexLt (TS.intsOf h' v) (TS.intsOf h' u)) →
      SrtO.Cmp prog w A { s with heap := h' } κ (fun p => p.1 ∈ vs) (SrtO.lt2 fun v u => HT.lexLt (TS.intsOf s.heap v) (TS.intsOf s.heap u)) := fun κ c p q hm hm' => by
    obtain ⟨n1, t1⟩ := ht _ hm
    obtain ⟨n2, t2⟩ := ht _ hm'
    have e1 : TS.intsOf h' p.1 = TS.intsOf s.heap p.1 := (t1.keeps kp).ints.trans t1.ints.symm
    have e2 : TS.intsOf h' q.1 = TS.intsOf s.heap q.1 := (t2.keeps kp).ints.trans t2.ints.symm
    have e3 : SrtO.lt2 (fun v u => HT.lexLt (TS.intsOf h' v) (TS.intsOf h' u)) p q = SrtO.lt2 (fun v u => HT.lexLt (TS.intsOf s.heap v) (TS.intsOf s.heap u)) p q := by
      show HT.lexLt (TS.intsOf h' p.1) (TS.intsOf h' q.1) = HT.lexLt (TS.intsOf s.heap p.1) (TS.intsOf s.heap q.1)
      rw [e1, e2]
    rw [← e3]
    exact c p q hm hm'
  have cg := conv _ (tups_cmpG (prog := prog) (w := w) (s := { s with heap := h' }) hu ht')
  have co := conv _ (tups_cmpO (prog := prog) (w := w) (s := { s with heap := h' }) hu ht')
  obtain ⟨κ, hκ, hk⟩ := tups_kindAny (M := model prog w) (A := A) (s := { s with heap := h' }) h2 ht' h0'
  refine ⟨κ, fun Q E hq => hk E Q hq, ?_⟩
  rcases hκ with rfl | rfl
  · exact cg
  · exact co
end
end Co

set_option linter.all false
/-! Co40: sorting tuples of pairs of ints. -/
namespace Co
open PySem PySem.Spec PyProof.Rows L2
section
variable {prog : Program} {w : World} {A : Around} {E : Value → Shared → Prop} {s : Shared}
theorem eq_ints {y u : Value} {ns ms : List Int} (hu : A.units < cLine) (h1 : TS.TupInts s.heap y ns) (h2 : TS.TupInts s.heap u ms) : SeqAt.EqAt A s y u (decide (ns = ms)) := by
  have i1 := h1.ints
  have i2 := h2.ints
  obtain ⟨a, xs, rfl, it, hI⟩ := h1
  obtain ⟨b, ys, rfl, jt, hJ⟩ := h2
  by_cases hab : a = b
  · subst hab
    have e : ns = ms := i1.symm.trans i2
    rw [decide_eq_true e]
    exact SeqAt.EqAt.same _
  · refine .of_refs hab ?_
    have it' : s.heap.IsTuple a xs := it
    have jt' : s.heap.IsTuple b ys := jt
    have e := SeqAt.eqvAll_eq (ns.map PyData.int) (ms.map PyData.int)
    have hx : xs.size = ns.length := by rw [← Array.length_toList]; exact hI.length
    have hy : ys.size = ms.length := by rw [← Array.length_toList]; exact hJ.length
    have e2 : PyData.eqvAll (ns.map .int) (ms.map .int) = decide (ns = ms) := by
      have key : ∀ a b : List Int, PyData.eqvAll (a.map .int) (b.map .int) = decide (a = b) := fun a => by
        induction a with
        | nil => intro b; cases b <;> simp [PyData.eqvAll]
        | cons x a ih =>
          intro b
          cases b with
          | nil => simp [PyData.eqvAll]
          | cons y b =>
            simp only [List.map_cons, PyData.eqvAll, ih, PyData.eqv]
            rw [Bool.eq_iff_iff]
            simp
      exact key ns ms
    have hsz : (xs.size == ys.size) = ((ns.map PyData.int).length == (ms.map PyData.int).length) := by rw [hx, hy, List.length_map, List.length_map]
    have hmin : min xs.size ys.size = min (ns.map PyData.int).length (ms.map PyData.int).length := by rw [hx, hy, List.length_map, List.length_map]
    rw [← e2, ← e, ← hsz, ← hmin]
    refine SeqAt.RcAt.tuples it' jt' hu fun j h1 h2 => ?_
    have hj1 : xs.toList[j]? = some xs[j] := by simp [h1]
    have hj2 : ys.toList[j]? = some ys[j] := by simp [h2]
    obtain ⟨i, ti, ei, hi⟩ := ints_at hI hj1
    obtain ⟨k, tk, ek, hk⟩ := ints_at hJ hj2
    have : SeqAt.pairEq (ns.map PyData.int) (ms.map PyData.int) j = (i == k) := by
      unfold SeqAt.pairEq
      simp [hi, hk, PyData.eqv]
    rw [this, ei, ek]
    exact SeqAt.EqAt.int_int i ti k tk
inductive PairsAre (h : Heap) : List Value → List (Int × Int) → Prop
  | nil : PairsAre h [] []
  | cons {v : Value} {vs : List Value} {p : Int × Int} {ps : List (Int × Int)} : TS.TupInts h v [p.1, p.2] → PairsAre h vs ps → PairsAre h (v :: vs) (p :: ps)
theorem PairsAre.length {h : Heap} : ∀ {vs : List Value} {ps : List (Int × Int)}, PairsAre h vs ps → vs.length = ps.length
  | _, _, .nil => rfl
  | _, _, .cons _ t => by simp [PairsAre.length t]
theorem PairsAre.keeps {h h' : Heap} (kp : ∀ b o, h.get? b = some o → o.cls = .type "tuple" → h'.get? b = some o) : ∀ {vs : List Value} {ps : List (Int × Int)}, PairsAre h vs ps → PairsAre h' vs ps
  | _, _, .nil => .nil
  | _, _, .cons q t => .cons (q.keeps kp) (PairsAre.keeps kp t)
theorem PairsAre.uniq {h : Heap} : ∀ {vs : List Value} {ps qs : List (Int × Int)}, PairsAre h vs ps → PairsAre h vs qs → ps = qs
  | _, _, _, .nil, .nil => rfl
  | _, _, _, .cons (p := p) q t, .cons (p := p') q' t' => by
    have e := q.ints.symm.trans q'.ints
    simp only [List.cons.injEq, and_true] at e
    rw [PairsAre.uniq t t', show p = p' from Prod.ext e.1 e.2]
def TupPairs (h : Heap) (v : Value) (ps : List (Int × Int)) : Prop := ∃ (a : Addr) (xs : Array Value), v = .ref a ∧ IsTup h a xs ∧ PairsAre h xs.toList ps
theorem TupPairs.keeps {h h' : Heap} (kp : ∀ b o, h.get? b = some o → o.cls = .type "tuple" → h'.get? b = some o) {v : Value} {ps : List (Int × Int)} : TupPairs h v ps → TupPairs h' v ps := by
  rintro ⟨a, xs, rfl, ⟨o, ho, hc, r⟩, p⟩
  exact ⟨a, xs, rfl, ⟨o, kp _ _ ho hc, hc, r⟩, p.keeps kp⟩
theorem TupPairs.uniq {h : Heap} {v : Value} {ps qs : List (Int × Int)} (x : TupPairs h v ps) (y : TupPairs h v qs) : ps = qs := by
  obtain ⟨a, xs, rfl, ⟨o, ho, hc, n, hd⟩, p⟩ := x
  obtain ⟨b, ys, e, ⟨o', ho', hc', n', hd'⟩, q⟩ := y
  cases e
  rw [ho] at ho'; cases ho'
  rw [hd] at hd'
  injection hd' with e1 e2
  subst e1
  exact p.uniq q
/-- the ints of a tuple of pairs, one behind the other -/
noncomputable def flatOf (h : Heap) (v : Value) : List Int := by
  classical exact if H : ∃ ps, TupPairs h v ps then flat H.choose else []
theorem TupPairs.flat_eq {h : Heap} {v : Value} {ps : List (Int × Int)} (x : TupPairs h v ps) : flatOf h v = flat ps := by
  unfold flatOf
  rw [dif_pos ⟨ps, x⟩]
  congr 1
  exact (Exists.choose_spec (p := fun ps => TupPairs h v ps) ⟨ps, x⟩).uniq x
theorem flat_inj : ∀ {a b : List (Int × Int)}, flat a = flat b → a = b
  | [], [], _ => rfl
  | [], _ :: _, h => by simp [flat] at h
  | _ :: _, [], h => by simp [flat] at h
  | p :: a, q :: b, h => by
    simp only [flat, List.cons.injEq] at h
    rw [flat_inj h.2.2, show p = q from Prod.ext h.1 h.2.1]
theorem katlex_pairs {Q : Bool → Shared → Prop} (hu : A.units < cLine) : ∀ {us vs : List Value} {xs ys : List (Int × Int)} (i : Nat), PairsAre s.heap us xs → PairsAre s.heap vs ys → Q (HT.lexLt (flat xs) (flat ys)) s → PySem.W.KatLex prog w A false (decide (xs.length < ys.length)) Q (us.zip vs) i s
  | [], [], _, _, i, .nil, .nil, q => PySem.W.kat_nil q
  | [], _ :: _, _, _, i, .nil, .cons y h, q => PySem.W.kat_nil (by
      rw [show flat [] = ([] : List Int) from rfl, flat, HT.lexLt_nil_cons] at q
      simpa using q)
  | _ :: _, [], _, _, i, .cons x h, .nil, q => PySem.W.kat_nil (by
      rw [show flat [] = ([] : List Int) from rfl, flat, HT.lexLt_cons_nil] at q
      simpa using q)
  | _ :: us, _ :: vs, _, _, i, .cons (p := x) (ps := xs) hx h, .cons (p := y) (ps := ys) hy h', q => by
    rw [flat, flat, HT.lexLt_cons, HT.lexLt_cons] at q
    rw [List.zip_cons_cons]
    refine PySem.W.kat_cons (eq_ints hu hx hy prog w _ _ ?_)
    refine PySem.W.kat_go (fun e1 => ?_) (fun e1 => ?_)
    · have ex : x.1 = y.1 ∧ x.2 = y.2 := by simpa using e1
      rw [if_pos ex.1, if_pos ex.2] at q
      have e : decide ((x :: xs).length < (y :: ys).length) = decide (xs.length < ys.length) := by simp
      rw [e]
      exact PySem.W.kat_yes (katlex_pairs hu (i + 1) h h' q)
    · have ex : ¬ (x.1 = y.1 ∧ x.2 = y.2) := by simpa using e1
      refine PySem.W.kat_no (PySem.W.kat_one _ _ ?_)
      obtain ⟨a, as, rfl, ta, ia⟩ := hx
      obtain ⟨b, bs, rfl, tb, ib⟩ := hy
      refine HT.lt_tupInts ta tb ia ib hu ?_
      have e3 : HT.lexLt [x.1, x.2] [y.1, y.2] = (if x.1 = y.1 then if x.2 = y.2 then HT.lexLt (flat xs) (flat ys) else decide (x.2 < y.2) else decide (x.1 < y.1)) := by
        rw [HT.lexLt_cons, HT.lexLt_cons]
        by_cases h1 : x.1 = y.1
        · rw [if_pos h1, if_pos h1, if_neg (fun h2 => ex ⟨h1, h2⟩), if_neg (fun h2 => ex ⟨h1, h2⟩)]
        · rw [if_neg h1, if_neg h1]
      show Q _ s
      rw [e3]
      exact q
theorem pairs_cmp {vs : List Value} (hu : A.units < cLine) (ht : ∀ v ∈ vs, ∃ ps, TupPairs s.heap v ps) : SrtO.Cmp prog w A s (tuples' false) (fun p => p.1 ∈ vs) (SrtO.lt2 fun v u => HT.lexLt (flatOf s.heap v) (flatOf s.heap u)) := by
  intro p q hm hm'
  obtain ⟨ns, h1⟩ := ht _ hm
  obtain ⟨ms, h2⟩ := ht _ hm'
  show wpAny (model prog w) A (keyLt' (tuples' false) p.1 q.1) (fun r s' => s' = s ∧ r = HT.lexLt (flatOf s.heap p.1) (flatOf s.heap q.1)) (fun _ _ => False) s
  rw [h1.flat_eq, h2.flat_eq]
  obtain ⟨a, xs, e, ⟨o, ho, hc, n, hd⟩, i⟩ := h1
  obtain ⟨b, ys, e', ⟨o', ho', hc', n', hd'⟩, i'⟩ := h2
  rw [e, e']
  refine PySem.W.kat_lt ho hd ho' hd' ?_
  have l1 : xs.size = ns.length := by rw [← Array.length_toList]; exact i.length
  have l2 : ys.size = ms.length := by rw [← Array.length_toList]; exact i'.length
  rw [l1, l2]
  exact katlex_pairs hu 0 i i' ⟨rfl, rfl⟩
theorem firsts_pairs {h : Heap} : ∀ {vs : List Value}, (∀ v ∈ vs, ∃ ps, TupPairs h v ps ∧ ps ≠ []) → ∃ fs, PySem.W.KatTups h vs fs ∧ fs.length = vs.length ∧ ∀ f ∈ fs, ∃ (a : Addr) (xs : Array Value), f = .ref a ∧ IsTup h a xs
  | [], _ => ⟨[], PySem.W.KatTups.nil, rfl, by simp⟩
  | v :: vs, hv => by
    obtain ⟨fs, t, l, hf⟩ := firsts_pairs fun u hu => hv u (List.mem_cons_of_mem _ hu)
    obtain ⟨ps, ⟨a, xs, rfl, ⟨o, ho, hc, n, hd⟩, i⟩, hne⟩ := hv v List.mem_cons_self
    cases ps with
    | nil => exact absurd rfl hne
    | cons x ps =>
      obtain ⟨xl⟩ := xs
      simp only at i
      cases i with
      | cons hx i' =>
        obtain ⟨b, bs, rfl, tb, _⟩ := hx
        exact ⟨.ref b :: fs, PySem.W.KatTups.cons ho hc hd rfl t, by rw [List.length_cons, List.length_cons, l], fun f hf' => by
          rcases List.mem_cons.mp hf' with rfl | hf'
          · exact ⟨_, _, rfl, tb⟩
          · exact hf f hf'⟩
theorem pairs_sortable {a : Addr} {vs : List Value} (hu : A.units < cLine) (h0 : 0 < vs.length) (ht : ∀ v ∈ vs, ∃ ps, TupPairs s.heap v ps ∧ ps ≠ []) (ha : ∀ o, s.heap.get? a = some o → o.cls ≠ .type "tuple") :
    SrtO.SortableO prog w A s a vs fun v u => HT.lexLt (flatOf s.heap v) (flatOf s.heap u) := by
  intro h' keep
  have kp : ∀ b o, s.heap.get? b = some o → o.cls = .type "tuple" → h'.get? b = some o := fun b o e c => keep b o (fun z => by subst z; exact ha o e c) e
  have ht' : ∀ v ∈ vs, ∃ ps, TupPairs h' v ps ∧ ps ≠ [] := fun v hv => by
    obtain ⟨ns, t, n⟩ := ht v hv
    exact ⟨ns, t.keeps kp, n⟩
  obtain ⟨fs, h1, h2, h3⟩ := firsts_pairs ht'
  refine ⟨tuples' false, fun Q E hq => ?_, ?_⟩
  · refine PySem.W.kat_kind (s := { s with heap := h' }) (T := .type "tuple") h1 (by omega) (fun f hm => ?_) (by rfl) ?_
    · obtain ⟨b, bs, rfl, o, ho, hc, n, hd⟩ := h3 f hm
      rw [← hc]
      exact (PySem.W.Looks.ld ho).andThen .now
    · have e : (Value.type "tuple" != Value.type "tuple") = false := by first | decide +kernel | rfl | decide
      rw [e]
      exact hq
  · intro p q hm hm'
    have := pairs_cmp (prog := prog) (w := w) (A := A) (s := { s with heap := h' }) (vs := vs) hu (fun v hv => by obtain ⟨ns, t, _⟩ := ht' v hv; exact ⟨ns, t⟩) p q hm hm'
    obtain ⟨n1, t1, _⟩ := ht _ hm
    obtain ⟨n2, t2, _⟩ := ht _ hm'
    have e1 : flatOf h' p.1 = flatOf s.heap p.1 := (t1.keeps kp).flat_eq.trans t1.flat_eq.symm
    have e2 : flatOf h' q.1 = flatOf s.heap q.1 := (t2.keeps kp).flat_eq.trans t2.flat_eq.symm
    have e3 : SrtO.lt2 (fun v u => HT.lexLt (flatOf h' v) (flatOf h' u)) p q = SrtO.lt2 (fun v u => HT.lexLt (flatOf s.heap v) (flatOf s.heap u)) p q := by
      show HT.lexLt (flatOf h' p.1) (flatOf h' q.1) = HT.lexLt (flatOf s.heap p.1) (flatOf s.heap q.1)
      rw [e1, e2]
    show wpAny _ _ _ (fun r s' => s' = _ ∧ r = SrtO.lt2 (fun v u => HT.lexLt (flatOf s.heap v) (flatOf s.heap u)) p q) _ _
    rw [← e3]
    exact this
end
end Co

set_option linter.all false
/-! Co5: built-in functions. -/
namespace Co
open PySem PySem.Spec PyProof.Rows L2

def tyS : Ty → String
  | .int => "int" | .bool => "bool" | .str => "str" | .tuple => "tuple" | .list => "list" | .dict => "dict"
def tyD : PyData → String
  | .none => "NoneType" | .bool _ => "bool" | .int _ => "int" | .str _ => "str" | .list _ => "list" | .tuple _ => "tuple" | .dict _ => "dict"
theorem kit_b (t : Ty) (d : PyData) : kitB (tyD d) (tyS t) = some (isTy t d) := by
  cases d <;> cases t <;> simp only [tyD, tyS] <;> first | (refine Eq.trans (b := some true) (by decide +kernel) rfl) | (refine Eq.trans (b := some false) (by decide +kernel) rfl)
theorem kit_any {K : Frag} (d : PyData) : ∀ ts : List Ty, PySem.W.kitAny K (.type (tyD d)) (ts.map fun t => .type (tyS t)) = some (ts.any fun t => isTy t d)
  | [] => kitAny_nil
  | t :: ts => kitAny_cons (kit_ty (kit_b t d)) (fun e => by
      rw [kit_any d ts, List.any_cons, e]; rfl) fun e => by rw [List.any_cons, e]; rfl
theorem view_ty {K : Frag} {F H : Hp} (m : Same F H) {v : V} {d : PyData} (w : View K F H v d) : TyX K H v (.type (tyD d)) := by
  cases d with
  | none => cases w; exact .base .non
  | bool b => cases w; exact .base (.bl b)
  | int i => cases w; exact .base (.int i)
  | str x => cases w; exact .base (.str x)
  | list ds =>
    obtain ⟨a, xs, rfl, h, t⟩ := w
    rcases h with (h | ⟨o, h⟩) | ⟨o, its, n, h, c, _⟩
    · exact .base (.lst h)
    · exact .base (.frz h)
    · exact .kList h c
  | tuple ds =>
    obtain ⟨a, xs, rfl, h, t⟩ := w
    rcases same_sqT m h with (h | ⟨o, h⟩) | ⟨o, its, n, h, c, _⟩
    · exact .base (.tup h)
    · exact .fTuple h
    · exact .kTuple h c
  | dict kvs =>
    obtain ⟨a, kv, ds, rfl, h, t, _⟩ := w
    exact .base (.dK h)

theorem clsAll : ∀ ts : List Ty, Paired ClsV (ts.map fun t => V.ty (tyS t)) (ts.map fun t => Value.type (tyS t))
  | [] => .nil
  | t :: ts => .cons (.ty _) (clsAll ts)

theorem boolsOf_den {K : Frag} {F : Hp} : ∀ {ds : List PyData} {bs : List Bool}, boolsOf ds = some bs → ds = bs.map PyData.bool
  | [], bs, e => by cases e; rfl
  | d :: ds, bs, e => by
    cases d <;> simp [boolsOf] at e
    obtain ⟨r, e1, rfl⟩ := e
    rw [boolsOf_den (K := K) (F := F) e1]; rfl
theorem intsOf_den : ∀ {ds : List PyData} {bs : List Int}, intsOf ds = some bs → ds = bs.map PyData.int
  | [], bs, e => by cases e; rfl
  | d :: ds, bs, e => by
    cases d <;> simp [intsOf] at e
    obtain ⟨r, e1, rfl⟩ := e
    rw [intsOf_den e1]; rfl

/-- the name of a built-in, and whether it is a class -/
def b1Name : B1 → String
  | .len => "len" | .repr => "repr" | .sorted => "sorted" | .tuple => "tuple" | .list => "list" | .min => "min" | .sum => "sum" | .all => "all" | .any => "any" | .int => "int"
  | .lenset => "len" | .sortset => "sorted" | .sortp => "sorted"
def b1Val : B1 → Value
  | .len => .builtin "len" | .repr => .builtin "repr" | .sorted => .builtin "sorted" | .tuple => .type "tuple" | .list => .type "list" | .min => .builtin "min" | .sum => .builtin "sum" | .all => .builtin "all"
  | .any => .builtin "any" | .int => .type "int" | .lenset => .builtin "len" | .sortset => .builtin "sorted" | .sortp => .builtin "sorted"

section
variable {X : Cx}
theorem isiR (ts : List Ty) (t : Ty) (hts : ts = [t]) : CallR X (.builtin "isinstance") (fun vs H Q => ∃ x F d, vs = [x, .ty (tyS t)] ∧ Same F H ∧ View X.K F H x d ∧ Q (.bl (ts.any fun t => isTy t d)) H) := by
  intro pins s σ H xs us Q I r h
  obtain ⟨x, F, d, rfl, m, w, q⟩ := h
  subst hts
  refine call_isi pins s σ H _ us Q I r ⟨x, _, .type (tyD d), .type (tyS t), isTy t d, rfl, .ty _, view_ty m w, kit_ty (kit_b t d), ?_⟩
  have e : ([t].any fun t => isTy t d) = isTy t d := by simp
  rw [e] at q
  exact q
theorem isiTR (ts : List Ty) : CallR X (.builtin "isinstance") (fun vs H Q => ∃ x F d tp, vs = [x, .ref tp] ∧ H tp = some (.tup (ts.map fun t => V.ty (tyS t))) ∧ Same F H ∧ View X.K F H x d ∧ Q (.bl (ts.any fun t => isTy t d)) H) := by
  intro pins s σ H xs us Q I r h
  obtain ⟨x, F, d, tp, rfl, ht, m, w, q⟩ := h
  exact call_isiT pins s σ H _ us Q I r ⟨x, tp, _, .type (tyD d), _, _, rfl, ht, clsAll ts, view_ty m w, kit_any d ts, q⟩

theorem lenR : CallR X (.builtin "len") (rC1 X.K (b1D .len)) := by
  intro pins s σ H vs us Q I r h
  obtain ⟨x, rfl, F, d, m, w, q⟩ := h
  unfold b1D at q
  simp only at q
  split at q
  · obtain ⟨a, xs, rfl, h, t⟩ := w
    exact call_len pins s σ H _ us Q I r ⟨_, xs.length, rfl, .inl ⟨xs, h, rfl⟩, by rw [t.length]; exact q _ _ .int⟩
  · obtain ⟨a, xs, rfl, h, t⟩ := w
    exact call_len pins s σ H _ us Q I r ⟨_, xs.length, rfl, .inr ⟨xs, same_sqT m h, rfl⟩, by rw [t.length]; exact q _ _ .int⟩
  · exact q.elim
theorem allR (hc : X.calm = true) : CallR X (.builtin "all") (rC1 X.K (b1D .all)) := by
  intro pins s σ H vs us Q I r h
  obtain ⟨x, rfl, F, d, m, w, q⟩ := h
  unfold b1D at q
  simp only at q
  split at q
  · obtain ⟨a, xs, rfl, h, t⟩ := w
    obtain ⟨bs, e, q⟩ := q
    rw [boolsOf_den (K := X.K) (F := F) e] at t
    rw [t.bools] at h
    exact cr_all hc pins s σ H _ us Q I r ⟨a, bs, rfl, h, q _ _ .bl⟩
  · exact q.elim
theorem anyR (hc : X.calm = true) : CallR X (.builtin "any") (rC1 X.K (b1D .any)) := by
  intro pins s σ H vs us Q I r h
  obtain ⟨x, rfl, F, d, m, w, q⟩ := h
  unfold b1D at q
  simp only at q
  split at q
  · obtain ⟨a, xs, rfl, h, t⟩ := w
    obtain ⟨bs, e, q⟩ := q
    rw [boolsOf_den (K := X.K) (F := F) e] at t
    rw [t.bools] at h
    exact cr_any hc pins s σ H _ us Q I r ⟨a, bs, rfl, h, q _ _ .bl⟩
  · exact q.elim
theorem tupleR : CallR X (.type "tuple") (rC1 X.K (b1D .tuple)) := by
  intro pins s σ H vs us Q I r h
  obtain ⟨x, rfl, F, d, m, w, q⟩ := h
  unfold b1D at q
  simp only at q
  split at q
  · obtain ⟨a, xs, rfl, h, t⟩ := w
    exact call_tuple_of pins s σ H _ us Q I r ⟨a, xs, rfl, .inl ⟨h, fun p n => q _ _ (.tup n t)⟩⟩
  · obtain ⟨a, xs, rfl, h, t⟩ := w
    exact call_tuple_of pins s σ H _ us Q I r ⟨a, xs, rfl, .inr ⟨same_sqT m h, q _ _ (.old (.tup h t))⟩⟩
  · exact q.elim
theorem keys_den {K : Frag} {F : Hp} : ∀ {kv : List (Key × V)} {ds : List PyData}, ds.length = kv.length → DenAll K F (kv.map fun p => kV p.1) ((dctOf kv ds).map (·.1))
  | [], ds, e => by
    cases ds with
    | nil => exact .nil
    | cons a b => cases e
  | p :: kv, ds, e => by
    cases ds with
    | nil => cases e
    | cons d ds =>
      have ih := keys_den (K := K) (F := F) (kv := kv) (ds := ds) (by simpa using e)
      obtain ⟨k, v⟩ := p
      refine .cons ?_ ih
      cases k
      · exact .int _
      · exact .str _
theorem listR (hc : X.calm = true) : CallR X (.type "list") (rC1 X.K (b1D .list)) := by
  intro pins s σ H vs us Q I r h
  obtain ⟨x, rfl, F, d, m, w, q⟩ := h
  unfold b1D at q
  cases d <;> simp only at q <;> first | exact q.elim | skip
  · obtain ⟨a, xs, rfl, h, t⟩ := w
    exact call_list_of pins s σ H _ us Q I r ⟨a, xs, rfl, .inl h, fun p n => q _ _ (.own n ⟨_, upd_same, t⟩)⟩
  · obtain ⟨a, xs, rfl, h, t⟩ := w
    exact call_list_of pins s σ H _ us Q I r ⟨a, xs, rfl, .inr (same_sqT m h), fun p n => q _ _ (.own n ⟨_, upd_same, t⟩)⟩
  · obtain ⟨a, kv, ds, rfl, h, t, rfl⟩ := w
    exact call_list_dK hc pins s σ H _ us Q I r ⟨a, kv, rfl, h, fun p n => q _ _ (.own n ⟨_, upd_same, keys_den (by simpa using t.length.symm)⟩)⟩
section
variable {prog : Program} {w : World} {A : Around} {E : Value → Shared → Prop} {s : Shared} {l : Addr} {xs : Array (Int × Tok)}
theorem iter_intTup {Q : Value → Shared → Prop} (hl : s.heap.IsTuple l (intItems xs))
    (h : ∀ s₂ : Shared, s₂ = { s with heap := s.heap.push { cls := .type "tuple_iterator", data := .fields #[.ref l, .int 0 0] } } →
      (s₂.heap.IsTupleIter s.heap.objs.size l 0 ∧ s₂.heap.IsTuple l (intItems xs)) → (∀ b ∈ [s.heap.objs.size, l], b < s₂.heap.objs.size) → l ≠ s.heap.objs.size → Q (.ref s.heap.objs.size) s₂) :
    wpAny (model prog w) A (pyIter (.ref l)) Q E s := by
  have hlt : l < s.heap.objs.size := by obtain ⟨_, e, _⟩ := hl; exact Heap.lt_size e
  refine wpAny_pyIter_tuple hl (h _ rfl ⟨⟨_, Heap.get?_push_size _ rfl, rfl, rfl⟩, ?_⟩ (fun b hb => ?_) (Nat.ne_of_lt hlt))
  · obtain ⟨o, e, c, n, hd⟩ := hl
    exact ⟨o, Heap.get?_push_of_some _ e, c, n, hd⟩
  · show b < (s.heap.push _).objs.size
    rw [Heap.size_push]
    simp only [List.mem_cons, List.not_mem_nil, or_false] at hb
    rcases hb with rfl | rfl
    · exact Nat.lt_succ_self _
    · exact Nat.lt_succ_of_lt hlt
theorem old_keptT {h' : Heap} (hk : ∀ b o, b ∉ [s.heap.objs.size] → (s.heap.push { cls := .type "tuple_iterator", data := .fields #[.ref l, .int 0 0] }).get? b = some o → h'.get? b = some o) :
    ∀ b o, s.heap.get? b = some o → h'.get? b = some o := fun b o e => by
  refine hk b o (fun hm => ?_) (Heap.get?_push_of_some _ e)
  simp only [List.mem_cons, List.not_mem_nil, or_false] at hm
  exact absurd (hm ▸ Heap.lt_size e) (Nat.lt_irrefl _)
theorem sum_tup {its : List Value} {ns : List Int} {Q : Value → Shared → Prop} (hh : A.handled = none) (hl : s.heap.IsTuple l its.toArray) (hi : IntsAre its ns)
    (h : ∀ h' tk t', (∀ b o, s.heap.get? b = some o → h'.get? b = some o) → Q (.int ns.sum t') { s with heap := h', toks := tk }) : wpAny (model prog w) A (call (.builtin "sum") [.ref l]) Q E s := by
  obtain ⟨xs, e⟩ := hi.allInts.items
  have hn : numsOf (intItems xs).toList = ns := by rw [← e]; exact hi.numsOf
  rw [nums_intItems] at hn
  rw [e] at hl
  refine call_sum_walkG (iter_intTup hl fun s₂ e st hfp hlI => ?_)
  subst e
  refine ⟨_, _, _, _, _, _, numAt xs, rfl, Walks.tuple (A := A.in1) hh _ l hlI (intItems xs), st, hfp, (fun _ _ => intItems_at), fun h' tk t' hk => ?_⟩
  have := h h' tk t' (old_keptT hk)
  have e3 : (intItems xs).size = xs.size := by simp [intItems]
  rw [e3, preSum_eq, List.take_of_length_le (by simp), hn]; exact this
theorem min_tup {its : List Value} {ns : List Int} {Q : Value → Shared → Prop} (hh : A.handled = none) (hl : s.heap.IsTuple l its.toArray) (hi : IntsAre its ns) (hne : 0 < ns.length)
    (h : ∀ h' tk M t', (∀ b o, s.heap.get? b = some o → h'.get? b = some o) → M ∈ ns → (∀ a, a ∈ ns → M ≤ a) → Q (.int M t') { s with heap := h', toks := tk }) : wpAny (model prog w) A (call (.builtin "min") [.ref l]) Q E s := by
  obtain ⟨xs, e⟩ := hi.allInts.items
  have hn : numsOf (intItems xs).toList = ns := by rw [← e]; exact hi.numsOf
  rw [nums_intItems] at hn
  subst hn
  rw [e] at hl
  have hsz : 0 < xs.size := by simpa using hne
  refine call_min_walk (iter_intTup hl fun s₂ e st hfp hlI => ?_)
  subst e
  refine ⟨_, _, _, _, _, _, _, rfl, Walks.tuple (A := A.in1) hh _ l hlI (intItems xs), st, hfp, by simpa [intItems] using hsz, CmpOf.ints_lt (numAt xs) (fun _ _ => intItems_at), fun v h' tk hP hk => ?_⟩
  have hv : (intItems xs)[argBest (fun i j => decide (numAt xs i < numAt xs j)) (xs.size - 1)]? = some v := by simpa [intItems] using hP
  obtain ⟨t, rfl⟩ := intItems_at hv
  obtain ⟨h1, h2⟩ := argBest_lt (numAt xs) (xs.size - 1)
  refine h h' tk _ t (old_keptT hk) ?_ fun a ha => ?_
  · rw [numAt_eq]; exact PySem.getD_mem (by rw [List.length_map, Array.length_toList]; omega)
  · obtain ⟨j, hj, rfl⟩ := mem_getD ha
    rw [List.length_map, Array.length_toList] at hj
    rw [← numAt_eq]; exact h2 j (by omega)
end
theorem intR : CallR X (.type "int") (rC1 X.K (b1D .int)) := by
  intro pins s σ H vs us Q I r h
  obtain ⟨x, rfl, F, d, m, w, q⟩ := h
  unfold b1D at q
  cases d <;> simp only at q <;> first | exact q.elim | skip
  · cases w
    exact call_int1 pins s σ H _ us Q I r (.inr ⟨_, rfl, q _ _ .int⟩)
  · cases w
    exact call_int1 pins s σ H _ us Q I r (.inl ⟨_, rfl, q _ _ .int⟩)
theorem sumR (hc : X.calm = true) : CallR X (.builtin "sum") (rC1 X.K (b1D .sum)) := by
  intro pins s σ H vs us Q I r h
  obtain ⟨x, rfl, F, d, m, w, q⟩ := h
  unfold b1D at q
  cases d <;> simp only [itemsOf] at q <;> first | exact q.elim | skip
  · obtain ⟨a, xs, rfl, h, t⟩ := w
    obtain ⟨ns, e, q⟩ := q
    rw [intsOf_den e] at t
    rw [t.ints] at h
    exact cr_sum hc pins s σ H _ us Q I r ⟨a, ns, rfl, h, q _ _ .int⟩
  · obtain ⟨a, xs, rfl, h, t⟩ := w
    obtain ⟨ns, e, q⟩ := q
    rw [intsOf_den e] at t
    rw [t.ints] at h
    obtain ⟨its, rv, ht, _⟩ := I.tuple (same_sqT m h)
    rw [Vals.ref1 r]
    exact sum_tup (I.ok.hd hc) ht rv.ints fun h' tk t' hk => ⟨.int _, H, I.kept hk, ⟨_, rfl⟩, q _ _ .int⟩
theorem minR (hc : X.calm = true) : CallR X (.builtin "min") (rC1 X.K (b1D .min)) := by
  intro pins s σ H vs us Q I r h
  obtain ⟨x, rfl, F, d, m, w, q⟩ := h
  unfold b1D at q
  cases d <;> simp only [itemsOf] at q <;> first | exact q.elim | skip
  · obtain ⟨a, xs, rfl, h, t⟩ := w
    obtain ⟨ns, e, l, q⟩ := q
    rw [intsOf_den e] at t
    rw [t.ints] at h
    exact cr_min hc pins s σ H _ us Q I r ⟨a, ns, rfl, h, l, fun m h1 h2 => q m h1 h2 _ _ .int⟩
  · obtain ⟨a, xs, rfl, h, t⟩ := w
    obtain ⟨ns, e, l, q⟩ := q
    rw [intsOf_den e] at t
    rw [t.ints] at h
    obtain ⟨its, rv, ht, _⟩ := I.tuple (same_sqT m h)
    rw [Vals.ref1 r]
    exact min_tup (I.ok.hd hc) ht rv.ints l fun h' tk m t' hk h1 h2 => ⟨.int _, H, I.kept hk, ⟨_, rfl⟩, q m h1 h2 _ _ .int⟩
theorem b2R (f : B2) (hc : X.calm = true) : CallR X (.builtin (match f with | .max => "max" | .min => "min")) (rC2 X.K (b2D f)) := by
  intro pins s σ H vs us Q I r h
  obtain ⟨x, y, rfl, F, d1, d2, m, w1, w2, q⟩ := h
  unfold b2D at q
  split at q
  · rename_i i j
    cases w1
    cases w2
    cases f
    · refine call_max2 hc pins s σ H _ us Q I r ⟨i, j, rfl, ?_⟩
      have e : max i j = if j > i then j else i := by
        split <;> omega
      rw [← e]
      exact q _ _ .int
    · refine call_min2 hc pins s σ H _ us Q I r ⟨i, j, rfl, ?_⟩
      have e : min i j = if j < i then j else i := by
        split <;> omega
      rw [← e]
      exact q _ _ .int
  · exact q.elim

/-! ### repr -/
/-- what is read of a datum: its lists and dicts stand in H -/
def LD (K : Frag) (H : Hp) (a : Addr) : Prop := (∃ xs, SqL K H a xs) ∨ ∃ kv, H a = some (.dK kv)
theorem keyD_reads {h : Heap} {k : Key} {u : Value} (e : keyIs k u = true) : Reads h u (keyD k) [] := by
  rcases keyIs_shape e with ⟨i, t, rfl, rfl⟩ | ⟨x, t, rfl, rfl⟩
  · exact .int i t
  · exact .str x t
theorem pairs_reads {P : Program} {w : World} {h : Heap} : ∀ {es : List DictEntry} {vs : List (Key × Value)} {kv : List (Key × V)} {ds : List PyData}, Pairs (mixKind P w) es vs → KV kv vs → ds.length = kv.length →
    ReadsAll h (es.map (·.key)) ((dctOf kv ds).map (·.1)) [] ∧ es.map (·.val) = vs.map (·.2) ∧ (dctOf kv ds).map (·.2) = ds
  | [], _, kv, ds, .nil, k, e => by
    cases k
    cases ds with
    | nil => exact ⟨.nil, rfl, rfl⟩
    | cons a b => cases e
  | e :: es, _, kv, ds, .cons (kv := q) h1 h2 h3, k, el => by
    cases k with
    | @cons p _ kv _ r k =>
      cases ds with
      | nil => cases el
      | cons d ds =>
        obtain ⟨i1, i2, i3⟩ := pairs_reads (h := h) (ds := ds) h3 k (by simpa using el)
        refine ⟨?_, ?_, ?_⟩
        · have := ReadsAll.cons (keyD_reads (h := h) (k := p.1) (u := e.key) (by rw [r.1]; exact h1)) i1
          simpa [dctOf] using this
        · simp [i2, h2]
        · simpa [dctOf] using i3
theorem kv_vals {kv : List (Key × V)} {vs : List (Key × Value)} (k : KV kv vs) : Vals (kv.map (·.2)) (vs.map (·.2)) := by
  unfold KV at k
  induction k with
  | nil => exact .nil
  | cons r _ ih => exact .cons r.2 ih
mutual
theorem Den.reads {pins : List (Addr × Obj)} {σ : L2.St} {H : Hp} {s : Shared} (I : Inv X pins σ H s) : ∀ {v : V} {d : PyData} (u : Value), Den X.K H v d → RelV v u → ∃ as, Reads s.heap u d as ∧ ∀ a ∈ as, LD X.K H a
  | _, _, u, .non, r => by cases r; exact ⟨_, .none, fun _ h => absurd h (by simp)⟩
  | _, _, u, .bl b, r => by cases r; exact ⟨_, .bool b, fun _ h => absurd h (by simp)⟩
  | _, _, u, .int i, r => by obtain ⟨t, rfl⟩ := r; exact ⟨_, .int i t, fun _ h => absurd h (by simp)⟩
  | _, _, u, .str x, r => by obtain ⟨t, rfl⟩ := r; exact ⟨_, .str x t, fun _ h => absurd h (by simp)⟩
  | _, _, u, .lst (a := a) h t, r => by
    cases r
    obtain ⟨its, rv, ⟨o, n, e, c, _, hd⟩, hz⟩ := I.list h
    obtain ⟨as, ra, rb⟩ := DenAll.reads I its t rv
    refine ⟨_, .list e c hd (by simpa using ra), fun b hb => ?_⟩
    rcases List.mem_cons.mp hb with rfl | hb
    · exact .inl ⟨_, h⟩
    · exact rb b hb
  | _, _, u, .tup (a := a) h t, r => by
    cases r
    obtain ⟨its, rv, ⟨o, e, c, n, hd⟩, hz⟩ := I.tuple h
    obtain ⟨as, ra, rb⟩ := DenAll.reads I its t rv
    exact ⟨_, .tuple e c hd (by simpa using ra), rb⟩
  | _, _, u, .dct (a := a) (kv := kv) (ds := ds) h t q, r => by
    subst q
    cases r
    obtain ⟨z, hs, vs, k, o, es, ep, e, ex, hd, hk, hp, hn⟩ := I.hok _ _ h
    have hl := t.length
    obtain ⟨p1, p2, p3⟩ := pairs_reads (h := s.heap) (ds := ds) hp k (by simpa using hl.symm)
    obtain ⟨as, ra, rb⟩ := DenAll.reads I (vs.map (·.2)) t (kv_vals k)
    refine ⟨_, .dict (kvs := dctOf kv ds) e ex.1 hd p1 (by rw [p2, p3]; exact ra), fun b hb => ?_⟩
    simp only [List.append_nil, List.mem_append, List.mem_cons, List.not_mem_nil, or_false] at hb
    rcases hb with rfl | hb
    · exact .inr ⟨_, h⟩
    · exact rb b hb
theorem DenAll.reads {pins : List (Addr × Obj)} {σ : L2.St} {H : Hp} {s : Shared} (I : Inv X pins σ H s) : ∀ {vs : List V} {ds : List PyData} (us : List Value), DenAll X.K H vs ds → Vals vs us → ∃ as, ReadsAll s.heap us ds as ∧ ∀ a ∈ as, LD X.K H a
  | _, _, _, .nil, r => by cases r; exact ⟨_, .nil, fun _ h => absurd h (by simp)⟩
  | _, _, _, .cons h t, r => by
    cases r with
    | cons r rr =>
      obtain ⟨as, a1, a2⟩ := Den.reads I _ h r
      obtain ⟨bs, b1, b2⟩ := DenAll.reads I _ t rr
      refine ⟨_, .cons a1 b1, fun b hb => ?_⟩
      rcases List.mem_append.mp hb with hb | hb
      · exact a2 b hb
      · exact b2 b hb
end
/-- the interpreter's own table of modules is none of ours -/
def Sys (X : Cx) : Prop := ∃ m, X.base.Ns sysModules m
theorem no_sys (S : Sys X) {pins : List (Addr × Obj)} {σ : L2.St} {H : Hp} {s : Shared} (I : Inv X pins σ H s) {as : List Addr} (h : ∀ a ∈ as, LD X.K H a) : sysModules ∉ as := fun hm => by
  obtain ⟨m, o, es, ep, hb, hd, _⟩ := S
  have hn := (I.bs _ _ hb).2
  rcases h _ hm with ⟨xs, (e | ⟨ob, e⟩) | ⟨ob, its, n, e, _, _, c, _⟩⟩ | ⟨kv, e⟩
  · rw [hn] at e; cases e
  · rw [hn] at e; cases e
  · have e2 := I.mod.kin _ _ e
    rw [hb] at e2
    cases e2
    rw [hd] at c
    cases c
  · rw [hn] at e; cases e
theorem reprR (S : Sys X) (hu : X.A.units + 80 < cLine) (hg : X.A.guards = some []) : CallR X (.builtin "repr") (rC1 X.K (b1D .repr)) := by
  intro pins s σ H vs us Q I r h
  obtain ⟨x, rfl, F, d, m, w, q⟩ := h
  obtain ⟨⟨f1, f2, f3⟩, q⟩ := q
  obtain ⟨u, rfl, ru⟩ := vals1 r
  have f3 := line_le f3
  have fin : ∀ {s' : Shared} {t : Tok}, Inv X pins σ H s' → EP X pins σ Q (.str d.shown t) s' := fun I' => ⟨.str _, H, I', ⟨_, rfl⟩, q _ _ .str⟩
  have big : ∀ a, u = .ref a → wpAny (model X.prog X.w) X.A (call (.builtin "repr") [u]) (EP X pins σ Q) X.xe s := fun a e => by
    subst e
    obtain ⟨as, rd, hb⟩ := Den.reads I _ (w.den m) ru
    exact repr_of_reads' rd f1 (fun _ => no_sys S I hb) hg (by omega) (fun _ _ e => e) (fun h' u tk hk => fin (I.kept hk)) f3
  cases d with
  | none => cases w; cases ru; exact call_repr_gives (T := "NoneType") rfl PySem.F.slot_NoneType_repr PySem.F.entry_NoneType_repr (PySem.F.args_NoneType_repr_1 _) gives_none_repr (fin (I.tok _)) rfl f3
  | bool b => cases w; cases ru; exact call_repr_gives (T := "bool") rfl PySem.F.slot_bool_repr PySem.F.entry_bool_repr (PySem.F.args_bool_repr_1 _) (gives_bool_repr b) (fin (I.tok _)) rfl f3
  | int i =>
    cases w
    obtain ⟨t, rfl⟩ := ru
    exact PySem.P.repr_of_int (by simpa [PyData.showable] using f1) (fin (I.tok _))
  | str y =>
    cases w
    obtain ⟨t, rfl⟩ := ru
    exact call_repr_gives (T := "str") (typeIs_str s y t) PySem.F.slot_str_repr PySem.F.entry_str_repr (PySem.F.args_str_repr_1 _) (gives_str_repr y t) (fin (I.tok _)) rfl f3
  | list ds => obtain ⟨a, xs, rfl, _⟩ := w; exact big a ru
  | tuple ds => obtain ⟨a, xs, rfl, _⟩ := w; exact big a ru
  | dict kvs => obtain ⟨a, xs, ds, rfl, _⟩ := w; exact big a ru
theorem ints_den {K : Frag} {F : Hp} : ∀ {ds : List PyData} {ns : List Int} {xs : List V}, intsOf ds = some ns → DenAll K F xs ds → xs = ns.map V.int := fun {ds ns xs} e t => by
  have := intsOf_den e
  subst this
  exact t.ints
/-- sorted(seq), ints of any number, a list or a tuple -/
theorem sorted_seq {pins : List (Addr × Obj)} {σ : L2.St} {H : Hp} {s : Shared} {a : Addr} {T : String} {o : Obj} {its : List Value} {ns : List Int} {m : Nat} {Q : VK} (I : Inv X pins σ H s) (hT : T = "list" ∨ T = "tuple") (ho : s.heap.get? a = some o) (hcl : o.cls = .type T) (hd : o.data = .seq its.toArray m)
    (rv : Vals (ns.map V.int) its) (hz : ns.length ≤ sizeLine) (q : ∀ (ns' : List Int) (p : Addr), ns'.Perm ns → ns'.Pairwise (· ≤ ·) → H p = none → Q (.ref p) (upd H p (.lst (ns'.map V.int)))) :
    wpAny (model X.prog X.w) X.A (call (.builtin "sorted") [.ref a]) (EP X pins σ Q) X.xe s := by
  have hi := rv.ints
  have hl : its.length = ns.length := by rw [← rv.length, List.length_map]
  refine Calls.call_function_entry kind_sorted plain_sorted entry_sorted (args_sorted1 _) ?_
  unfold Builtin.«sorted»
  refine wpAny_bind (m := checkCount "sorted" 1 1 _) (wpAny_pure ?_)
  refine wpAny_bind (wpAny_collect_seq a hT ho hcl hd (fun h1 keep => ?_) (by rw [List.size_toArray]; omega))
  have el : its.toArray.toList = its := by simp
  rw [el]
  refine wpAny_bind (wpAny_newList ?_ (by omega))
  have I1 : Inv X pins σ H { s with heap := h1 } := I.kept (t' := s.toks) keep
  have hoL : (h1.push (seqObj "list" its.toArray 0)).get? h1.objs.size = some (seqObj "list" its.toArray 0) := Heap.get?_push_size _ rfl
  show wpAny _ _ _ _ _ { s with heap := h1.push (seqObj "list" its.toArray 0) }
  refine wpAny_bind (wpAny_holding (wpAny_call_entry slot_list_sort ⟨_, hoL, rfl⟩ entry_list_sort (SrtO.list_sort_ord SrtO.swo_int hoL (by omega) (fun h2 => SrtO.ints_sortable hi h2) fun out hs hb => ⟨_, rfl, ?_⟩) (args_list_sort _)))
  refine wpAny_pure ⟨_, rfl, ?_⟩
  obtain ⟨k1, k2, k3⟩ := SrtO.ints_out hi hs hb
  obtain ⟨ep, he'⟩ := PyProof.Rows.sortedHeap_at (vs := its) (out := out.toArray) hoL
  have hlen : ((out.map SrtO.iv).map V.int).length ≤ sizeLine := by
    rw [List.length_map, k2.length_eq]; exact hz
  refine ⟨.ref h1.objs.size, upd H h1.objs.size (.lst ((out.map SrtO.iv).map V.int)), I1.laid (t' := s.toks) (fun b o e => ?_) (Nat.le_refl _) ⟨hlen, out, ep, vals_of_ints k1, he'⟩, rfl, q _ _ k2 k3 (I1.hok.fresh (Nat.le_refl _))⟩
  have hlt : b < h1.objs.size := Heap.lt_size e
  rw [PyProof.Rows.sortedHeap_old (Nat.ne_of_lt hlt) (by rw [Heap.size_push]; exact Nat.lt_succ_of_lt hlt)]
  exact Heap.get?_push_of_some _ e
theorem sort_eq {ns ns' : List Int} (h1 : ns'.Perm ns) (h2 : ns'.Pairwise (· ≤ ·)) : ns' = isort (fun a b => decide (a ≤ b)) ns := by
  unfold isort
  refine List.Perm.eq_of_pairwise (le := fun a b => decide (a ≤ b) = true) (fun a b _ _ x y => ?_) (h2.imp fun h => by simpa using h) (List.pairwise_mergeSort (fun a b c x y => ?_) (fun a b => ?_) _) (h1.trans (List.mergeSort_perm _ _).symm)
  · simp at x y; omega
  · simp at x y ⊢; omega
  · simp; omega
theorem denAll_map {K : Frag} {F : Hp} {α : Type} {f : α → V} {g : α → PyData} : ∀ {l : List α}, (∀ x ∈ l, Den K F (f x) (g x)) → DenAll K F (l.map f) (l.map g)
  | [], _ => .nil
  | x :: l, h => .cons (h x List.mem_cons_self) (denAll_map fun y hy => h y (List.mem_cons_of_mem _ hy))
theorem tups_den {pins : List (Addr × Obj)} {σ : L2.St} {F H : Hp} {s : Shared} (I : Inv X pins σ H s) (m : Same F H) : ∀ {ds : List PyData} {ts : List (List Int)} {xs : List V} {its : List Value}, tupsOf ds = some ts → DenAll X.K F xs ds → Vals xs its →
    (∀ v ∈ its, (∃ ns, ns ∈ ts ∧ TS.TupInts s.heap v ns) ∧ Den X.K F (backV v) (.tuple ((TS.intsOf s.heap v).map .int)) ∧ ∃ a, v = .ref a) ∧ its.map (TS.intsOf s.heap) = ts
  | [], ts, _, _, e, .nil, .nil => by
    cases e
    exact ⟨by simp, rfl⟩
  | .tuple es :: ds, ts, _, _, e, .cons (.tup (a := a) hq ht) t, .cons r rr => by
    simp only [tupsOf] at e
    cases h1 : Co.intsOf es with
    | none => rw [h1] at e; cases e
    | some ns =>
      rw [h1] at e
      cases h2 : tupsOf ds with
      | none => rw [h2] at e; cases e
      | some ts' =>
        rw [h2] at e
        cases e
        cases r
        obtain ⟨i1, i2⟩ := tups_den I m h2 t rr
        have ex := ints_den h1 ht
        subst ex
        have tq := tupI_raw I (same_sqT m hq)
        have ees := intsOf_den h1
        have dd : Den X.K F (V.ref a) (.tuple ((TS.intsOf s.heap (.ref a)).map .int)) := by
          rw [tq.ints, ← ees]
          exact .tup hq ht
        refine ⟨fun v hv => ?_, ?_⟩
        · rcases List.mem_cons.mp hv with rfl | hv
          · exact ⟨⟨ns, List.mem_cons_self, tq⟩, dd, _, rfl⟩
          · obtain ⟨⟨n, hn, q⟩, b, c⟩ := i1 v hv
            exact ⟨⟨n, List.mem_cons_of_mem _ hn, q⟩, b, c⟩
        · rw [List.map_cons, i2, tq.ints]
  | .none :: _, _, _, _, e, _, _ => by simp [tupsOf] at e
  | .int _ :: _, _, _, _, e, _, _ => by simp [tupsOf] at e
  | .bool _ :: _, _, _, _, e, _, _ => by simp [tupsOf] at e
  | .str _ :: _, _, _, _, e, _, _ => by simp [tupsOf] at e
  | .list _ :: _, _, _, _, e, _, _ => by simp [tupsOf] at e
  | .dict _ :: _, _, _, _, e, _, _ => by simp [tupsOf] at e
theorem sortedR (hc : X.calm = true) (hu : X.A.units + 80 < cLine) : CallR X (.builtin "sorted") (rC1 X.K (b1D .sorted)) := by
  intro pins s σ H vs us Q I r h
  obtain ⟨x, rfl, F, d, m, w, q⟩ := h
  obtain ⟨u, rfl, ru⟩ := vals1 r
  unfold b1D at q
  simp only at q
  split at q
  case h_2 => exact q.elim
  case h_1 ds hds =>
    obtain ⟨hlen, q⟩ := q
    rcases q with ⟨ns, hns, q⟩ | ⟨rfl, ts, hts, q⟩
    · have fin : ∀ {a : Addr} {xs : List V}, DenAll X.K F xs ds → (∀ (ns' : List Int) (p : Addr), ns'.Perm ns → ns'.Pairwise (· ≤ ·) → H p = none → Q (.ref p) (upd H p (.lst (ns'.map V.int)))) := fun {a xs} t ns' p h1 h2 n => by
        have e := sort_eq h1 h2
        subst e
        exact q _ _ (.own n ⟨_, upd_same, DenAll.of_ints _⟩)
      cases d <;> first | cases hds | skip
      · obtain ⟨a, xs, rfl, hq, t⟩ := w
        cases ru
        have ex := ints_den hns t
        subst ex
        obtain ⟨its, rv, ⟨o, n, ho, hcl, _, hd⟩, hz⟩ := I.list hq
        exact sorted_seq I (.inl rfl) ho hcl hd rv (by rw [List.length_map] at hz; exact hz) (fin (a := a) t)
      · obtain ⟨a, xs, rfl, hq, t⟩ := w
        cases ru
        have ex := ints_den hns t
        subst ex
        obtain ⟨its, rv, ⟨o, ho, hcl, n, hd⟩, hz⟩ := I.tuple (same_sqT m hq)
        exact sorted_seq I (.inr rfl) ho hcl hd rv (by rw [List.length_map] at hz; exact hz) (fin (a := a) t)
    · obtain ⟨a, xs, rfl, hq, t⟩ := w
      cases ru
      obtain ⟨its, rv, hl, hz⟩ := I.list hq
      obtain ⟨i1, i2⟩ := tups_den I m hts t rv
      have hzl : its.length = xs.length := rv.length.symm
      have hdl : ds.length = xs.length := t.length.symm
      refine SrtO.sorted_ord (NtL.swo_lexL fun v => TS.intsOf s.heap v) hl.isList (by rw [hzl]; exact hz) (fun h2 h₁ a' ha kk => ?_) fun out h1 h2 => ?_
      · have kp : ∀ b o, s.heap.get? b = some o → o.cls = .type "tuple" → h₁.get? b = some o := fun b o e _ => (kk b o e).2
        have e3 : (fun v u => HT.lexLt (TS.intsOf s.heap v) (TS.intsOf s.heap u)) = fun v u => HT.lexLt (TS.intsOf s.heap v) (TS.intsOf s.heap u) := rfl
        intro h' keep
        have S := tups_sortableA (prog := X.prog) (w := X.w) (A := X.A.in1.in1) (s := { s with heap := h₁ }) (a := a') (vs := its) (by show X.A.units + 1 + 1 < cLine; omega) h2 (fun v hv => by
          obtain ⟨⟨n, hn, tq⟩, _⟩ := i1 v hv
          exact ⟨n, tq.keeps kp⟩) (fun o e => by
            have e' : some o = some (seqObj "list" its.toArray 0) := e.symm.trans ha
            cases e'
            intro c
            exact absurd (Value.type.inj c) (by decide)) h' keep
        obtain ⟨κ, S1, S2⟩ := S
        refine ⟨κ, S1, fun p q hm hm' => ?_⟩
        obtain ⟨⟨n1, _, t1⟩, _⟩ := i1 _ hm
        obtain ⟨⟨n2, _, t2⟩, _⟩ := i1 _ hm'
        have e1 : TS.intsOf h₁ p.1 = TS.intsOf s.heap p.1 := (t1.keeps kp).ints.trans t1.ints.symm
        have e2 : TS.intsOf h₁ q.1 = TS.intsOf s.heap q.1 := (t2.keeps kp).ints.trans t2.ints.symm
        have e4 : SrtO.lt2 (fun v u => HT.lexLt (TS.intsOf h₁ v) (TS.intsOf h₁ u)) p q = SrtO.lt2 (fun v u => HT.lexLt (TS.intsOf s.heap v) (TS.intsOf s.heap u)) p q := by
          show HT.lexLt (TS.intsOf h₁ p.1) (TS.intsOf h₁ q.1) = HT.lexLt (TS.intsOf s.heap p.1) (TS.intsOf s.heap q.1)
          rw [e1, e2]
        rw [← e4]
        exact S2 p q hm hm'
      · have hp := h2.perm
        obtain ⟨ep, he'⟩ := PyProof.Rows.sortedAll_at s.heap its out.toArray
        have hio : ∀ v ∈ out, v ∈ its := fun v hv => hp.mem_iff.mp hv
        have hd := denAll_map (K := X.K) (F := F) (f := backV) (g := fun v => PyData.tuple ((TS.intsOf s.heap v).map .int)) (l := out) fun v hv => (i1 v (hio v hv)).2.1
        have hlen2 : (out.map backV).length ≤ sizeLine := by rw [List.length_map, hp.length_eq, hzl]; exact hz
        have hn := I.hok.fresh (Nat.le_succ s.heap.objs.size)
        refine ⟨.ref _, upd H (s.heap.objs.size + 1) (.lst (out.map backV)), I.laid (t' := s.toks) (fun _ _ => PyProof.Rows.sortedAll_old) (Nat.le_succ _) ⟨hlen2, out, ep, vals_back fun v hv => (i1 v (hio v hv)).2.2, he'⟩, rfl, ?_⟩
        refine q (out.map (TS.intsOf s.heap)) (by rw [← i2]; exact hp.map _) (List.pairwise_map.mpr h1) _ _ ?_
        rw [List.map_map]
        exact .own hn ⟨_, upd_same, hd⟩
theorem pairs_den {pins : List (Addr × Obj)} {σ : L2.St} {F H : Hp} {s : Shared} (I : Inv X pins σ H s) (m : Same F H) : ∀ {ps : List (Int × Int)} {xs : List V} {its : List Value}, DenAll X.K F xs (ps.map fun p => PyData.tuple [.int p.1, .int p.2]) → Vals xs its → PairsAre s.heap its ps
  | [], _, _, .nil, .nil => .nil
  | p :: ps, _, _, .cons (.tup (a := a) hq ht) t, .cons r rr => by
    cases r
    have e := ht.ints (ns := [p.1, p.2])
    subst e
    exact .cons (tupI_raw I (same_sqT m hq)) (pairs_den I m t rr)
theorem tpairs_den {pins : List (Addr × Obj)} {σ : L2.St} {F H : Hp} {s : Shared} (I : Inv X pins σ H s) (m : Same F H) : ∀ {tss : List (List (Int × Int))} {xs : List V} {its : List Value}, DenAll X.K F xs (tss.map pairsD) → Vals xs its →
    (∀ v ∈ its, ∃ ps, ps ∈ tss ∧ TupPairs s.heap v ps ∧ Den X.K F (backV v) (pairsD ps) ∧ ∃ a, v = .ref a) ∧ its.map (flatOf s.heap) = tss.map flat
  | [], _, _, .nil, .nil => ⟨by simp, rfl⟩
  | ps :: tss, _, _, .cons (.tup (a := a) hq ht) t, .cons r rr => by
    cases r
    obtain ⟨i1, i2⟩ := tpairs_den I m t rr
    obtain ⟨its', rv', ht', _⟩ := I.tuple (same_sqT m hq)
    have tp : TupPairs s.heap (.ref a) ps := ⟨a, its'.toArray, rfl, ht', by simpa using pairs_den I m ht rv'⟩
    refine ⟨fun v hv => ?_, ?_⟩
    · rcases List.mem_cons.mp hv with rfl | hv
      · exact ⟨ps, List.mem_cons_self, tp, .tup hq ht, _, rfl⟩
      · obtain ⟨n, hn, q⟩ := i1 v hv
        exact ⟨n, List.mem_cons_of_mem _ hn, q⟩
    · rw [List.map_cons, List.map_cons, i2, tp.flat_eq]
theorem sortpR (hc : X.calm = true) (hu : X.A.units + 80 < cLine) : CallR X (.builtin "sorted") (rC1 X.K (b1D .sortp)) := by
  intro pins s σ H vs us Q I r h
  obtain ⟨x, rfl, F, d, m, w, q⟩ := h
  obtain ⟨u, rfl, ru⟩ := vals1 r
  unfold b1D at q
  cases d <;> simp only at q <;> first | exact q.elim | skip
  obtain ⟨a, xs, rfl, hq, t⟩ := w
  obtain ⟨tss, rfl, hlen, hne, q⟩ := q
  cases ru
  obtain ⟨its, rv, hl, hz⟩ := I.list hq
  obtain ⟨i1, i2⟩ := tpairs_den I m t rv
  have hzl : its.length = xs.length := rv.length.symm
  have hdl : tss.length = its.length := by rw [hzl, t.length, List.length_map]
  refine SrtO.sorted_ord (NtL.swo_lexL fun v => flatOf s.heap v) hl.isList (by rw [hzl]; exact hz) (fun h2 h₁ a' ha kk => ?_) fun out h1 h2 => ?_
  · have kp : ∀ b o, s.heap.get? b = some o → o.cls = .type "tuple" → h₁.get? b = some o := fun b o e _ => (kk b o e).2
    intro h' keep
    have S := pairs_sortable (prog := X.prog) (w := X.w) (A := X.A.in1.in1) (s := { s with heap := h₁ }) (a := a') (vs := its) (by show X.A.units + 1 + 1 < cLine; omega) (by omega) (fun v hv => by
      obtain ⟨n, hn, tq, _⟩ := i1 v hv
      exact ⟨n, tq.keeps kp, hne (by omega) n hn⟩) (fun o e => by
        have e' : some o = some (seqObj "list" its.toArray 0) := e.symm.trans ha
        cases e'
        intro c
        exact absurd (Value.type.inj c) (by decide)) h' keep
    obtain ⟨κ, S1, S2⟩ := S
    refine ⟨κ, S1, fun p q hm hm' => ?_⟩
    obtain ⟨n1, _, t1, _⟩ := i1 _ hm
    obtain ⟨n2, _, t2, _⟩ := i1 _ hm'
    have e1 : flatOf h₁ p.1 = flatOf s.heap p.1 := (t1.keeps kp).flat_eq.trans t1.flat_eq.symm
    have e2 : flatOf h₁ q.1 = flatOf s.heap q.1 := (t2.keeps kp).flat_eq.trans t2.flat_eq.symm
    have e4 : SrtO.lt2 (fun v u => HT.lexLt (flatOf h₁ v) (flatOf h₁ u)) p q = SrtO.lt2 (fun v u => HT.lexLt (flatOf s.heap v) (flatOf s.heap u)) p q := by
      show HT.lexLt (flatOf h₁ p.1) (flatOf h₁ q.1) = HT.lexLt (flatOf s.heap p.1) (flatOf s.heap q.1)
      rw [e1, e2]
    rw [← e4]
    exact S2 p q hm hm'
  · have hp := h2.perm
    obtain ⟨ep, he'⟩ := PyProof.Rows.sortedAll_at s.heap its out.toArray
    have hio : ∀ v ∈ out, v ∈ its := fun v hv => hp.mem_iff.mp hv
    obtain ⟨f, hf⟩ : ∃ f : Value → List (Int × Int), ∀ v ∈ its, f v ∈ tss ∧ TupPairs s.heap v (f v) ∧ Den X.K F (backV v) (pairsD (f v)) := by
      classical
      refine ⟨fun v => if h : ∃ ps, ps ∈ tss ∧ TupPairs s.heap v ps ∧ Den X.K F (backV v) (pairsD ps) then h.choose else [], fun v hv => ?_⟩
      obtain ⟨ps, a1, a2, a3, _⟩ := i1 v hv
      have h : ∃ ps, ps ∈ tss ∧ TupPairs s.heap v ps ∧ Den X.K F (backV v) (pairsD ps) := ⟨ps, a1, a2, a3⟩
      simp only [dif_pos h]
      exact h.choose_spec
    have hfl : ∀ v ∈ its, flatOf s.heap v = flat (f v) := fun v hv => (hf v hv).2.1.flat_eq
    have e5 : its.map f = tss := by
      have e6 : (its.map f).map flat = tss.map flat := by
        rw [← i2, List.map_map]
        exact List.map_congr_left fun v hv => (hfl v hv).symm
      have key : ∀ a b : List (List (Int × Int)), a.map flat = b.map flat → a = b := fun a => by
        induction a with
        | nil => intro b hb; cases b with
          | nil => rfl
          | cons _ _ => simp at hb
        | cons x a ih => intro b hb; cases b with
          | nil => simp at hb
          | cons y b =>
            simp only [List.map_cons, List.cons.injEq] at hb
            rw [flat_inj hb.1, ih b hb.2]
      exact key _ _ e6
    have hd := denAll_map (K := X.K) (F := F) (f := backV) (g := fun v => pairsD (f v)) (l := out) fun v hv => (hf v (hio v hv)).2.2
    have hlen2 : (out.map backV).length ≤ sizeLine := by rw [List.length_map, hp.length_eq, hzl]; exact hz
    have hn := I.hok.fresh (Nat.le_succ s.heap.objs.size)
    refine ⟨.ref _, upd H (s.heap.objs.size + 1) (.lst (out.map backV)), I.laid (t' := s.toks) (fun _ _ => PyProof.Rows.sortedAll_old) (Nat.le_succ _) ⟨hlen2, out, ep, vals_back fun v hv => (i1 v (hio v hv)).choose_spec.2.2.2, he'⟩, rfl, ?_⟩
    refine q (out.map f) (by rw [← e5]; exact hp.map _) (List.pairwise_map.mpr (h1.imp_of_mem fun {a b} ha hb h => ?_)) _ _ ?_
    · rw [← hfl a (hio a ha), ← hfl b (hio b hb)]
      exact h
    · rw [List.map_map]
      exact .own hn ⟨_, upd_same, hd⟩
end
end Co

set_option linter.all false
/-! Co6: names stored, names forgotten, temporary lists. -/
namespace Co
open PySem PySem.Spec PyProof.Rows L2

section
variable {K : Frag} {F F' H H' : Hp} {io : List Nat} {g : Gh} {env : Env} {σ : L2.St}
theorem get_set {σ : L2.St} {i j : Nat} {x : Option V} (h : i < σ.length) : (σ.set i x)[j]? = if i = j then some x else σ[j]? := by
  by_cases e : i = j
  · subst e; rw [List.getElem?_set_self h, if_pos rfl]
  · rw [List.getElem?_set_ne e, if_neg e]
theorem slot_set' {env : Env} {i j : Nat} {s : Option Sl} (h : i < env.length) : slot (env.set i s) j = if i = j then s else slot env j := by
  rw [slot_set]
  by_cases e : i = j
  · rw [if_pos ⟨e, h⟩, if_pos e]
  · rw [if_neg (fun z => e z.1), if_neg e]
theorem Rep.io_of {i : Nat} {d : PyData} (R : Rep K io g env σ F H) (h : slot env i = some (.io d)) : i ∈ io := by
  obtain ⟨p, hp, _⟩ := R.ios i d h
  rw [← R.insI]; exact List.mem_map_of_mem hp
theorem Rep.ins_io (R : Rep K io g env σ F H) {q : Nat × Addr} (h : q ∈ g.ins) : q.1 ∈ io := by
  rw [← R.insI]; exact List.mem_map_of_mem h
/-- a name holds a new value, or nothing -/
theorem Rep.store {i : Nat} {s : Option Sl} {x : Option V} (R : Rep K io g env σ F H) (hi : i < env.length) (hio : i ∉ io)
    (h : match s with
      | none => True
      | some (.val d) => ∃ v, x = some v ∧ Den K F v d
      | some (.own d) => ∃ p, x = some (.ref p) ∧ F p = none ∧ OwnAt K F H p d ∧ g.H0 p = none ∧ (∀ t ∈ g.tmps, t.1 ≠ p) ∧ ∀ j d', j ≠ i → slot env j = some (.own d') → σ[j]? ≠ some (some (.ref p))
      | some (.io _) => False) : Rep K io g (env.set i s) (σ.set i x) F H := by
  have hσ : i < σ.length := by rw [← R.len]; exact hi
  refine ⟨R.sub, R.sub0, R.frame, R.nof, by simpa using R.len, fun j d q => ?_, fun j d q => ?_, fun j k d e p q1 q2 q3 q4 => ?_, fun j d q => ?_, fun q hq => ?_, R.insI, R.insN, R.tmp, R.tmpN⟩
  · rw [slot_set' hi] at q
    rw [get_set hσ]
    by_cases e : i = j
    · rw [if_pos e] at q; subst q
      obtain ⟨v, rfl, dn⟩ := h
      exact ⟨v, by rw [if_pos e], dn⟩
    · rw [if_neg e] at q ⊢
      exact R.vals j d q
  · rw [slot_set' hi] at q
    rw [get_set hσ]
    by_cases e : i = j
    · rw [if_pos e] at q; subst q
      obtain ⟨p, rfl, a, b, c, dd, _⟩ := h
      exact ⟨p, by rw [if_pos e], a, b, c, dd⟩
    · rw [if_neg e] at q ⊢
      exact R.owns j d q
  · rw [slot_set' hi] at q1 q2
    rw [get_set hσ] at q3 q4
    by_cases e1 : i = j
    · by_cases e2 : i = k
      · exact e1.symm.trans e2
      · rw [if_pos e1] at q1 q3; rw [if_neg e2] at q2 q4
        subst q1
        obtain ⟨p', rfl, a, b, c, dd, f⟩ := h
        cases q3
        exact absurd q4 (f k _ (fun z => e2 z.symm) q2)
    · by_cases e2 : i = k
      · rw [if_neg e1] at q1 q3; rw [if_pos e2] at q2 q4
        subst q2
        obtain ⟨p', rfl, a, b, c, dd, f⟩ := h
        cases q4
        exact absurd q3 (f j _ (fun z => e1 z.symm) q1)
      · rw [if_neg e1] at q1 q3; rw [if_neg e2] at q2 q4
        exact R.sep j k _ _ p q1 q2 q3 q4
  · rw [slot_set' hi] at q
    by_cases e : i = j
    · rw [if_pos e] at q; subst q
      exact h.elim
    · rw [if_neg e] at q
      exact R.ios j d q
  · obtain ⟨a, ⟨d, b⟩, c⟩ := R.ins q hq
    have ne : i ≠ q.1 := fun z => hio (z ▸ R.ins_io hq)
    refine ⟨by rw [get_set hσ, if_neg ne]; exact a, ⟨d, ?_⟩, c⟩
    rw [slot_set' hi, if_neg ne]; exact b
theorem Rep.storeVal {i : Nat} {d : PyData} {v : V} (R : Rep K io g env σ F H) (hi : i < env.length) (hio : i ∉ io) (h : Den K F v d) : Rep K io g (env.set i (some (.val d))) (σ.set i (some v)) F H :=
  R.store hi hio ⟨v, rfl, h⟩
/-- what a name is to hold, as the heap has it -/
def SDen (K : Frag) (g : Gh) (F H : Hp) (σ : L2.St) (env : Env) (v : V) (s : Sl) : Prop := RDen K g F H σ env v s.r
theorem Rep.storeSl {i : Nat} {s : Sl} {v : V} (R : Rep K io g env σ F H) (hi : i < env.length) (hio : i ∉ io) (h : SDen K g F H σ env v s) (ni : ∀ d, s ≠ .io d) : Rep K io g (env.set i (some s)) (σ.set i (some v)) F H := by
  cases s with
  | val d => exact R.storeVal hi hio h
  | own d =>
    obtain ⟨p, rfl, a, b, c, e, f⟩ := h
    exact R.store hi hio ⟨p, rfl, a, b, c, e, fun j d' _ q => f j d' q⟩
  | io d => exact absurd rfl (ni d)
/-- asS -/
theorem asS_ok {v : V} {r : R} {P : Sl → Env → Prop} (R : Rep K io g env σ F H) (h : RDen K g F H σ env v r) (e : asS r env P) :
    ∃ s env', Rep K io g env' σ F H ∧ SDen K g F H σ env' v s ∧ (∀ d, s ≠ .io d) ∧ env'.length = env.length ∧ P s env' := by
  cases r with
  | val d => exact ⟨.val d, env, R, h, (fun _ z => nomatch z), rfl, e⟩
  | own d => exact ⟨.own d, env, R, h, (fun _ z => nomatch z), rfl, e⟩
  | pl i =>
    have hs : σ[i]? = some (some v) := h.1
    unfold asS at e
    simp only at e
    cases q : slot env i with
    | none => rw [q] at e; exact e.elim
    | some s =>
      rw [q] at e
      cases s with
      | val d =>
        obtain ⟨v', a, c⟩ := R.vals i _ q
        rw [hs] at a; cases a
        exact ⟨.val d, env, R, c, (fun _ z => nomatch z), rfl, e⟩
      | own d =>
        have hi := slot_lt q
        obtain ⟨p, a, b, c, dd, ee⟩ := R.owns i _ q
        rw [hs] at a; cases a
        have hio : i ∉ io := fun z => by
          rw [← R.insI] at z
          obtain ⟨w, hw, rfl⟩ := List.mem_map.mp z
          obtain ⟨_, ⟨d', hd⟩, _⟩ := R.ins w hw
          rw [q] at hd; cases hd
        refine ⟨.own d, env.set i none, ?_, ⟨p, rfl, b, c, dd, ee, fun j d' hj z => ?_⟩, (fun _ z => nomatch z), by simp, e⟩
        · have := R.store (s := none) (x := σ[i]?.join) hi hio trivial
          have e2 : σ.set i σ[i]?.join = σ := by
            apply List.ext_getElem?
            intro j
            rw [get_set (by rw [← R.len]; exact hi)]
            by_cases ej : i = j
            · subst ej; rw [if_pos rfl, hs]; rfl
            · rw [if_neg ej]
          rw [e2] at this
          exact this
        · rw [slot_set' hi] at hj
          by_cases ej : i = j
          · rw [if_pos ej] at hj; cases hj
          · rw [if_neg ej] at hj
            exact ej (R.sep i j _ _ p q hj hs z)
      | io d => exact e.elim
theorem asVs_ok : ∀ {rs : List R} {vs : List V} {env : Env} {F : Hp} {P : List PyData → Env → Prop}, Rep K io g env σ F H → Paired (StDen K F σ) vs rs → asVs rs env P →
    ∃ ds env' F', Same F F' ∧ Rep K io g env' σ F' H ∧ DenAll K F' vs ds ∧ P ds env'
  | [], vs, env, F, P, R, h, e => by
    cases h
    exact ⟨[], env, F, Same.refl F, R, .nil, e⟩
  | r :: rs, vs, env, F, P, R, h, e => by
    cases h with
    | cons h t =>
      obtain ⟨d, env1, F1, m1, R1, dn, e⟩ := asV_ok R h e
      obtain ⟨ds, env2, F2, m2, R2, dns, e⟩ := asVs_ok R1 (Paired.mapP t fun _ _ z => StDen.mono z m1) e
      exact ⟨d :: ds, env2, F2, m1.trans m2, R2, .cons (dn.mono m2) dns, e⟩

/-! ### a block's own names -/
theorem wipeE_length (env : Env) : ∀ vs : List Nat, (wipeE env vs).length = env.length
  | [] => rfl
  | v :: vs => by unfold wipeE; rw [List.length_set, wipeE_length env vs]
theorem slot_wipe {env : Env} {j : Nat} : ∀ vs : List Nat, slot (wipeE env vs) j = if j ∈ vs then none else slot env j
  | [] => by simp [wipeE]
  | v :: vs => by
    unfold wipeE
    rw [slot_set, slot_wipe vs, wipeE_length]
    by_cases e : v = j
    · subst e
      by_cases l : v < env.length
      · simp [l]
      · have : slot env v = none := by
          unfold slot; rw [List.getElem?_eq_none (by omega)]; rfl
        simp [l, this]
    · simp only [e, false_and, if_false, List.mem_cons, show (j = v) = False from eq_false fun z => e z.symm, false_or]
theorem Rep.wipe (R : Rep K io g env σ F H) {vs : List Nat} (hio : ∀ i ∈ vs, i ∉ io) : Rep K io g (wipeE env vs) (L2.wipe σ vs) F H := by
  have out : ∀ {i : Nat} {s : Sl}, slot (wipeE env vs) i = some s → slot env i = some s ∧ i ∉ vs := fun {i s} q => by
    rw [slot_wipe] at q
    by_cases e : i ∈ vs
    · rw [if_pos e] at q; cases q
    · rw [if_neg e] at q; exact ⟨q, e⟩
  refine ⟨R.sub, R.sub0, R.frame, R.nof, by rw [wipeE_length, wipe_length]; exact R.len, fun j d q => ?_, fun j d q => ?_, fun j k d e p q1 q2 q3 q4 => ?_, fun j d q => R.ios j d (out q).1, fun q hq => ?_, R.insI, R.insN, R.tmp, R.tmpN⟩
  · rw [wipe_out (out q).2]; exact R.vals j d (out q).1
  · rw [wipe_out (out q).2]; exact R.owns j d (out q).1
  · rw [wipe_out (out q1).2] at q3; rw [wipe_out (out q2).2] at q4
    exact R.sep j k d e p (out q1).1 (out q2).1 q3 q4
  · obtain ⟨a, ⟨d, b⟩, c⟩ := R.ins q hq
    have ne : q.1 ∉ vs := fun z => hio _ z (R.ins_io hq)
    exact ⟨by rw [wipe_out ne]; exact a, ⟨d, by rw [slot_wipe, if_neg ne]; exact b⟩, c⟩
theorem unwipe_length (env0 env1 : Env) : ∀ vs : List Nat, (unwipe env0 env1 vs).length = env1.length
  | [] => rfl
  | v :: vs => by unfold unwipe; rw [List.length_set, unwipe_length env0 env1 vs]
theorem slot_unwipe {env0 env1 : Env} {j : Nat} {s : Sl} : ∀ {vs : List Nat}, slot (unwipe env0 env1 vs) j = some s → (j ∈ vs ∧ slot env0 j = some s ∧ ∃ d, s = .val d) ∨ (j ∉ vs ∧ slot env1 j = some s)
  | [], h => .inr ⟨by simp, h⟩
  | v :: vs, h => by
    unfold unwipe at h
    rw [slot_set] at h
    by_cases e : v = j ∧ v < (unwipe env0 env1 vs).length
    · rw [if_pos e] at h
      obtain ⟨rfl, _⟩ := e
      cases q : slot env0 v with
      | none => rw [q] at h; cases h
      | some z =>
        rw [q] at h
        cases z <;> cases h
        exact .inl ⟨by simp, rfl, _, rfl⟩
    · rw [if_neg e] at h
      rcases slot_unwipe h with ⟨a, b, c⟩ | ⟨a, b⟩
      · exact .inl ⟨List.mem_cons_of_mem _ a, b, c⟩
      · by_cases ej : v = j
        · subst ej
          have hl : ¬ v < (unwipe env0 env1 vs).length := fun z => e ⟨rfl, z⟩
          rw [unwipe_length] at hl
          exact absurd (slot_lt b) hl
        · refine .inr ⟨?_, b⟩
          simp only [List.mem_cons, not_or]
          exact ⟨fun z => ej z.symm, a⟩
theorem slot_unwipe_out {env0 env1 : Env} {j : Nat} : ∀ {vs : List Nat}, j ∉ vs → slot (unwipe env0 env1 vs) j = slot env1 j
  | [], h => rfl
  | v :: vs, h => by
    simp only [List.mem_cons, not_or] at h
    unfold unwipe
    rw [slot_set, if_neg (fun z => h.1 z.1.symm)]
    exact slot_unwipe_out h.2
theorem Rep.unwipe {env1 : Env} {vs : List Nat} (R0 : Rep K io g env σ F H) (hio : ∀ i ∈ vs, i ∉ io) (m : Same F F') (R : Rep K io g env1 (L2.wipe σ vs) F' H') : Rep K io g (unwipe env env1 vs) σ F' H' := by
  refine ⟨R.sub, R.sub0, R.frame, R.nof, ?_, fun j d q => ?_, fun j d q => ?_, fun j k d e p q1 q2 q3 q4 => ?_, fun j d q => ?_, fun q hq => ?_, R.insI, R.insN, R.tmp, R.tmpN⟩
  · rw [unwipe_length, R.len, wipe_length]
  · rcases slot_unwipe q with ⟨a, b, c⟩ | ⟨a, b⟩
    · obtain ⟨v, x, y⟩ := R0.vals j d b; exact ⟨v, x, y.mono m⟩
    · obtain ⟨v, x, y⟩ := R.vals j d b
      rw [wipe_out a] at x; exact ⟨v, x, y⟩
  · rcases slot_unwipe q with ⟨a, b, _, c⟩ | ⟨a, b⟩
    · cases c
    · obtain ⟨v, x, y⟩ := R.owns j d b
      rw [wipe_out a] at x; exact ⟨v, x, y⟩
  · rcases slot_unwipe q1 with ⟨a, b, _, c⟩ | ⟨a, b⟩
    · cases c
    · rcases slot_unwipe q2 with ⟨a2, b2, _, c2⟩ | ⟨a2, b2⟩
      · cases c2
      · exact R.sep j k d e p b b2 (by rw [wipe_out a]; exact q3) (by rw [wipe_out a2]; exact q4)
  · rcases slot_unwipe q with ⟨a, b, _, c⟩ | ⟨a, b⟩
    · cases c
    · exact R.ios j d b
  · have ne : q.1 ∉ vs := fun z => hio _ z (R0.ins_io hq)
    obtain ⟨a, ⟨d, b⟩, c⟩ := R.ins q hq
    exact ⟨by rw [wipe_out ne] at a; exact a, ⟨d, by rw [slot_unwipe_out ne]; exact b⟩, c⟩

/-! ### temporary lists -/
def Gh.tmp (g : Gh) (p : Addr) (d : PyData) : Gh := { g with tmps := (p, d) :: g.tmps }
theorem Rep.push {p : Addr} {d : PyData} (R : Rep K io g env σ F H) (h : RDen K g F H σ env (.ref p) (.own d)) : Rep K io (g.tmp p d) env σ F H := by
  obtain ⟨p', e, n, o, z, t, s⟩ := h
  cases e
  refine ⟨R.sub, R.sub0, R.frame, R.nof, R.len, R.vals, fun i d' q => ?_, R.sep, R.ios, R.ins, R.insI, R.insN, fun t' ht => ?_, ?_⟩
  · obtain ⟨p', a, b, c, e, f⟩ := R.owns i d' q
    refine ⟨p', a, b, c, e, fun t' ht => ?_⟩
    rcases List.mem_cons.mp ht with rfl | ht
    · exact fun z => s i d' q (by rw [show p = p' from z]; exact a)
    · exact f t' ht
  · rcases List.mem_cons.mp ht with rfl | ht
    · exact ⟨n, o, z⟩
    · exact R.tmp t' ht
  · show ((p, d) :: g.tmps).map (·.1) |>.Nodup
    rw [List.map_cons, List.nodup_cons]
    exact ⟨fun z => by
      obtain ⟨w, hw, e⟩ := List.mem_map.mp z
      exact t w hw e, R.tmpN⟩
theorem Rep.pop {p : Addr} {d : PyData} (R : Rep K io (g.tmp p d) env σ F H) : Rep K io g env σ F H ∧ RDen K g F H σ env (.ref p) (.own d) := by
  have hn : ((p, d) :: g.tmps).map (·.1) |>.Nodup := R.tmpN
  rw [List.map_cons, List.nodup_cons] at hn
  obtain ⟨a, b, c⟩ := R.tmp (p, d) List.mem_cons_self
  refine ⟨⟨R.sub, R.sub0, R.frame, R.nof, R.len, R.vals, fun i d' q => ?_, R.sep, R.ios, R.ins, R.insI, R.insN, fun t ht => R.tmp t (List.mem_cons_of_mem _ ht), hn.2⟩, p, rfl, a, b, c, fun t ht z => hn.1 (List.mem_map.mpr ⟨t, ht, z⟩), fun i d' q z => ?_⟩
  · obtain ⟨p', a, b, c, e, f⟩ := R.owns i d' q
    exact ⟨p', a, b, c, e, fun t ht => f t (List.mem_cons_of_mem _ ht)⟩
  · obtain ⟨p', a, b, c, e, f⟩ := R.owns i d' q
    rw [z] at a; cases a
    exact f _ List.mem_cons_self rfl
/-- a list or dict of one's own has changed -/
theorem Rep.change {p : Addr} {o : HO} (R : Rep K io g env σ F H) (hF : F p = none) (h0 : g.H0 p = none ∨ ∃ q ∈ g.ins, q.2 = p) {env' : Env} (hl : env'.length = env.length)
    (hv : ∀ i d, slot env' i = some (.val d) → slot env i = some (.val d))
    (ho : ∀ i d, slot env' i = some (.own d) → (slot env i = some (.own d) ∧ σ[i]? ≠ some (some (.ref p))) ∨ ((∃ d', slot env i = some (.own d')) ∧ σ[i]? = some (some (.ref p)) ∧ OwnAt K F (upd H p o) p d))
    (hi : ∀ i d, slot env' i = some (.io d) → (slot env i = some (.io d) ∧ (i, p) ∉ g.ins) ∨ ((i, p) ∈ g.ins ∧ OwnAt K F (upd H p o) p d))
    (hk : ∀ i, i ∈ io → ∃ d, slot env' i = some (.io d)) (ht : ∀ t ∈ g.tmps, t.1 ≠ p) : Rep K io g env' σ F (upd H p o) := by
  have keep : ∀ {b : Addr} {d : PyData}, b ≠ p → OwnAt K F H b d → OwnAt K F (upd H p o) b d := fun {b d} n x => x.mono (Same.refl F) (upd_ne n)
  refine ⟨fun b x q => ?_, R.sub0, fun b x q i => ?_, R.nof, hl.trans R.len, fun i d q => R.vals i d (hv i d q), fun i d q => ?_, fun j k d e p' q1 q2 q3 q4 => ?_, fun i d q => ?_, fun q hq => ?_, R.insI, R.insN, fun t h => ?_, R.tmpN⟩
  · rw [upd_ne (ne_of_none q hF)]; exact R.sub _ _ q
  · have n : b ≠ p := fun z => by
      rcases h0 with h0 | ⟨w, hw, e⟩
      · rw [z, h0] at q; cases q
      · exact i w hw (e.trans z.symm)
    rw [upd_ne n]; exact R.frame b x q i
  · rcases ho i d q with ⟨a, b⟩ | ⟨⟨d', a⟩, b, c⟩
    · obtain ⟨p', x, y, z, w, u⟩ := R.owns i d a
      exact ⟨p', x, y, keep (fun e => b (e ▸ x)) z, w, u⟩
    · obtain ⟨p', x, y, z, w, u⟩ := R.owns i d' a
      rw [b] at x; cases x
      exact ⟨p, b, y, c, w, u⟩
  · have r1 : ∃ d, slot env j = some (.own d) := (ho j d q1).elim (fun z => ⟨_, z.1⟩) fun z => z.1
    have r2 : ∃ d, slot env k = some (.own d) := (ho k e q2).elim (fun z => ⟨_, z.1⟩) fun z => z.1
    obtain ⟨_, r1⟩ := r1
    obtain ⟨_, r2⟩ := r2
    exact R.sep j k _ _ p' r1 r2 q3 q4
  · rcases hi i d q with ⟨a, b⟩ | ⟨a, b⟩
    · obtain ⟨p', x, y, z⟩ := R.ios i d a
      exact ⟨p', x, y, keep (fun e => b (e ▸ x)) z⟩
    · exact ⟨p, a, hF, b⟩
  · obtain ⟨a, b, c⟩ := R.ins q hq
    exact ⟨a, hk _ (R.ins_io hq), c⟩
  · obtain ⟨a, b, c⟩ := R.tmp t h
    exact ⟨a, keep (ht t h) b, c⟩
end
end Co

set_option linter.all false
/-! Co7: defs called. -/
namespace Co
open PySem PySem.Spec PyProof.Rows L2

/-- a def keeps its promise wherever no guard stands around -/
structure FnG (P : Program) (w : World) (K : Frag) (mg : Str → Option Value) (base : Heap) (k : Nat) (f : Addr) (fd : FuncData) (ps : List Str) (sp : Sp) : Prop where
  len : ∀ vs H Q E, sp vs H Q E → vs.length = ps.length
  run : ∀ (A : Around) (outer : List PySem.Env) (s : Shared) (H : Hp) (args : Args) (us : List Value) (vs : List V) (Q : VK), Room k A → A.guards = some [] → Env0 P w K mg base A outer s H → BindsTo s fd args (ps.zip us) → Vals vs us → sp vs H Q E0 →
    codeAny (model P w) A (.call (.ref f) args) (CR CX0 outer P w H s Q E0) s
theorem FnG.mono {P : Program} {w : World} {K : Frag} {mg : Str → Option Value} {base : Heap} {j k : Nat} {f : Addr} {fd : FuncData} {ps : List Str} {sp : Sp} (G : FnG P w K mg base j f fd ps sp) (h : j ≤ k) : FnG P w K mg base k f fd ps sp :=
  ⟨G.len, fun A outer s H args us vs Q hr => G.run A outer s H args us vs Q (hr.mono h)⟩
theorem FnG.imp {P : Program} {w : World} {K : Frag} {mg : Str → Option Value} {base : Heap} {k : Nat} {f : Addr} {fd : FuncData} {ps : List Str} {sp sp' : Sp} (G : FnG P w K mg base k f fd ps sp) (h : ∀ vs H Q E, sp' vs H Q E → sp vs H Q E) : FnG P w K mg base k f fd ps sp' :=
  ⟨fun vs H Q E q => G.len vs H Q E (h _ _ _ _ q), fun A outer s H args us vs Q hr hg he hb hv hs => G.run A outer s H args us vs Q hr hg he hb hv (h _ _ _ _ hs)⟩

section
variable {X : Cx} {k : Nat} {f : Addr} {fd : FuncData} {ps : List Str} {sp : Sp} {x : Str} {p pos : Pos} {e : Expr} {es : List Expr} {t : TA}
theorem run_g {pins : List (Addr × Obj)} {σ : L2.St} {H : Hp} {s : Shared} {Q : VK} {us : List Value} {vs : List V} (G : FnG X.prog X.w X.K X.mg X.base k f fd ps sp) (hr : Room k X.A) (hg : X.A.guards = some []) (hb : Binds X.K fd ps [])
    (I : Inv X pins σ H s) (r : Vals vs us) (h : sp vs H Q E0) : wpAny (model X.prog X.w) X.A (call (.ref f) us) (EP X pins σ Q) X.xe s := by
  have hl : us.length = ps.length := r.length.symm.trans (G.len _ _ _ _ h)
  have hbb := hb s us I.kIn (by simpa using hl)
  rw [List.append_nil] at hbb
  refine wpAny_call (codeAny_mono (G.run X.A X.stack s H ⟨us, []⟩ us vs Q hr hg I.env0 hbb r h) fun res s' hq => ?_)
  match res, hq with
  | .error _, hq => exact False.elim hq
  | .ok (.ret _), hq => exact I.after hq
  | .ok .next, hq => exact False.elim hq
  | .ok .brk, hq => exact False.elim hq
  | .ok .cont, hq => exact False.elim hq
def tCallG (sp : Sp) (t : TA) : TE := fun σ H Q => t σ H fun vs H1 => sp vs H1 Q E0
theorem pe_callG (G : FnG X.prog X.w X.K X.mg X.base k f fd ps sp) (hr : Room k X.A) (hgd : X.A.guards = some []) (hg : Gl X x) (hm : X.mg x = some (.ref f)) (hk : PySem.W.keepIn X.K (.ref f) = true) (hb : Binds X.K fd ps [])
    (ha : PA X (e :: es) t) (hdb : (x == ("__debug__" : Str)) = false) (he : starEach (e :: es) X.env = (false, eval e X.env) :: starEach es X.env) (hpl : (backTo pos (starEach es X.env)).any (·.1) = false) :
    PE X (.Call (.Name x p) (e :: es) [] pos) (tCallG sp t) := ⟨fun pins s σ H Q I h =>
  wpAny_Call_Name_kw (ld_glob I hg hm (PySem.W.callWith_K (h₀ := X.base) I.ok.mod.kin hk (thn (ha.run pos pins s σ H _ I h) fun us s1 ⟨vs, H1, I1, r, q⟩ => ⟨I1.kIn, run_g G hr hgd hb I1 r q⟩) he hpl) hdb)⟩
end

/-- a def of the text, from its body -/
theorem fn_g {P : Program} {w : World} {K : Frag} {mg : Str → Option Value} {base : Heap} {k : Nat} {f : Addr} {x qual : Str} {st : Stmt} {fd : FuncData} {N ps : List Str} {sp : Sp} (D : Fun K x qual st f fd) (S : FnScope N ps (defScope st)) (len : ∀ vs H Q E, sp vs H Q E → vs.length = ps.length)
    (hbody : ∀ (cdv : Value) (A : Around) (outer : List PySem.Env) (s : Shared) (H : Hp) (vs : List V) (Q : VK), Room k (A.deeper (envOfC qual (defScope st) s.heap.objs.size f cdv)) → A.guards = some [] → sp vs H Q E0 →
      ∃ t, PSs (cxOf CX0 P w K mg base N qual (defScope st) f cdv A outer s H E0).nox (defBody st) t ∧ t { nx := fun _ H' => Q .non H', rt := Q } (start N vs) H) : FnG P w K mg base (k + 1) f fd ps sp := by
  obtain ⟨oc, od, kV, doc, pm, an, cdv, ct, osl, rfl, lk, hcd⟩ := D.ex
  refine ⟨len, fun A outer s H args us vs Q hr hg e0 hb r hsp => ?_⟩
  have KX : K.In s.heap := e0.mod.kin.keeps fun b o e => (e0.bs b o e).1
  have lim : s.heap.NoLimit := e0.mod.nolimit.keeps fun b o e => (e0.bs b o e).1
  have kinds : ∀ y ∈ ps.zip us, (defScope st).names.lookup y.1 = some .local ∨ ((defScope st).names.lookup y.1 = some .cell ∧ ((cellsFrom (s.heap.objs.size + 1) (defScope st).names []).lookup y.1).isSome = true) := fun y hy => by
    obtain ⟨n, v⟩ := y
    exact (S.par n (List.of_mem_zip hy).1).imp id fun q => ⟨q, PySem.W.cellsFrom_some _ _ _ (.inl q)⟩
  refine codeAny_call_function hr.depth (KX _ _ lk) rfl S.co S.gen rfl (PySem.W.codeRec_of KX hcd) (hb _ _ _ _ (wpAny_newFunctionEnv_cells S.kind kinds fun env he s1 x => ?_))
  subst he
  obtain ⟨t, ht, hq⟩ := hbody cdv A outer s H vs Q (hr.deeper _) hg hsp
  have I := inv_start (CX := CX0) (E := E0) S hr.hd e0 (len _ _ _ _ hsp) r x
  refine ⟨lim.keeps x.toInCall.keep, codeAny_func (wpAny_mono (ht.nox.run [] s1 (start N vs) H _ I hq) (fun fl s' hs => ?_) fun e s' hs => hs)⟩
  match fl, hs with
  | .ret u, ⟨v, σ', H', J, rv, q⟩ => exact ⟨v, H', J.os, J.bare, J.base, J.hok, rv, q⟩
  | .next, ⟨σ', H', J, q⟩ => exact ⟨.non, H', J.os, J.bare, J.base, J.hok, rfl, q⟩
  | .brk, ⟨_, _, _, q⟩ => exact False.elim q
  | .cont, ⟨_, _, _, q⟩ => exact False.elim q

/-! ### the promise that a spec makes -/
def argsD (K : Frag) (F H : Hp) : List Bool → List V → List PyData → Prop
  | [], [], [] => True
  | true :: sg, v :: vs, d :: ds => (∃ p, v = .ref p ∧ F p = none ∧ OwnAt K F H p d) ∧ argsD K F H sg vs ds
  | false :: sg, v :: vs, d :: ds => Den K F v d ∧ argsD K F H sg vs ds
  | _, _, _ => False
def inAddr : List Bool → List V → List Addr
  | true :: sg, .ref p :: vs => p :: inAddr sg vs
  | _ :: sg, _ :: vs => inAddr sg vs
  | _, _ => []
def newsD (K : Frag) (F H : Hp) : List Addr → List PyData → Prop
  | [], [] => True
  | p :: ps, d :: ds => (F p = none ∧ OwnAt K F H p d) ∧ newsD K F H ps ds
  | _, _ => False
def resD (K : Frag) (F H0 H : Hp) (v : V) : Sl → Prop
  | .val d => Den K F v d
  | .own d => ∃ p, v = .ref p ∧ F p = none ∧ OwnAt K F H p d ∧ H0 p = none
  | .io _ => False
def spOf (K : Frag) (sig : List Bool) (S : Spec) : Sp := fun vs H Q _ => vs.length = sig.length ∧ ∃ F ds, Same F H ∧ argsD K F H sig vs ds ∧ (inAddr sig vs).Nodup ∧ ∃ Qs, S ds Qs ∧ ∀ res news, Qs res news → ∀ v H' F', Same F F' → Same F' H' →
  (∀ b o, H b = some o → b ∉ inAddr sig vs → H' b = some o) → (∀ b o, H b = some o → F b = none → F' b = none) → newsD K F' H' (inAddr sig vs) news → resD K F' H H' v res → Q v H'
theorem newsD.length {K : Frag} {F H : Hp} : ∀ {ps : List Addr} {ds : List PyData}, newsD K F H ps ds → ps.length = ds.length
  | [], [], _ => rfl
  | p :: ps, d :: ds, h => by simp [newsD.length h.2]

/-! ### a call, from the caller's side -/
section
variable {K : Frag} {F F' H H' : Hp} {io : List Nat} {g : Gh} {env : Env} {σ : L2.St}
theorem slC_some {s : Option Sl} {d : PyData} (h : slC s = some d) : s = some (.own d) ∨ s = some (.io d) := by
  unfold slC at h
  split at h <;> cases h
  · exact .inl rfl
  · exact .inr rfl
/-- an own or lent list of a name -/
theorem Rep.mine (R : Rep K io g env σ F H) {i : Nat} {d : PyData} (h : slC (slot env i) = some d) : ∃ p, σ[i]? = some (some (.ref p)) ∧ F p = none ∧ OwnAt K F H p d ∧ (∀ t ∈ g.tmps, t.1 ≠ p) ∧ (g.H0 p = none ∨ ∃ q ∈ g.ins, q.2 = p) := by
  rcases slC_some h with h | h
  · obtain ⟨p, a, b, c, dd, e⟩ := R.owns i d h
    exact ⟨p, a, b, c, e, .inl dd⟩
  · obtain ⟨p, a, b, c⟩ := R.ios i d h
    refine ⟨p, (R.ins _ a).1, b, c, fun t ht z => ?_, .inr ⟨_, a, rfl⟩⟩
    obtain ⟨_, _, z2⟩ := R.tmp t ht
    obtain ⟨_, _, o, ho⟩ := R.ins _ a
    rw [z] at z2
    rw [show g.H0 p = some o from ho] at z2; cases z2
theorem Rep.apart (R : Rep K io g env σ F H) {i j : Nat} {d e : PyData} {p : Addr} (h1 : slC (slot env i) = some d) (h2 : slC (slot env j) = some e) (h3 : σ[i]? = some (some (.ref p))) (h4 : σ[j]? = some (some (.ref p))) : i = j := by
  rcases slC_some h1 with h1 | h1 <;> rcases slC_some h2 with h2 | h2
  · exact R.sep i j _ _ p h1 h2 h3 h4
  · obtain ⟨q, a, _⟩ := R.ios j e h2
    obtain ⟨b, _, o, ho⟩ := R.ins _ a
    rw [h4] at b; cases b
    obtain ⟨p', x, _, _, z, _⟩ := R.owns i d h1
    rw [h3] at x; cases x
    rw [show g.H0 _ = some o from ho] at z; cases z
  · obtain ⟨q, a, _⟩ := R.ios i d h1
    obtain ⟨b, _, o, ho⟩ := R.ins _ a
    rw [h3] at b; cases b
    obtain ⟨p', x, _, _, z, _⟩ := R.owns j e h2
    rw [h4] at x; cases x
    rw [show g.H0 _ = some o from ho] at z; cases z
  · obtain ⟨q1, a1, _⟩ := R.ios i d h1
    obtain ⟨q2, a2, _⟩ := R.ios j e h2
    have b1 := (R.ins _ a1).1
    have b2 := (R.ins _ a2).1
    have eq1 : q1 = p := by injection Option.some.inj (Option.some.inj (b1.symm.trans h3))
    have eq2 : q2 = p := by injection Option.some.inj (Option.some.inj (b2.symm.trans h4))
    -- two entries with one address are one
    obtain ⟨m, hm, e1⟩ := List.getElem_of_mem a1
    obtain ⟨n, hn, e2⟩ := List.getElem_of_mem a2
    have f1 : (g.ins.map (·.2))[m]? = some p := by rw [List.getElem?_map, List.getElem?_eq_getElem hm, e1, ← eq1]; rfl
    have f2 : (g.ins.map (·.2))[n]? = some p := by rw [List.getElem?_map, List.getElem?_eq_getElem hn, e2, ← eq2]; rfl
    have : m = n := (List.getElem?_inj (by simpa using hm) R.insN).mp (f1.trans f2.symm)
    subst this
    rw [e1] at e2
    exact congrArg Prod.fst e2
mutual
theorem Den.noRef {L : Addr → Prop} [DecidablePred L] (hL : ∀ b, L b → ∃ o, F b = some o ∧ Mut (some o)) : ∀ {v : V} {d : PyData}, Den K F v d → noRef d = true → Den K (fun b => if L b then none else F b) v d
  | _, _, .non, _ => .non
  | _, _, .bl b, _ => .bl b
  | _, _, .int i, _ => .int i
  | _, _, .str x, _ => .str x
  | _, _, .lst h t, q => by simp [Co.noRef] at q
  | _, _, .tup (a := a) h t, q => by
    refine .tup ?_ (DenAll.noRef hL t (by simpa [Co.noRef] using q))
    rcases h with (h | ⟨o, h⟩) | h
    · refine .inl (.inl ?_)
      show (if L a then none else F a) = _
      rw [if_neg]
      · exact h
      · intro z
        obtain ⟨o, e, m⟩ := hL a z
        rw [h] at e; cases e; exact m
    · refine .inl (.inr ⟨o, ?_⟩)
      show (if L a then none else F a) = _
      rw [if_neg]
      · exact h
      · intro z
        obtain ⟨o, e, m⟩ := hL a z
        rw [h] at e; cases e; exact m
    · exact .inr h
  | _, _, .dct h t e, q => by simp [Co.noRef] at q
theorem DenAll.noRef {L : Addr → Prop} [DecidablePred L] (hL : ∀ b, L b → ∃ o, F b = some o ∧ Mut (some o)) : ∀ {v : List V} {d : List PyData}, DenAll K F v d → noRefs d = true → DenAll K (fun b => if L b then none else F b) v d
  | _, _, .nil, _ => .nil
  | _, _, .cons h t, q => by
    simp only [noRefs, Bool.and_eq_true] at q
    exact .cons (Den.noRef hL h q.1) (DenAll.noRef hL t q.2)
end
theorem OwnAt.noRef {L : Addr → Prop} [DecidablePred L] (hL : ∀ b, L b → ∃ o, F b = some o ∧ Mut (some o)) {p : Addr} {d : PyData} (h : OwnAt K F H p d) (q : noRefR (.own d) = true) : OwnAt K (fun b => if L b then none else F b) H p d := by
  cases d <;> first | exact h.elim | skip
  · obtain ⟨vs, a, b⟩ := h
    exact ⟨vs, a, b.noRef hL q⟩
  · obtain ⟨kv, ds, a, b, rfl⟩ := h
    refine ⟨kv, ds, a, b.noRef hL ?_, rfl⟩
    have q' : ((dctOf kv ds).all fun p => Co.noRef p.1 && Co.noRef p.2) = true := q
    have hl := b.length
    rw [List.length_map] at hl
    clear a b q
    induction kv generalizing ds with
    | nil =>
      cases ds with
      | nil => rfl
      | cons a b => cases hl
    | cons x kv ih =>
      cases ds with
      | nil => cases hl
      | cons d ds =>
        simp only [dctOf, List.map_cons, List.zip_cons_cons, List.all_cons, Bool.and_eq_true] at q'
        simp only [noRefs, Bool.and_eq_true]
        exact ⟨q'.1.2, ih ds q'.2 (by simpa using hl)⟩
end

section
variable {K : Frag} {F H : Hp} {io : List Nat} {g : Gh} {env : Env} {σ : L2.St}
open Classical in
/-- F, with the lists of some names shared for the time of a call -/
noncomputable def lend (F H : Hp) (L : Addr → Prop) : Hp := fun b => if L b then H b else F b
/-- the addresses of the lists that are lent -/
def lentAt (env : Env) (σ : L2.St) (is : List Nat) : Addr → Prop := fun b => ∃ i ∈ is, (slC (slot env i)).isSome = true ∧ σ[i]? = some (some (.ref b))
theorem peeks_cons {r : R} {rs : List R} {ds : List PyData} (h : peeks (r :: rs) env = some ds) : ∃ d ds', peek r env = some d ∧ peeks rs env = some ds' ∧ ds = d :: ds' := by
  unfold peeks at h
  split at h
  · cases h
    exact ⟨_, _, by assumption, by assumption, rfl⟩
  · cases h
theorem same_lend {L : Addr → Prop} (n : ∀ b, L b → F b = none) : Same F (lend F H L) := fun b o e => by
  unfold lend
  rw [if_neg]
  · exact e
  · intro z; rw [n b z] at e; cases e
theorem lend_same {L : Addr → Prop} (m : Same F H) : Same (lend F H L) H := fun b o e => by
  unfold lend at e
  split at e
  · exact e
  · exact m _ _ e
/-- the arguments of a call -/
theorem args_ok (Rp : Rep K io g env σ F H) (L : Addr → Prop) (hL : ∀ b, L b → F b = none) : ∀ {sig : List Bool} {rs : List R} {vs : List V} {ds : List PyData}, Paired (StDen K F σ) vs rs → peeks rs env = some ds → sigOk sig rs = true →
    (∀ r ∈ rs, r.still = r) → (inouts sig rs).all (isOwn env) = true → (∀ i ∈ lents sig rs, ∀ b, (slC (slot env i)).isSome = true → σ[i]? = some (some (.ref b)) → L b) → (∀ i ∈ inouts sig rs, ∀ b, σ[i]? = some (some (.ref b)) → ¬ L b) →
    argsD K (lend F H L) H sig vs ds ∧ vs.length = sig.length ∧ Paired (fun p i => σ[i]? = some (some (.ref p))) (inAddr sig vs) (inouts sig rs)
  | sig, [], vs, ds, h, e, so, hs, ho, hl, hi => by
    cases h
    cases e
    cases sig with
    | nil => exact ⟨trivial, rfl, .nil⟩
    | cons b sig => cases b <;> cases so
  | sig, r :: rs, vs, ds, h, e, so, hs, ho, hl, hi => by
    cases h with
    | @cons v _ vs _ h t =>
      obtain ⟨d, ds', e1, e2, rfl⟩ := peeks_cons e
      cases sig with
      | nil => cases r <;> cases so
      | cons b sig =>
        cases b with
        | false =>
          have so' : sigOk sig rs = true := by cases r <;> exact so
          have io' : inouts (false :: sig) (r :: rs) = inouts sig rs := by cases r <;> rfl
          have lo' : ∀ i ∈ lents sig rs, i ∈ lents (false :: sig) (r :: rs) := fun i hm => by
            cases r
            · exact hm
            · exact hm
            · exact List.mem_cons_of_mem _ hm
          rw [io'] at ho hi
          obtain ⟨i1, i2, i3⟩ := args_ok Rp L hL t e2 so' (fun r hr => hs r (List.mem_cons_of_mem _ hr)) ho (fun i hi => hl i (lo' i hi)) hi
          refine ⟨⟨?_, i1⟩, by simp [i2], ?_⟩
          · cases r with
            | val d' => cases e1; exact h.mono (same_lend hL)
            | own d' => exact absurd (hs (.own d') List.mem_cons_self) (by intro z; cases z)
            | pl i =>
              have hsig : σ[i]? = some (some v) := h
              unfold peek at e1
              simp only at e1
              cases q : slot env i with
              | none => rw [q] at e1; cases e1
              | some sl =>
                rw [q] at e1
                cases sl with
                | val d' =>
                  cases e1
                  obtain ⟨v', a, c⟩ := Rp.vals i _ q
                  rw [hsig] at a; cases a
                  exact c.mono (same_lend hL)
                | own d' =>
                  cases e1
                  obtain ⟨p, a, b, c, _⟩ := Rp.mine (i := i) (by rw [q]; rfl)
                  rw [hsig] at a; cases a
                  have lp : L p := hl i List.mem_cons_self p (by rw [q]; rfl) hsig
                  obtain ⟨o, ho', _⟩ := c.there
                  refine Den.mono ?_ (c.share ho' b)
                  intro x y z
                  unfold lend
                  by_cases ex : x = p
                  · subst ex; rw [upd_same] at z; rw [if_pos lp, ho']; exact z
                  · rw [upd_ne ex] at z
                    rw [if_neg]
                    · exact z
                    · intro w; rw [hL _ w] at z; cases z
                | io d' =>
                  cases e1
                  obtain ⟨p, a, b, c, _⟩ := Rp.mine (i := i) (by rw [q]; rfl)
                  rw [hsig] at a; cases a
                  have lp : L p := hl i List.mem_cons_self p (by rw [q]; rfl) hsig
                  obtain ⟨o, ho', _⟩ := c.there
                  refine Den.mono ?_ (c.share ho' b)
                  intro x y z
                  unfold lend
                  by_cases ex : x = p
                  · subst ex; rw [upd_same] at z; rw [if_pos lp, ho']; exact z
                  · rw [upd_ne ex] at z
                    rw [if_neg]
                    · exact z
                    · intro w; rw [hL _ w] at z; cases z
          · have : inAddr (false :: sig) (v :: vs) = inAddr sig vs := by cases v <;> rfl
            rw [this, io']; exact i3
        | true =>
          cases r with
          | val d' => cases so
          | own d' => cases so
          | pl i =>
            have hsig : σ[i]? = some (some v) := h
            have ho' : isOwn env i = true ∧ (inouts sig rs).all (isOwn env) = true := by
              have : (i :: inouts sig rs).all (isOwn env) = true := ho
              rw [List.all_cons, Bool.and_eq_true] at this
              exact this
            obtain ⟨i1, i2, i3⟩ := args_ok Rp L hL t e2 so (fun r hr => hs r (List.mem_cons_of_mem _ hr)) ho'.2 (fun i hi => hl i hi) (fun i hj => hi i (List.mem_cons_of_mem _ hj))
            obtain ⟨dd, hd⟩ := Option.isSome_iff_exists.mp ho'.1
            obtain ⟨p, a, b, c, _⟩ := Rp.mine hd
            rw [hsig] at a; cases a
            have ed : dd = d := by
              rcases slC_some hd with q | q <;> (unfold peek at e1; simp only [q] at e1; cases e1; rfl)
            subst ed
            have nl : ¬ L p := hi i List.mem_cons_self p hsig
            refine ⟨⟨⟨p, rfl, ?_, c.mono (same_lend hL) rfl⟩, i1⟩, by simp [i2], .cons hsig i3⟩
            unfold lend; rw [if_neg nl]; exact b
end
end Co

set_option linter.all false
/-! Co8: behind a call. -/
namespace Co
open PySem PySem.Spec PyProof.Rows L2
section
variable {K : Frag} {F H : Hp} {io : List Nat} {g : Gh} {env : Env} {σ : L2.St}

theorem slot_freeze {j : Nat} : ∀ (is : List Nat) (env : Env), slot (freeze env is) j = if j ∈ is then (match slot env j with | some (.own d) => some (.val d) | s => s) else slot env j
  | [], env => by simp [freeze]
  | i :: is, env => by
    unfold freeze
    cases q : slot env i with
    | none =>
      simp only
      rw [slot_freeze is env]
      by_cases e : j = i
      · subst e; simp [q]
      · simp [e]
    | some s =>
      cases s with
      | own d =>
        simp only
        rw [slot_freeze is, slot_set' (slot_lt q)]
        by_cases e : i = j
        · subst e; simp [q]
        · simp [e, show (j = i) = False from eq_false fun z => e z.symm]
      | val d =>
        simp only
        rw [slot_freeze is env]
        by_cases e : j = i
        · subst e; simp [q]
        · simp [e]
      | io d =>
        simp only
        rw [slot_freeze is env]
        by_cases e : j = i
        · subst e; simp [q]
        · simp [e]
theorem freeze_length : ∀ (is : List Nat) (env : Env), (freeze env is).length = env.length
  | [], env => rfl
  | i :: is, env => by
    unfold freeze
    split
    · rw [freeze_length is]; simp
    · exact freeze_length is env
theorem setC_length {env : Env} {i : Nat} {d : PyData} : (setC env i d).length = env.length := by unfold setC; split <;> simp
theorem slot_setC {env : Env} {i j : Nat} {d d0 : PyData} (h : slC (slot env i) = some d0) : slot (setC env i d) j = if i = j then (match slot env i with | some (.io _) => some (.io d) | _ => some (.own d)) else slot env j := by
  have hi : i < env.length := by
    rcases slC_some h with h | h <;> exact slot_lt h
  unfold setC
  rcases slC_some h with q | q <;> (rw [q]; simp only; rw [slot_set' hi])
theorem slC_setC {env : Env} {i j : Nat} {d d0 : PyData} (h : slC (slot env i) = some d0) (q : (slC (slot env j)).isSome = true) : (slC (slot (setC env i d) j)).isSome = true := by
  rw [slot_setC h]
  by_cases e : i = j
  · rw [if_pos e]; split <;> rfl
  · rw [if_neg e]; exact q
theorem setOwn_length : ∀ {is : List Nat} {ds : List PyData} {env : Env}, (setOwn env is ds).length = env.length
  | [], ds, env => by cases ds <;> rfl
  | i :: is, [], env => rfl
  | i :: is, d :: ds, env => by
    show (setOwn (setC env i d) is ds).length = _
    rw [setOwn_length, setC_length]
/-- what stands at a name behind a call -/
theorem slot_setOwn {j : Nat} {s : Sl} {F' H' : Hp} {K : Frag} {σ : L2.St} : ∀ {is : List Nat} {ds : List PyData} {ps : List Addr} {env : Env}, is.Nodup → is.all (isOwn env) = true → Paired (fun p i => σ[i]? = some (some (.ref p))) ps is → newsD K F' H' ps ds →
    slot (setOwn env is ds) j = some s → (j ∉ is ∧ slot env j = some s) ∨ (j ∈ is ∧ ∃ p d, p ∈ ps ∧ σ[j]? = some (some (.ref p)) ∧ F' p = none ∧ OwnAt K F' H' p d ∧ ((s = .own d ∧ ∃ d0, slot env j = some (.own d0)) ∨ (s = .io d ∧ ∃ d0, slot env j = some (.io d0))))
  | [], ds, ps, env, _, _, _, _, h => by
    have : setOwn env [] ds = env := by cases ds <;> rfl
    rw [this] at h
    exact .inl ⟨by simp, h⟩
  | i :: is, ds, ps, env, hn, ha, hp, hd, h => by
    cases hp with
    | @cons p _ ps _ hp1 hp =>
      cases ds with
      | nil => exact hd.elim
      | cons d ds =>
        obtain ⟨⟨f1, f2⟩, hd⟩ := hd
        rw [List.nodup_cons] at hn
        rw [List.all_cons, Bool.and_eq_true] at ha
        obtain ⟨d0, h0⟩ := Option.isSome_iff_exists.mp ha.1
        have ha2 : is.all (isOwn (setC env i d)) = true := by
          rw [List.all_eq_true] at ha ⊢
          intro x hx
          exact slC_setC h0 (ha.2 x hx)
        have h : slot (setOwn (setC env i d) is ds) j = some s := h
        rcases slot_setOwn hn.2 ha2 hp hd h with ⟨a, b⟩ | ⟨a, p', d', b, c, e, f, gg⟩
        · rw [slot_setC h0] at b
          by_cases e : i = j
          · subst e
            rw [if_pos rfl] at b
            refine .inr ⟨List.mem_cons_self, p, d, List.mem_cons_self, hp1, f1, f2, ?_⟩
            rcases slC_some h0 with q | q
            · rw [q] at b; cases b; exact .inl ⟨rfl, _, q⟩
            · rw [q] at b; cases b; exact .inr ⟨rfl, _, q⟩
          · rw [if_neg e] at b
            exact .inl ⟨by simp only [List.mem_cons, not_or]; exact ⟨fun z => e z.symm, a⟩, b⟩
        · have ne : i ≠ j := fun z => hn.1 (z ▸ a)
          refine .inr ⟨List.mem_cons_of_mem _ a, p', d', List.mem_cons_of_mem _ b, c, e, f, ?_⟩
          rw [slot_setC h0, if_neg ne] at gg
          exact gg
theorem io_setOwn {j : Nat} {d : PyData} : ∀ {is : List Nat} {ds : List PyData} {env : Env}, is.all (isOwn env) = true → slot env j = some (.io d) → ∃ d', slot (setOwn env is ds) j = some (.io d')
  | [], ds, env, _, h => ⟨d, by cases ds <;> exact h⟩
  | i :: is, [], env, _, h => ⟨d, h⟩
  | i :: is, e :: ds, env, ha, h => by
    rw [List.all_cons, Bool.and_eq_true] at ha
    obtain ⟨d0, h0⟩ := Option.isSome_iff_exists.mp ha.1
    have ha2 : is.all (isOwn (setC env i e)) = true := by
      rw [List.all_eq_true] at ha ⊢
      intro x hx
      exact slC_setC h0 (ha.2 x hx)
    show ∃ d', slot (setOwn (setC env i e) is ds) j = some (.io d')
    by_cases q : i = j
    · subst q
      exact io_setOwn (d := e) ha2 (by rw [slot_setC h0, if_pos rfl, h])
    · exact io_setOwn (d := d) ha2 (by rw [slot_setC h0, if_neg q]; exact h)
theorem nodup_addr (Rp : Rep K io g env σ F H) : ∀ {ps : List Addr} {is : List Nat}, Paired (fun p i => σ[i]? = some (some (.ref p))) ps is → is.Nodup → is.all (isOwn env) = true → ps.Nodup
  | _, _, .nil, _, _ => List.nodup_nil
  | p :: ps, i :: is, .cons h t, hn, ha => by
    rw [List.nodup_cons] at hn ⊢
    rw [List.all_cons, Bool.and_eq_true] at ha
    refine ⟨fun hm => ?_, nodup_addr Rp t hn.2 ha.2⟩
    have : ∃ j ∈ is, σ[j]? = some (some (.ref p)) := by
      clear hn ha h
      induction t with
      | nil => cases hm
      | cons r t ih =>
        rcases List.mem_cons.mp hm with e | hm
        · exact ⟨_, List.mem_cons_self, by rw [e]; exact r⟩
        · obtain ⟨j, hj, e⟩ := ih hm
          exact ⟨j, List.mem_cons_of_mem _ hj, e⟩
    obtain ⟨j, hj, e⟩ := this
    obtain ⟨d, hd⟩ := Option.isSome_iff_exists.mp ha.1
    obtain ⟨d', hd'⟩ := Option.isSome_iff_exists.mp (List.all_eq_true.mp ha.2 j hj)
    exact hn.1 (Rp.apart hd hd' h e ▸ hj)
theorem mem_addr : ∀ {ps : List Addr} {is : List Nat} {p : Addr}, Paired (fun p i => σ[i]? = some (some (.ref p))) ps is → p ∈ ps → ∃ j ∈ is, σ[j]? = some (some (.ref p))
  | _, _, _, .nil, hm => by cases hm
  | _, _, _, .cons r t, hm => by
    rcases List.mem_cons.mp hm with e | hm
    · exact ⟨_, List.mem_cons_self, by rw [e]; exact r⟩
    · obtain ⟨j, hj, e⟩ := mem_addr t hm
      exact ⟨j, List.mem_cons_of_mem _ hj, e⟩
theorem inouts_nil_addr {ps : List Addr} (h : Paired (fun p i => σ[i]? = some (some (.ref p))) ps ([] : List Nat)) : ps = [] := by cases h; rfl

theorem call_ok {sig : List Bool} {rs : List R} {vs : List V} {Sp : Spec} {Q : R → Env → Prop} {Qv : V → Hp → Prop} (Rp : Rep K io g env σ F H) (hv : Paired (StDen K F σ) vs rs) (hs : ∀ r ∈ rs, r.still = r) (hw : callW Sp sig rs env Q)
    (kont : ∀ v H' F' r env', Same F F' → Rep K io g env' σ F' H' → RDen K g F' H' σ env' v r → Q r env' → Qv v H') : spOf K sig Sp vs H Qv E0 := by
  obtain ⟨ok, ds, pk, hw⟩ := hw
  unfold okArgs at ok
  simp only [Bool.and_eq_true, decide_eq_true_eq] at ok
  obtain ⟨⟨⟨o1, o2⟩, o3⟩, o4⟩ := ok
  have hL : ∀ b, lentAt env σ (lents sig rs) b → F b = none := fun b ⟨i, hi, q, e⟩ => by
    obtain ⟨d, hd⟩ := Option.isSome_iff_exists.mp q
    obtain ⟨p, a, b', _⟩ := Rp.mine hd
    rw [e] at a; cases a; exact b'
  have nLi : ∀ i ∈ inouts sig rs, ∀ b, σ[i]? = some (some (.ref b)) → ¬ lentAt env σ (lents sig rs) b := fun i hi b e ⟨j, hj, q, e2⟩ => by
    obtain ⟨d, hd⟩ := Option.isSome_iff_exists.mp q
    obtain ⟨d', hd'⟩ := Option.isSome_iff_exists.mp (List.all_eq_true.mp o2 i hi)
    have := Rp.apart hd' hd e e2
    subst this
    have z := List.all_eq_true.mp o3 i hi
    simp at z
    exact z hj
  obtain ⟨A1, A2, A3⟩ := args_ok Rp (lentAt env σ (lents sig rs)) hL hv pk o1 hs o2 (fun i hi b q e => ⟨i, hi, q, e⟩) nLi
  refine ⟨A2, lend F H (lentAt env σ (lents sig rs)), ds, lend_same Rp.sub, A1, nodup_addr Rp A3 o4 o2, _, hw, ?_⟩
  generalize hl : lentAt env σ (lents sig rs) = L at *
  intro res news q v H' F' m1 m2 fr nf nw rd
  have q := q (by rw [← newsD.length nw]; exact Paired.length A3)
  have mF : Same F F' := (same_lend hL).trans m1
  -- addresses of names
  have nin : ∀ {b : Addr}, b ∈ inAddr sig vs → ∃ i ∈ inouts sig rs, σ[i]? = some (some (.ref b)) := fun hb => mem_addr A3 hb
  have tr : ∀ b o, g.H0 b = some o → (∀ q ∈ g.ins, q.2 ≠ b) → H' b = some o := fun b o e i => by
    refine fr b o (Rp.frame b o e i) fun hb => ?_
    obtain ⟨j, hj, ej⟩ := nin hb
    obtain ⟨d, hd⟩ := Option.isSome_iff_exists.mp (List.all_eq_true.mp o2 j hj)
    obtain ⟨p, a, _, _, _, z⟩ := Rp.mine hd
    rw [ej] at a; cases a
    rcases z with z | ⟨w, hw, z⟩
    · rw [e] at z; cases z
    · exact i w hw z
  -- a tracked address that is not shared stays unshared
  have stay : ∀ {b : Addr} {o : HO}, H b = some o → F b = none → ¬ L b → F' b = none := fun {b o} e n nl => nf b o e (by unfold lend; rw [if_neg nl]; exact n)
  have there0 : ∀ b o, g.H0 b = some o → ∃ o', H b = some o' := fun b o e => by
    by_cases i : ∀ q ∈ g.ins, q.2 ≠ b
    · exact ⟨o, Rp.frame b o e i⟩
    · have : ∃ q ∈ g.ins, q.2 = b := by
        apply Classical.byContradiction
        intro z
        exact i fun q hq e => z ⟨q, hq, e⟩
      obtain ⟨w, hw, rfl⟩ := this
      obtain ⟨_, ⟨d, hd⟩, _⟩ := Rp.ins w hw
      obtain ⟨p, hp, _, oo⟩ := Rp.ios _ _ hd
      have e1 := (Rp.ins _ hp).1
      have e2 := (Rp.ins w hw).1
      rw [e1] at e2
      have e3 : p = w.2 := by injection (Option.some.inj (Option.some.inj e2))
      obtain ⟨o', ho', _⟩ := oo.there
      exact ⟨o', e3 ▸ ho'⟩
  -- the own list of a name that is not handed over
  have other : ∀ {i : Nat} {d : PyData} {p : Addr}, slC (slot env i) = some d → σ[i]? = some (some (.ref p)) → OwnAt K F H p d → i ∉ inouts sig rs → H' p = H p := fun {i d p} h1 h2 h3 h4 => by
    obtain ⟨o, ho, _⟩ := h3.there
    rw [ho]
    refine fr p o ho fun hb => ?_
    obtain ⟨j, hj, ej⟩ := nin hb
    obtain ⟨d', hd'⟩ := Option.isSome_iff_exists.mp (List.all_eq_true.mp o2 j hj)
    exact h4 (Rp.apart h1 hd' h2 ej ▸ hj)
  have lentL : ∀ {i : Nat} {d : PyData} {p : Addr}, slC (slot env i) = some d → σ[i]? = some (some (.ref p)) → L p → i ∈ lents sig rs := fun {i d p} h1 h2 h3 => by
    rw [← hl] at h3
    obtain ⟨j, hj, q, e⟩ := h3
    obtain ⟨d', hd'⟩ := Option.isSome_iff_exists.mp q
    exact Rp.apart h1 hd' h2 e ▸ hj
  have tmpN : ∀ t ∈ g.tmps, ¬ L t.1 := fun t ht z => by
    rw [← hl] at z
    obtain ⟨j, hj, q, e⟩ := z
    obtain ⟨d', hd'⟩ := Option.isSome_iff_exists.mp q
    obtain ⟨p, a, _, _, n, _⟩ := Rp.mine hd'
    rw [e] at a; cases a
    exact n t ht rfl
  have tmpH : ∀ t ∈ g.tmps, H' t.1 = H t.1 := fun t ht => by
    obtain ⟨a, b, c⟩ := Rp.tmp t ht
    obtain ⟨o, ho, _⟩ := b.there
    rw [ho]
    refine fr _ o ho fun hb => ?_
    obtain ⟨j, hj, ej⟩ := nin hb
    obtain ⟨d', hd'⟩ := Option.isSome_iff_exists.mp (List.all_eq_true.mp o2 j hj)
    obtain ⟨p, a', _, _, n, _⟩ := Rp.mine hd'
    rw [ej] at a'; cases a'
    exact n t ht rfl
  by_cases keep : (noRefR res && (inouts sig rs).isEmpty) = true
  · -- nothing of the lent lists can be in the result
    have _ : DecidablePred L := fun b => Classical.propDecidable _
    rw [if_pos keep] at q
    rw [Bool.and_eq_true] at keep
    obtain ⟨k1, k2⟩ := keep
    have i0 : inouts sig rs = [] := by simpa using k2
    have hLm : ∀ b, L b → ∃ o, F' b = some o ∧ Mut (some o) := fun b lb => by
      have lb' := lb
      rw [← hl] at lb'
      obtain ⟨j, hj, q, e⟩ := lb'
      obtain ⟨d', hd'⟩ := Option.isSome_iff_exists.mp q
      obtain ⟨p, a, _, oo, _⟩ := Rp.mine hd'
      rw [e] at a; cases a
      obtain ⟨o, ho, mu⟩ := oo.there
      exact ⟨o, m1 _ _ (by unfold lend; rw [if_pos lb]; exact ho), mu⟩
    let F2 : Hp := fun b => if L b then none else F' b
    have m3 : Same F F2 := fun b o e => by
      show (if L b then none else F' b) = _
      rw [if_neg (fun z => by rw [hL b z] at e; cases e)]
      exact mF _ _ e
    have f2 : ∀ {b : Addr} {o : HO}, H b = some o → F b = none → F2 b = none := fun {b o} e n => by
      show (if L b then none else F' b) = _
      by_cases z : L b
      · rw [if_pos z]
      · rw [if_neg z]; exact stay e n z
    have ni : ∀ i, i ∉ inouts sig rs := fun i => by rw [i0]; simp
    have R2 : Rep K io g env σ F2 H' := by
      refine ⟨fun b o e => ?_, Rp.sub0.trans m3, tr, fun b o e n => ?_, Rp.len, fun i d h => ?_, fun i d h => ?_, Rp.sep, fun i d h => ?_, Rp.ins, Rp.insI, Rp.insN, fun t ht => ?_, Rp.tmpN⟩
      · have e : (if L b then none else F' b) = some o := e
        by_cases z : L b
        · rw [if_pos z] at e; cases e
        · rw [if_neg z] at e; exact m2 _ _ e
      · obtain ⟨o', ho'⟩ := there0 b o e
        exact f2 ho' (Rp.nof b o e n)
      · obtain ⟨w, a, b⟩ := Rp.vals i d h; exact ⟨w, a, b.mono m3⟩
      · obtain ⟨p, a, b, c, dd, e⟩ := Rp.owns i d h
        obtain ⟨o, ho, _⟩ := c.there
        exact ⟨p, a, f2 ho b, c.mono m3 (other (by rw [h]; rfl) a c (ni i)), dd, e⟩
      · obtain ⟨p, a, b, c⟩ := Rp.ios i d h
        obtain ⟨o, ho, _⟩ := c.there
        exact ⟨p, a, f2 ho b, c.mono m3 (other (by rw [h]; rfl) (Rp.ins _ a).1 c (ni i))⟩
      · obtain ⟨a, b, c⟩ := Rp.tmp t ht
        obtain ⟨o, ho, _⟩ := b.there
        exact ⟨f2 ho a, b.mono m3 (tmpH t ht), c⟩
    refine kont v H' F2 _ env m3 R2 ?_ q
    cases res with
    | val d => exact Den.noRef hLm rd k1
    | own d =>
      obtain ⟨p, rfl, a, b, c⟩ := rd
      obtain ⟨h0, hF, ht, hi, ho⟩ := Rp.h0 c
      refine ⟨p, rfl, ?_, OwnAt.noRef hLm b k1, h0, ht, ho⟩
      show (if L p then none else F' p) = none
      rw [a]; split <;> rfl
    | io d => exact rd.elim
  · rw [if_neg keep] at q
    obtain ⟨nio, q⟩ := q
    have lio : ∀ {i : Nat} {d : PyData}, i ∈ lents sig rs → slot env i ≠ some (.io d) := fun {i d} hi z => by
      have := List.all_eq_true.mp nio i hi
      unfold isIo at this
      rw [z] at this
      cases this
    have o2' : (inouts sig rs).all (isOwn (freeze env (lents sig rs))) = true := by
      rw [List.all_eq_true] at o2 ⊢
      intro i hi
      have := List.all_eq_true.mp o3 i hi
      have ni : i ∉ lents sig rs := by simpa using this
      show (slC (slot (freeze env (lents sig rs)) i)).isSome = true
      rw [slot_freeze, if_neg ni]
      exact o2 i hi
    have so : ∀ {j : Nat} {s : Sl}, slot (setOwn (freeze env (lents sig rs)) (inouts sig rs) news) j = some s → _ := fun {j s} h => slot_setOwn o4 o2' A3 nw h
    have frz : ∀ {j : Nat} {s : Sl}, slot (freeze env (lents sig rs)) j = some s → (slot env j = some s ∧ (∀ d, s = .own d → j ∉ lents sig rs)) ∨ ∃ d, s = .val d ∧ slot env j = some (.own d) ∧ j ∈ lents sig rs := fun {j s} h => by
      rw [slot_freeze] at h
      by_cases e : j ∈ lents sig rs
      · rw [if_pos e] at h
        cases q : slot env j with
        | none => rw [q] at h; cases h
        | some z =>
          rw [q] at h
          cases z <;> cases h
          · exact .inr ⟨_, rfl, rfl, e⟩
          · exact .inl ⟨rfl, fun d z => nomatch z⟩
          · exact .inl ⟨rfl, fun d z => nomatch z⟩
      · rw [if_neg e] at h
        exact .inl ⟨h, fun _ _ => e⟩
    have R2 : Rep K io g (setOwn (freeze env (lents sig rs)) (inouts sig rs) news) σ F' H' := by
      have len2 : (setOwn (freeze env (lents sig rs)) (inouts sig rs) news).length = σ.length := by rw [setOwn_length, freeze_length]; exact Rp.len
      have own2 : ∀ {i : Nat} {d : PyData}, slot (setOwn (freeze env (lents sig rs)) (inouts sig rs) news) i = some (.own d) → ∃ d0, slot env i = some (.own d0) := fun {i d} h => by
        rcases so h with ⟨a, b⟩ | ⟨a, p, d', _, _, _, _, ⟨e, d0, z⟩ | ⟨e, _⟩⟩
        · rcases frz b with ⟨b, _⟩ | ⟨_, b, _⟩
          · exact ⟨d, b⟩
          · cases b
        · rcases frz z with ⟨b, _⟩ | ⟨_, b, _⟩
          · exact ⟨d0, b⟩
          · cases b
        · cases e
      refine ⟨m2, Rp.sub0.trans mF, tr, fun b o e n => ?_, len2, fun i d h => ?_, fun i d h => ?_, fun i j d e p h1 h2 h3 h4 => ?_, fun i d h => ?_, fun w hw => ?_, Rp.insI, Rp.insN, fun t ht => ?_, Rp.tmpN⟩
      · obtain ⟨o', ho'⟩ := there0 b o e
        refine stay ho' (Rp.nof b o e n) fun z => ?_
        rw [← hl] at z
        obtain ⟨j, hj, z1, z2⟩ := z
        obtain ⟨d, hd⟩ := Option.isSome_iff_exists.mp z1
        rcases slC_some hd with hd | hd
        · obtain ⟨p, a, _, _, c, _⟩ := Rp.owns j d hd
          rw [z2] at a; cases a
          rw [e] at c; cases c
        · exact lio hj hd
      · rcases so h with ⟨a, b⟩ | ⟨a, p, d', _, _, _, _, ⟨e, _⟩ | ⟨e, _⟩⟩
        · rcases frz b with ⟨b, _⟩ | ⟨d', e, b, c⟩
          · obtain ⟨w, x, y⟩ := Rp.vals i d b; exact ⟨w, x, y.mono mF⟩
          · cases e
            obtain ⟨p, x, y, z, _⟩ := Rp.owns i d b
            have lp : L p := by rw [← hl]; exact ⟨i, c, by rw [b]; rfl, x⟩
            obtain ⟨o, ho, _⟩ := z.there
            refine ⟨_, x, Den.mono ?_ (z.share ho y)⟩
            intro a1 a2 a3
            refine m1 _ _ ?_
            unfold lend
            by_cases ex : a1 = p
            · subst ex; rw [upd_same] at a3; rw [if_pos lp, ho]; exact a3
            · rw [upd_ne ex] at a3
              rw [if_neg]
              · exact a3
              · intro w; rw [hL _ w] at a3; cases a3
        · cases e
        · cases e
      · rcases so h with ⟨a, b⟩ | ⟨a, p, d', hp, x, y, z, ⟨e, d0, w⟩ | ⟨e, _⟩⟩
        · rcases frz b with ⟨b, nl⟩ | ⟨_, b, _⟩
          · obtain ⟨p, x, y, z, u, t⟩ := Rp.owns i d b
            obtain ⟨o, ho, _⟩ := z.there
            have nL : ¬ L p := fun lp => nl d rfl (lentL (by rw [b]; rfl) x lp)
            exact ⟨p, x, stay ho y nL, z.mono mF (other (by rw [b]; rfl) x z a), u, t⟩
          · cases b
        · cases e
          rcases frz w with ⟨b, _⟩ | ⟨_, b, _⟩
          · obtain ⟨p', x', y', z', u, t⟩ := Rp.owns i _ b
            rw [x] at x'; cases x'
            exact ⟨p, x, y, z, u, t⟩
          · cases b
        · cases e
      · obtain ⟨_, b1⟩ := own2 h1
        obtain ⟨_, b2⟩ := own2 h2
        exact Rp.sep i j _ _ p b1 b2 h3 h4
      · rcases so h with ⟨a, b⟩ | ⟨a, p, d', hp, x, y, z, ⟨e, _⟩ | ⟨e, d0, w⟩⟩
        · rcases frz b with ⟨b, nl⟩ | ⟨_, b, _⟩
          · obtain ⟨p, x, y, z⟩ := Rp.ios i d b
            have x' := (Rp.ins _ x).1
            obtain ⟨o, ho, _⟩ := z.there
            have nL : ¬ L p := fun lp => lio (lentL (by rw [b]; rfl) x' lp) b
            exact ⟨p, x, stay ho y nL, z.mono mF (other (by rw [b]; rfl) x' z a)⟩
          · cases b
        · cases e
        · cases e
          rcases frz w with ⟨b, _⟩ | ⟨_, b, _⟩
          · obtain ⟨p', x', _⟩ := Rp.ios i _ b
            have x2 := (Rp.ins _ x').1
            rw [x] at x2; cases x2
            exact ⟨_, x', y, z⟩
          · cases b
      · obtain ⟨a, ⟨d, b⟩, c⟩ := Rp.ins w hw
        refine ⟨a, ?_, c⟩
        refine io_setOwn (d := d) o2' ?_
        rw [slot_freeze, b]
        split <;> rfl
      · obtain ⟨a, b, c⟩ := Rp.tmp t ht
        obtain ⟨o, ho, _⟩ := b.there
        exact ⟨stay ho a (tmpN t ht), b.mono mF (tmpH t ht), c⟩
    refine kont v H' F' _ _ mF R2 ?_ q
    cases res with
    | val d => exact rd
    | own d =>
      obtain ⟨p, rfl, a, b, c⟩ := rd
      obtain ⟨h0, hF, ht, hi, ho⟩ := Rp.h0 c
      refine ⟨p, rfl, a, b, h0, ht, fun i d' h z => ?_⟩
      obtain ⟨p', x, _, y, _⟩ := R2.owns i d' h
      rw [z] at x; cases x
      -- it stood before, or it is a name's own
      rcases so h with ⟨u, w⟩ | ⟨u, p2, d2, _, x2, _, _, ⟨e2, d0, w⟩ | ⟨e2, _⟩⟩
      · rcases frz w with ⟨w, _⟩ | ⟨_, w, _⟩
        · exact ho i _ w z
        · cases w
      · rcases frz w with ⟨w, _⟩ | ⟨_, w, _⟩
        · exact ho i _ w z
        · cases w
      · cases e2
    | io d => exact rd.elim
end
end Co

set_option linter.all false
/-! Co9: the rules, an expression of the text against one of the little language. -/
namespace Co
open PySem PySem.Spec PyProof.Rows L2

def Es.len : Es → Nat
  | .nil => 0
  | .cons _ es => es.len + 1
/-- arguments, displays -/
def tA (K : Frag) (Φ : Tbl) (io : List Nat) (es : Es) : TA := fun σ H Qs => ∃ g F env Q, Rep K io g env σ F H ∧ wpEs Φ es env Q ∧
  ∀ vs H' F' rs env', vs.length = es.len → Same F F' → Rep K io g env' σ F' H' → Paired (StDen K F' σ) vs rs → (∀ r ∈ rs, r.still = r) → Q rs env' → Qs vs H'
/-- a test -/
def tT (K : Frag) (Φ : Tbl) (io : List Nat) (c : E) : TT := fun σ H Qb => ∃ (g : Gh) (F : Hp) (env : Env) (Q : Bool → Env → Prop), Rep K io g env σ F H ∧ wpE Φ c env (fun r env' => isT r env' fun b => Q b env') ∧
  ∀ b H' F' env', Same F F' → Rep K io g env' σ F' H' → Q b env' → Qb b H'
theorem R.still_still (r : R) : r.still.still = r.still := by cases r <;> rfl

/-! ### the forms of expressions -/
def notStar : Expr → Bool
  | .Starred _ _ => false
  | _ => true
def notSlice : Expr → Bool
  | .Slice _ _ _ _ => false
  | _ => true
def notSet : Expr → Bool
  | .Set _ _ _ => false
  | _ => true
/-- as a test it is just its value -/
def plainT : Expr → Bool
  | .UnaryOp .Not _ _ => false
  | .BoolOp _ _ _ => false
  | .IfExp _ _ _ _ => false
  | .Compare _ _ _ _ => false
  | _ => true
def notCall : Expr → Bool
  | .Call _ _ _ _ => false
  | _ => true
def notLc : Expr → Bool
  | .ListComp .. | .SetComp .. | .DictComp .. => false
  | _ => true
theorem star_cons {e : Expr} (h : notStar e = true) (es : List Expr) (env : PySem.Env) : starEach (e :: es) env = (false, eval e env) :: starEach es env := by
  cases e <;> first | rfl | (simp [notStar] at h)
theorem plainIx {b : Expr} (h : notSlice b = true) : PlainIx b := fun o i => by
  cases b <;> first | rfl | (simp [notSlice] at h)
theorem behind {b : Expr} (h : notSet b = true) (op : CmpOp) : behindInMarks op b = false := by
  cases b <;> first | rfl | (simp [notSet] at h)
theorem plainT_eq {e : Expr} (h : plainT e = true) (env : PySem.Env) (whole : Sem Value) : isTrue e env whole = (do let v ← whole; standAt e.pos; holding [v] (truthy v)) := by
  cases e with
  | UnaryOp op x p => cases op <;> first | rfl | (simp [plainT] at h)
  | _ => first | rfl | (simp [plainT] at h)
theorem base_ok {o : Expr} (h : notCall o = true) (a : Str) (env : PySem.Env) : attributeBase o a env (eval o env) = eval o env := by
  cases o <;> first | rfl | (simp [notCall] at h)
theorem swap_no {e : Expr} (h : notLc e = true) (t : Option Expr) (n : Nat) (env : PySem.Env) : swapsWith e t n env = pure false := by
  cases e <;> first | rfl | (simp [notLc] at h)
theorem folded_ok {e : Expr} (h : notSet e = true) (env : PySem.Env) (x : Value) : foldedSetIterable e env x = pure x := by
  cases e <;> first | rfl | (simp [notSet] at h)

section
variable {X : Cx} {Φ : Tbl} {io : List Nat} {e e1 e2 e3 : Expr} {es : List Expr} {a b c : E} {cs : Es} {pos p p2 : Pos}

theorem pa_nilC : PA X [] (tA X.K Φ io .nil) := PA.weak pa_nil fun σ H Q ⟨g, F, env, Q', Rp, w, k⟩ => k [] H F [] env rfl (Same.refl F) Rp .nil (fun _ h => absurd h (by simp)) w
theorem pa_consC (he : PE X e (tE X.K Φ io a)) (hs : PA X es (tA X.K Φ io cs)) (n : notStar e = true) : PA X (e :: es) (tA X.K Φ io (.cons a cs)) :=
  PA.weak (pa_cons he hs (star_cons n es X.env)) fun σ H Q ⟨g, F, env, Q', Rp, w, k⟩ => one_ Rp w fun v1 H1 F1 r1 env1 m1 R1 s1 q1 =>
    ⟨g, F1, env1, _, R1, q1, fun vs H2 F2 rs env2 l m2 R2 s2 st q2 => k (v1 :: vs) H2 F2 (r1.still :: rs) env2 (by simp [l, Es.len]) (m1.trans m2) R2
      (.cons (by cases r1 <;> exact StDen.mono s1 m2) s2) (fun r hr => by
        rcases List.mem_cons.mp hr with rfl | hr
        · exact R.still_still r1
        · exact st r hr) q2⟩

/-! ### names, constants -/
def mVis (N : List Str) (sc : Scope) (i : Nat) (x : Str) : Bool :=
  decide (N[i]? = some x) && (match sc.names.lookup x with | some .local | some .cell | some .free => true | _ => false) && !(x == ("__debug__" : Str)) && !(x == ("__classdict__" : Str))
theorem mVis_ok {N : List Str} {sc : Scope} {i : Nat} {x : Str} (h : mVis N sc i x = true) : N[i]? = some x ∧ Vis sc x ∧ (x == ("__debug__" : Str)) = false ∧ (x == ("__classdict__" : Str)) = false := by
  unfold mVis at h
  simp only [Bool.and_eq_true, decide_eq_true_eq, Bool.not_eq_true'] at h
  obtain ⟨⟨⟨h1, h2⟩, h3⟩, h4⟩ := h
  refine ⟨h1, ?_, h3, h4⟩
  split at h2
  · exact .inl (by assumption)
  · exact .inr (.inl (by assumption))
  · exact .inr (.inr (by assumption))
  · cases h2
theorem slot_val {K : Frag} {io : List Nat} {g : Gh} {F H : Hp} {env : Env} {σ : L2.St} (Rp : Rep K io g env σ F H) {i : Nat} (h : (slot env i).isSome = true) : ∃ v, σ[i]? = some (some v) := by
  cases q : slot env i with
  | none => rw [q] at h; cases h
  | some s =>
    cases s with
    | val d => obtain ⟨v, a, _⟩ := Rp.vals i d q; exact ⟨v, a⟩
    | own d => obtain ⟨p, a, _⟩ := Rp.owns i d q; exact ⟨_, a⟩
    | io d => obtain ⟨p, a, _⟩ := Rp.ios i d q; exact ⟨_, (Rp.ins _ a).1⟩
theorem e_var {i : Nat} {x : Str} (h : mVis X.N X.env.scope i x = true) : PE X (.Name x pos) (tE X.K Φ io (.var i)) := by
  obtain ⟨h1, h2, h3, h4⟩ := mVis_ok h
  refine PE.weak (pe_var h1 h2 h3 h4) fun σ H Q ⟨g, F, env, Q', Rp, ⟨w1, w2⟩, k⟩ => ?_
  obtain ⟨v, hv⟩ := slot_val Rp w1
  exact ⟨v, hv, k v H F (.pl i) env (Same.refl F) Rp ⟨hv, w1⟩ w2⟩
def mC : PyData → Const → Bool
  | .none, .none => true
  | .bool x, .bool y => x == y
  | .int x, .int y => x == y
  | .str x, .str y => x == y
  | _, _ => false
theorem e_cst {d : PyData} {k : Const} {j : Nat} (h : mC d k = true) : PE X (.Constant k j pos) (tE X.K Φ io (.cst d)) := by
  have fin : ∀ {v : V} {d : PyData}, (∀ F, Den X.K F v d) → ∀ σ H Q, tE X.K Φ io (.cst d) σ H Q → tC v σ H Q := fun {v d} dn σ H Q ⟨g, F, env, Q', Rp, w, kk⟩ => kk v H F (.val d) env (Same.refl F) Rp (dn F) w
  cases d <;> cases k <;> simp [mC] at h
  · exact PE.weak pe_non (fin fun F => .non)
  · subst h; exact PE.weak pe_bl (fin fun F => .bl _)
  · subst h; exact PE.weak pe_int (fin fun F => .int _)
  · subst h; exact PE.weak pe_str (fin fun F => .str _)

/-! ### displays -/
theorem e_tup {n : Nat} (h : PA X es (tA X.K Φ io cs)) (hl : cs.len ≤ 1000) : PE X (.Tuple es n pos) (tE X.K Φ io (.tup cs)) :=
  PE.weak (pe_tup h) fun σ H Q ⟨g, F, env, Q', Rp, w, k⟩ => ⟨g, F, env, _, Rp, w, fun vs H1 F1 rs env1 l m1 R1 s1 st q1 => by
    refine ⟨by rw [l, sizeLine_eq]; omega, fun p n => ?_⟩
    obtain ⟨ds, env2, F2, m2, R2, dn, q2⟩ := asVs_ok R1 s1 q1
    obtain ⟨F3, m3, R3, rd⟩ := out_ok R2 (.tup n dn)
    exact k _ _ F3 _ env2 ((m1.trans m2).trans m3) R3 rd q2⟩
theorem e_lst (h : PA X es (tA X.K Φ io cs)) (hl : cs.len ≤ 1000) : PE X (.List es pos) (tE X.K Φ io (.lst cs)) :=
  PE.weak (pe_lst h) fun σ H Q ⟨g, F, env, Q', Rp, w, k⟩ => ⟨g, F, env, _, Rp, w, fun vs H1 F1 rs env1 l m1 R1 s1 st q1 => by
    refine ⟨by rw [l, sizeLine_eq]; omega, fun p n => ?_⟩
    obtain ⟨ds, env2, F2, m2, R2, dn, q2⟩ := asVs_ok R1 s1 q1
    obtain ⟨F3, m3, R3, rd⟩ := out_ok R2 (.own (d := .list ds) (o := .lst vs) n ⟨_, upd_same, dn⟩)
    exact k _ _ F3 _ env2 ((m1.trans m2).trans m3) R3 rd q2⟩
theorem e_dct0 : PE X (.Dict [] [] pos) (tE X.K Φ io (.dct .nil)) :=
  PE.weak pe_dnewK fun σ H Q ⟨g, F, env, Q', Rp, w, k⟩ p n => by
    obtain ⟨F3, m3, R3, rd⟩ := out_ok Rp (Out.own (d := .dict []) (o := .dK []) n ⟨[], [], upd_same, .nil, rfl⟩)
    exact k _ _ F3 _ env m3 R3 rd w.2
theorem e_lrep (h : PA X es (tA X.K Φ io cs)) (hl : cs.len ≤ 1000) (ha : PE X e (tE X.K Φ io a)) {p : Pos} : PE X (.BinOp (.List es p) .Mult e pos) (tE X.K Φ io (.lrep cs a)) :=
  PE.weak (pe_op op_rep (pe_lst h) ha) fun σ H Q ⟨g, F, env, Q', Rp, w, k⟩ => ⟨g, F, env, _, Rp, w, fun vs H1 F1 rs env1 l m1 R1 s1 st q1 => by
    refine ⟨by rw [l, sizeLine_eq]; omega, fun p n => ?_⟩
    obtain ⟨ds, env2, F2, m2, R2, dn, q2⟩ := asVs_ok R1 s1 q1
    obtain ⟨h0, hF, ht, hi, ho⟩ := R2.h0 n
    have R3 := (R2.lay (o := .lst vs) n).share hF upd_same h0 ho hi ht
    have m3 : Same F2 (upd F2 p (.lst vs)) := same_add hF
    refine one_ R3 q2 fun v5 H5 F5 r5 env5 m5 R5 s5 q5 => ?_
    obtain ⟨d5, w5, q5⟩ := pk_view R5 s5 q5
    cases d5 <;> first | exact q5.elim | skip
    obtain ⟨z1, z2, z3, q5⟩ := q5
    cases w5
    have hp : H5 p = some (.lst vs) := R5.sub _ _ (m5 _ _ upd_same)
    refine ⟨p, _, vs, rfl, rfl, hp, z1, z2, ?_, fun p' n' => ?_⟩
    · rw [dn.length]; exact line_le z3
    · have dn5 : DenAll X.K F5 vs ds := dn.mono (m3.trans m5)
      obtain ⟨F6, m6, R6, rd6⟩ := out_ok R5 (.own (d := .list (List.replicate _ ds).flatten) (o := .lst (List.replicate _ vs).flatten) n' ⟨_, upd_same, dn5.rep _⟩)
      exact k _ _ F6 _ env5 ((((m1.trans m2).trans m3).trans m5).trans m6) R6 rd6 q5⟩

/-! ### operators -/
theorem e_bin {op : BOp} (ha : PE X e1 (tE X.K Φ io a)) (hb : PE X e2 (tE X.K Φ io b)) : PE X (.BinOp e1 (opOf op) e2 pos) (tE X.K Φ io (.bin op a b)) :=
  PE.weak (pe_op (binR op) ha hb) fun σ H Q ⟨g, F, env, Q', Rp, w, k⟩ => op_ok (binD_mono op) Rp w k
theorem e_neg (ha : PE X e (tE X.K Φ io a)) : PE X (.UnaryOp .USub e pos) (tE X.K Φ io (.neg a)) :=
  PE.weak (pe_un un_neg ha) fun σ H Q ⟨g, F, env, Q', Rp, w, k⟩ => one_ Rp w fun v H' F' r env' m R' s q => by
    obtain ⟨d, vw, q⟩ := pk_view R' s q
    cases d <;> first | exact q.elim | skip
    cases vw
    exact ⟨_, rfl, k _ H' F' (.val (.int _)) env' m R' (Den.int _) q⟩
theorem e_not (ha : PE X e (tE X.K Φ io a)) : PE X (.UnaryOp .Not e pos) (tE X.K Φ io (.not a)) :=
  PE.weak (pe_not ha) fun σ H Q ⟨g, F, env, Q', Rp, w, k⟩ => one_ Rp w fun v H' F' r env' m R' s q => by
    obtain ⟨b, rfl, q⟩ := isT_view R' s q
    exact ⟨b, rfl, k _ H' F' (.val (.bool _)) env' m R' (Den.bl _) q⟩
theorem cmp_op {op : COp} {g : Gh} {F H : Hp} {env : Env} {σ : L2.St} {Q : R → Env → Prop} {Qv : V → Hp → Prop} (Rp : Rep X.K io g env σ F H)
    (w : wpE Φ a env fun r1 env1 => wpE Φ b env1 fun r2 env2 => pk r1 env2 fun x => pk r2 env2 fun y => cmpD op x y fun t => Q (.val (.bool t)) env2)
    (k : ∀ v H' F' r env', Same F F' → Rep X.K io g env' σ F' H' → RDen X.K g F' H' σ env' v r → Q r env' → Qv v H') : tOp (rOp X.K (qB (cmpD op))) (tE X.K Φ io a) (tE X.K Φ io b) σ H Qv :=
  op_ok (D := qB (cmpD op)) (Q := Q) (fun x y Q Q' h q => cmpD_mono op (fun b => h _) q) Rp w k
theorem e_cmp {op : COp} (hu : X.A.units + 66 < cLine) (ha : PE X e1 (tE X.K Φ io a)) (hb : PE X e2 (tE X.K Φ io b)) (ns : notSet e2 = true) : PE X (.Compare e1 [cmpOf op] [e2] pos) (tE X.K Φ io (.cmp op a b)) :=
  PE.weak (pe_cmpR (cmpR op hu) ha hb (behind ns _)) fun σ H Q ⟨g, F, env, Q', Rp, w, k⟩ => cmp_op Rp w k
theorem e_isn (ha : PE X e (tE X.K Φ io a)) {j : Nat} {p : Pos} : PE X (.Compare e [.Is] [.Constant .none j p] pos) (tE X.K Φ io (.isn a)) :=
  PE.weak (pe_cmp (pc_isN ha) rfl) fun σ H Q ⟨g, F, env, Q', Rp, w, k⟩ => one_ Rp w fun v H' F' r env' m R' s q => by
    obtain ⟨d, vw, q⟩ := pk_view R' s q
    have e : (decide (v = .non)) = isNoneD d := by
      cases d <;> first | (cases vw; rfl) | (obtain ⟨_, _, rfl, _⟩ := vw; rfl) | (obtain ⟨_, _, _, rfl, _⟩ := vw; rfl)
    show Q (.bl (decide (v = .non))) H'
    rw [e]
    exact k _ H' F' (.val (.bool _)) env' m R' (Den.bl _) q
theorem e_notn (ha : PE X e (tE X.K Φ io a)) {j : Nat} {p : Pos} : PE X (.Compare e [.IsNot] [.Constant .none j p] pos) (tE X.K Φ io (.notn a)) :=
  PE.weak (pe_cmp (pc_notN ha) rfl) fun σ H Q ⟨g, F, env, Q', Rp, w, k⟩ => one_ Rp w fun v H' F' r env' m R' s q => by
    obtain ⟨d, vw, q⟩ := pk_view R' s q
    have e : (!decide (v = .non)) = (!isNoneD d) := by
      cases d <;> first | (cases vw; rfl) | (obtain ⟨_, _, rfl, _⟩ := vw; rfl) | (obtain ⟨_, _, _, rfl, _⟩ := vw; rfl)
    show Q (.bl (!decide (v = .non))) H'
    rw [e]
    exact k _ H' F' (.val (.bool _)) env' m R' (Den.bl _) q
theorem chain_red {o1 o2 : COp} {g : Gh} {F H : Hp} {env : Env} {σ : L2.St} {Q : R → Env → Prop} {Qv : V → Hp → Prop} (Rp : Rep X.K io g env σ F H) (w : wpE Φ (.chain o1 o2 a b c) env Q)
    (k : ∀ t H' F' env', Same F F' → Rep X.K io g env' σ F' H' → Q (.val (.bool t)) env' → Qv (.bl t) H') :
    tChain (rOp X.K (qB (cmpD o1))) (rOp X.K (qB (cmpD o2))) (tE X.K Φ io a) (tE X.K Φ io b) (tE X.K Φ io c) σ H Qv := by
  refine two_ Rp w fun v1 v2 H1 F1 r1 r2 env1 m1 R1 s1 s2 q => ?_
  obtain ⟨d1, w1, q⟩ := pk_view R1 s1 q
  obtain ⟨d2, w2, q⟩ := pk_view R1 s2 q
  refine ⟨F1, d1, d2, R1.sub, w1, w2, cmpD_mono o1 (fun t q v H2 o => ?_) q⟩
  cases o with
  | old dn =>
    cases dn
    refine ⟨t, rfl, ?_⟩
    cases t with
    | false => exact k false H1 F1 env1 m1 R1 q
    | true =>
      refine one_ R1 q fun v3 H3 F3 r3 env3 m3 R3 s3 q => ?_
      obtain ⟨d2', w2', q⟩ := pk_view R3 (s2.mono m3) q
      obtain ⟨d3, w3, q⟩ := pk_view R3 s3 q
      refine ⟨F3, d2', d3, R3.sub, w2', w3, cmpD_mono o2 (fun t q v H4 o => ?_) q⟩
      cases o with
      | old dn => cases dn; exact k t H3 F3 env3 (m1.trans m3) R3 q
theorem marks2 {op op' : CmpOp} (h : notSet e3 = true) : lastMarks [op, op'] [e2, e3] = false := by
  show behindInMarks op' e3 = false
  exact behind h _
theorem e_chain {o1 o2 : COp} (hu : X.A.units + 66 < cLine) (ha : PE X e1 (tE X.K Φ io a)) (hb : PE X e2 (tE X.K Φ io b)) (hc : PE X e3 (tE X.K Φ io c)) (ns : notSet e3 = true) :
    PE X (.Compare e1 [cmpOf o1, cmpOf o2] [e2, e3] pos) (tE X.K Φ io (.chain o1 o2 a b c)) :=
  PE.weak (pe_chain (cmpR o1 hu) (cmpR o2 hu) ha hb hc (marks2 ns)) fun σ H Q ⟨g, F, env, Q', Rp, w, k⟩ => chain_red Rp w fun t H' F' env' m R' q => k _ H' F' (.val (.bool t)) env' m R' (Den.bl t) q
theorem e_and {xs : List Expr} (ha : PE X e1 (tE X.K Φ io a)) (hb : PE X (.BoolOp .And (e2 :: xs) pos) (tE X.K Φ io b)) : PE X (.BoolOp .And (e1 :: e2 :: xs) pos) (tE X.K Φ io (.and a b)) :=
  PE.weak (pe_and ha hb) fun σ H Q ⟨g, F, env, Q', Rp, w, k⟩ => one_ Rp w fun v H' F' r env' m R' s q => by
    obtain ⟨t, rfl, q⟩ := isT_view R' s q
    refine ⟨t, rfl, ?_⟩
    cases t with
    | true => exact ⟨g, F', env', Q', R', q, fun v H2 F2 r env2 m2 R2 d q => k v H2 F2 r env2 (m.trans m2) R2 d q⟩
    | false => exact k _ H' F' (.val (.bool _)) env' m R' (Den.bl _) q
theorem e_or {xs : List Expr} (ha : PE X e1 (tE X.K Φ io a)) (hb : PE X (.BoolOp .Or (e2 :: xs) pos) (tE X.K Φ io b)) : PE X (.BoolOp .Or (e1 :: e2 :: xs) pos) (tE X.K Φ io (.or a b)) :=
  PE.weak (pe_or ha hb) fun σ H Q ⟨g, F, env, Q', Rp, w, k⟩ => one_ Rp w fun v H' F' r env' m R' s q => by
    obtain ⟨t, rfl, q⟩ := isT_view R' s q
    refine ⟨t, rfl, ?_⟩
    cases t with
    | false => exact ⟨g, F', env', Q', R', q, fun v H2 F2 r env2 m2 R2 d q => k v H2 F2 r env2 (m.trans m2) R2 d q⟩
    | true => exact k _ H' F' (.val (.bool _)) env' m R' (Den.bl _) q
theorem e_ite (hc : PT X e1 (tT X.K Φ io c)) (ha : PE X e2 (tE X.K Φ io a)) (hb : PE X e3 (tE X.K Φ io b)) : PE X (.IfExp e1 e2 e3 pos) (tE X.K Φ io (.ite c a b)) :=
  PE.weak (pe_ifExp hc ha hb) fun σ H Q ⟨g, F, env, Q', Rp, w, k⟩ => ⟨g, F, env, _, Rp, w, fun t H' F' env' m R' q => by
    cases t with
    | true => exact ⟨g, F', env', Q', R', q, fun v H2 F2 r env2 m2 R2 d q => k v H2 F2 r env2 (m.trans m2) R2 d q⟩
    | false => exact ⟨g, F', env', Q', R', q, fun v H2 F2 r env2 m2 R2 d q => k v H2 F2 r env2 (m.trans m2) R2 d q⟩⟩

/-! ### tests -/
theorem t_plain (h : PE X e (tE X.K Φ io a)) (hp : plainT e = true) : PT X e (tT X.K Φ io a) :=
  PT.weak (pt_val h (fun w => plainT_eq hp X.env w)) fun σ H Q ⟨g, F, env, Q', Rp, w, k⟩ => one_ Rp w fun v H' F' r env' m R' s q => by
    obtain ⟨t, rfl, q⟩ := isT_view R' s q
    exact ⟨t, rfl, k t H' F' env' m R' q⟩
theorem t_not (h : PT X e (tT X.K Φ io a)) : PT X (.UnaryOp .Not e pos) (tT X.K Φ io (.not a)) :=
  PT.weak (pt_not h) fun σ H Q ⟨g, F, env, Q', Rp, w, k⟩ => ⟨g, F, env, fun b env' => Q' (!b) env', Rp, w, fun t H' F' env' m R' q => k _ H' F' env' m R' q⟩
theorem t_cmp {op : COp} (hu : X.A.units + 66 < cLine) (ha : PE X e1 (tE X.K Φ io a)) (hb : PE X e2 (tE X.K Φ io b)) (ns : notSet e2 = true) : PT X (.Compare e1 [cmpOf op] [e2] pos) (tT X.K Φ io (.cmp op a b)) :=
  PT.weak (pt_cmpR (cmpR op hu) ha hb (behind ns _)) fun σ H Q ⟨g, F, env, Q', Rp, w, k⟩ => cmp_op (Q := fun r env => isT r env fun b => Q' b env) Rp w fun v H' F' r env' m R' d q => by
    cases r with
    | val dd =>
      cases dd <;> first | exact q.elim | skip
      cases d
      exact ⟨_, rfl, k _ H' F' env' m R' q⟩
    | own dd =>
      obtain ⟨p, rfl, _, o, _⟩ := d
      cases dd <;> first | exact q.elim | skip
      exact o.elim
    | pl i =>
      obtain ⟨t, rfl, q⟩ := isT_view R' (r := .pl i) d.1 q
      exact ⟨t, rfl, k _ H' F' env' m R' q⟩
theorem t_chain {o1 o2 : COp} (hu : X.A.units + 66 < cLine) (ha : PE X e1 (tE X.K Φ io a)) (hb : PE X e2 (tE X.K Φ io b)) (hc : PE X e3 (tE X.K Φ io c)) (ns : notSet e3 = true) :
    PT X (.Compare e1 [cmpOf o1, cmpOf o2] [e2, e3] pos) (tT X.K Φ io (.chain o1 o2 a b c)) :=
  PT.weak (pt_chain (cmpR o1 hu) (cmpR o2 hu) ha hb hc (marks2 ns)) fun σ H Q ⟨g, F, env, Q', Rp, w, k⟩ => chain_red Rp w fun t H' F' env' m R' q => ⟨t, rfl, k t H' F' env' m R' q⟩
theorem t_isn (ha : PE X e (tE X.K Φ io a)) {j : Nat} {p : Pos} : PT X (.Compare e [.Is] [.Constant .none j p] pos) (tT X.K Φ io (.isn a)) :=
  PT.weak (pt_cmp (pc_isN ha) rfl) fun σ H Q ⟨g, F, env, Q', Rp, w, k⟩ => one_ Rp w fun v H' F' r env' m R' s q => by
    obtain ⟨d, vw, q⟩ := pk_view R' s q
    have e : (decide (v = .non)) = isNoneD d := by
      cases d <;> first | (cases vw; rfl) | (obtain ⟨_, _, rfl, _⟩ := vw; rfl) | (obtain ⟨_, _, _, rfl, _⟩ := vw; rfl)
    refine ⟨_, rfl, ?_⟩
    rw [e]
    exact k _ H' F' env' m R' q
theorem t_notn (ha : PE X e (tE X.K Φ io a)) {j : Nat} {p : Pos} : PT X (.Compare e [.IsNot] [.Constant .none j p] pos) (tT X.K Φ io (.notn a)) :=
  PT.weak (pt_cmp (pc_notN ha) rfl) fun σ H Q ⟨g, F, env, Q', Rp, w, k⟩ => one_ Rp w fun v H' F' r env' m R' s q => by
    obtain ⟨d, vw, q⟩ := pk_view R' s q
    have e : (!decide (v = .non)) = (!isNoneD d) := by
      cases d <;> first | (cases vw; rfl) | (obtain ⟨_, _, rfl, _⟩ := vw; rfl) | (obtain ⟨_, _, _, rfl, _⟩ := vw; rfl)
    refine ⟨_, rfl, ?_⟩
    rw [e]
    exact k _ H' F' env' m R' q
theorem and_red {g : Gh} {F H : Hp} {env : Env} {σ : L2.St} {Q : Bool → Env → Prop} {Qb : Bool → Hp → Prop} (Rp : Rep X.K io g env σ F H) (w : wpE Φ (.and a b) env (fun r env' => isT r env' fun b => Q b env'))
    (k : ∀ b H' F' env', Same F F' → Rep X.K io g env' σ F' H' → Q b env' → Qb b H') : tAnd (tT X.K Φ io a) (tT X.K Φ io b) σ H Qb :=
  ⟨g, F, env, _, Rp, w, fun t H' F' env' m R' q => by
    cases t with
    | true => exact ⟨g, F', env', Q, R', q, fun v H2 F2 env2 m2 R2 q => k v H2 F2 env2 (m.trans m2) R2 q⟩
    | false => exact k false H' F' env' m R' q⟩
theorem or_red {g : Gh} {F H : Hp} {env : Env} {σ : L2.St} {Q : Bool → Env → Prop} {Qb : Bool → Hp → Prop} (Rp : Rep X.K io g env σ F H) (w : wpE Φ (.or a b) env (fun r env' => isT r env' fun b => Q b env'))
    (k : ∀ b H' F' env', Same F F' → Rep X.K io g env' σ F' H' → Q b env' → Qb b H') : tOr (tT X.K Φ io a) (tT X.K Φ io b) σ H Qb :=
  ⟨g, F, env, _, Rp, w, fun t H' F' env' m R' q => by
    cases t with
    | false => exact ⟨g, F', env', Q, R', q, fun v H2 F2 env2 m2 R2 q => k v H2 F2 env2 (m.trans m2) R2 q⟩
    | true => exact k true H' F' env' m R' q⟩
theorem PW.weak {t t' : TT} (h : PW X e t) (w : ∀ σ H Q, t' σ H Q → t σ H Q) : PW X e t' := ⟨fun wh pins s σ H Q I q => h.run wh pins s σ H Q I (w _ _ _ q)⟩
theorem w_and {xs : List Expr} (ha : PT X e1 (tT X.K Φ io a)) (hb : PW X (.BoolOp .And (e2 :: xs) pos) (tT X.K Φ io b)) : PW X (.BoolOp .And (e1 :: e2 :: xs) pos) (tT X.K Φ io (.and a b)) :=
  PW.weak (pw_and ha hb) fun σ H Q ⟨g, F, env, Q', Rp, w, k⟩ => and_red Rp w k
theorem w_or {xs : List Expr} (ha : PT X e1 (tT X.K Φ io a)) (hb : PW X (.BoolOp .Or (e2 :: xs) pos) (tT X.K Φ io b)) : PW X (.BoolOp .Or (e1 :: e2 :: xs) pos) (tT X.K Φ io (.or a b)) :=
  PW.weak (pw_or ha hb) fun σ H Q ⟨g, F, env, Q', Rp, w, k⟩ => or_red Rp w k

/-! ### subscripts, slices -/
theorem e_idx (hu : X.A.units + 66 < cLine) (ha : PE X e1 (tE X.K Φ io a)) (hb : PE X e2 (tE X.K Φ io b)) (n : notSlice e2 = true) : PE X (.Subscript e1 e2 pos) (tE X.K Φ io (.idx a b)) :=
  PE.weak (pe_ix (idxR hu) ha hb (plainIx n)) fun σ H Q ⟨g, F, env, Q', Rp, w, k⟩ => op_ok (D := qV idxD) (Q := Q') (fun x y Q Q' h q => by
    unfold qV idxD at q ⊢
    split at q
    · obtain ⟨v, e, q⟩ := q; exact ⟨v, e, h _ q⟩
    · obtain ⟨v, e, q⟩ := q; exact ⟨v, e, h _ q⟩
    · obtain ⟨z, v, e, q⟩ := q; exact ⟨z, v, e, h _ q⟩
    · exact q) Rp w k
theorem slc_fin {g : Gh} {F H : Hp} {env : Env} {σ : L2.St} {Q : R → Env → Prop} {Qv : V → Hp → Prop} {v : V} {d : PyData} {lo hi : Option Int} (Rp : Rep X.K io g env σ F H) (w : View X.K F H v d) (q : slcD d lo hi fun r => Q r env)
    (k : ∀ v H' F' r env', Same F F' → Rep X.K io g env' σ F' H' → RDen X.K g F' H' σ env' v r → Q r env' → Qv v H') : rSl X.K v lo hi H Qv :=
  ⟨F, d, Rp.sub, w, slcD_mono (fun r hr v H2 o => by
    obtain ⟨F2, m, R2, dn⟩ := out_ok Rp o
    exact k v H2 F2 r env m R2 dn hr) q⟩
theorem e_slo (ha : PE X e1 (tE X.K Φ io a)) (hb : PE X e2 (tE X.K Φ io b)) : PE X (.Subscript e1 (.Slice (some e2) none none p2) pos) (tE X.K Φ io (.slo a b)) :=
  PE.weak (pe_slice slcR ha (po_some hb) po_none) fun σ H Q ⟨g, F, env, Q', Rp, w, k⟩ => two_ (Qv := fun v1 v2 H2 => ∃ i, v2 = .int i ∧ rSl X.K v1 (some i) none H2 Q) Rp w fun v1 v2 H1 F1 r1 r2 env1 m1 R1 s1 s2 q => by
    obtain ⟨d1, w1, q⟩ := pk_view R1 s1 q
    obtain ⟨d2, w2, q⟩ := pk_view R1 s2 q
    cases d2 <;> first | exact q.elim | skip
    cases w2
    exact ⟨_, rfl, slc_fin R1 w1 q fun v H2 F2 r env2 m2 R2 d q => k v H2 F2 r env2 (m1.trans m2) R2 d q⟩
theorem e_shi (ha : PE X e1 (tE X.K Φ io a)) (hb : PE X e2 (tE X.K Φ io b)) : PE X (.Subscript e1 (.Slice none (some e2) none p2) pos) (tE X.K Φ io (.shi a b)) :=
  PE.weak (pe_slice slcR ha po_none (po_some hb)) fun σ H Q ⟨g, F, env, Q', Rp, w, k⟩ => two_ (Qv := fun v1 v2 H2 => ∃ i, v2 = .int i ∧ rSl X.K v1 none (some i) H2 Q) Rp w fun v1 v2 H1 F1 r1 r2 env1 m1 R1 s1 s2 q => by
    obtain ⟨d1, w1, q⟩ := pk_view R1 s1 q
    obtain ⟨d2, w2, q⟩ := pk_view R1 s2 q
    cases d2 <;> first | exact q.elim | skip
    cases w2
    exact ⟨_, rfl, slc_fin R1 w1 q fun v H2 F2 r env2 m2 R2 d q => k v H2 F2 r env2 (m1.trans m2) R2 d q⟩
theorem e_slh (ha : PE X e1 (tE X.K Φ io a)) (hb : PE X e2 (tE X.K Φ io b)) (hc : PE X e3 (tE X.K Φ io c)) : PE X (.Subscript e1 (.Slice (some e2) (some e3) none p2) pos) (tE X.K Φ io (.slh a b c)) :=
  PE.weak (pe_slice slcR ha (po_some hb) (po_some hc)) fun σ H Q ⟨g, F, env, Q', Rp, w, k⟩ => two_ (Qv := fun v1 v2 H2 => ∃ i, v2 = .int i ∧ tE X.K Φ io c σ H2 fun v3 H3 => ∃ j, v3 = .int j ∧ rSl X.K v1 (some i) (some j) H3 Q) Rp w fun v1 v2 H1 F1 r1 r2 env1 m1 R1 s1 s2 q => by
    obtain ⟨d2, w2, q⟩ := pk_view R1 s2 q
    cases d2 <;> first | exact q.elim | skip
    cases w2
    refine ⟨_, rfl, one_ R1 q fun v3 H3 F3 r3 env3 m3 R3 s3 q => ?_⟩
    obtain ⟨d3, w3, q⟩ := pk_view R3 s3 q
    cases d3 <;> first | exact q.elim | skip
    cases w3
    obtain ⟨d1, w1, q⟩ := pk_view R3 (s1.mono m3) q
    exact ⟨_, rfl, slc_fin R3 w1 q fun v H2 F2 r env2 m2 R2 d q => k v H2 F2 r env2 ((m1.trans m3).trans m2) R2 d q⟩
end
end Co

set_option linter.all false
/-! Co10: the context; calls of defs, of built-ins. -/
namespace Co
open PySem PySem.Spec PyProof.Rows L2

def bltNames : List String := ["len", "repr", "sorted", "tuple", "list", "min", "max", "sum", "all", "any", "int", "isinstance", "range", "enumerate", "zip", "set", "bool", "str", "dict"]
def gl (sc : Scope) (x : Str) : Bool := match sc.names.lookup x with
  | some .globalImplicit => true
  | _ => false
/-- what holds wherever a def of the program runs -/
structure Ctx (X : Cx) (L : List (String × List Bool)) (Φ : Tbl) (fb : Str → Bool) : Prop where
  xe : X.xe = fun _ _ => False
  kind : X.env.scope.kind = .function
  fn : ∀ x, fb x = true → X.fn x = true
  nd : X.N.Nodup
  calm : X.calm = true
  hu : X.A.units + 100 < cLine
  gd : X.A.guards = some []
  sys : Sys X
  blt : ∀ x ∈ bltNames, X.mg (Str.ofString x) = none
  fns : ∀ p ∈ L, p.2.length < 100 → ∃ k a fd ps, X.mg (Str.ofString p.1) = some (.ref a) ∧ PySem.W.keepIn X.K (.ref a) = true ∧ Binds X.K fd ps [] ∧ FnG X.prog X.w X.K X.mg X.base k a fd ps (spOf X.K p.2 (Φ p.1)) ∧ Room k X.A
  cst : ∀ p ∈ L, 100 ≤ p.2.length → ∃ u, X.mg (Str.ofString p.1) = some u ∧ RelV (.int ((p.2.length - 100 : Nat) : Int)) u

theorem View.grow {K : Frag} {F H H' : Hp} (m : Same H H') {v : V} {d : PyData} (h : View K F H v d) : View K F H' v d := by
  cases d with
  | list ds => obtain ⟨a, xs, e, q, t⟩ := h; exact ⟨a, xs, e, m.seq q, t⟩
  | dict kvs => obtain ⟨a, kv, ds, e, q, t⟩ := h; exact ⟨a, kv, ds, e, m _ _ q, t⟩
  | tuple ds => exact h
  | _ => exact h
theorem star_any {pos : Pos} {env : PySem.Env} : ∀ {es : List Expr}, es.all notStar = true → (backTo pos (starEach es env)).any (·.1) = false
  | [], _ => rfl
  | e :: es, h => by
    rw [List.all_cons, Bool.and_eq_true] at h
    rw [star_cons h.1]
    show (false || (backTo pos (starEach es env)).any (·.1)) = false
    rw [star_any h.2]; rfl
theorem star_all {pos : Pos} {env : PySem.Env} : ∀ {es : List Expr}, es.all notStar = true → (backTo pos (starEach es env)).all (fun x => !x.1) = true
  | [], _ => rfl
  | e :: es, h => by
    rw [List.all_cons, Bool.and_eq_true] at h
    rw [star_cons h.1]
    show (true && (backTo pos (starEach es env)).all (fun x => !x.1)) = true
    rw [star_all h.2]; rfl

section
variable {X : Cx} {L : List (String × List Bool)} {Φ : Tbl} {fb : Str → Bool} {io : List Nat} {e e1 e2 e3 : Expr} {es : List Expr} {a b c : E} {cs : Es} {pos p p2 : Pos}
theorem gl_ok {x : Str} (h : gl X.env.scope x = true) : Gl X x := by
  unfold gl at h
  unfold Gl PySem.Env.kindOf
  split at h
  · assumption
  · cases h

theorem e_call {f : String} {sig : List Bool} {x : Str} (C : Ctx X L Φ fb) (hf : (f, sig) ∈ L) (hs : sig.length < 100) (hx : x = Str.ofString f) (hg : gl X.env.scope x = true) (hd : (x == ("__debug__" : Str)) = false) (ns : (e :: es).all notStar = true)
    (ha : PA X (e :: es) (tA X.K Φ io cs)) : PE X (.Call (.Name x p) (e :: es) [] pos) (tE X.K Φ io (.call f sig cs)) := by
  obtain ⟨k, fa, fd, ps, h1, h2, h3, h4, h5⟩ := C.fns _ hf hs
  subst hx
  have ns' := ns
  rw [List.all_cons, Bool.and_eq_true] at ns'
  refine PE.weak (pe_callG h4 h5 C.gd (gl_ok hg) h1 h2 h3 ha hd (star_cons ns'.1 es X.env) (star_any ns'.2)) fun σ H Q ⟨g, F, env, Q', Rp, w, kk⟩ => ⟨g, F, env, _, Rp, w, fun vs H1 F1 rs env1 l m1 R1 s1 st q1 => ?_⟩
  exact call_ok R1 s1 st q1 fun v H2 F2 r env2 m2 R2 d q => kk v H2 F2 r env2 (m1.trans m2) R2 d q

/-- a module's constant: a whole number -/
theorem e_glb {f : String} {n : Nat} {x : Str} (C : Ctx X L Φ fb) (hf : (f, List.replicate (100 + n) false) ∈ L) (hx : x = Str.ofString f) (hg : gl X.env.scope x = true) (hd : (x == ("__debug__" : Str)) = false) : PE X (.Name x pos) (tE X.K Φ io (.glb f n)) := by
  obtain ⟨u, h1, h2⟩ := C.cst _ hf (by simp)
  have e : ((f, List.replicate (100 + n) false).2.length - 100 : Nat) = n := by simp
  rw [e] at h2
  subst hx
  exact PE.weak (pe_glob (gl_ok hg) h1 h2 hd) fun σ H Q ⟨g, F, env, Q', Rp, w, kk⟩ => kk (.int (n : Int)) H F (.val (.int (n : Int))) env (Same.refl F) Rp (Den.int _) w
/-! ### built-in functions of one and two arguments -/
theorem b1_callR (C : Ctx X L Φ fb) : ∀ f : B1, f ≠ .lenset → f ≠ .sortset → CallR X (b1Val f) (rC1 X.K (b1D f))
  | .len, _, _ => lenR
  | .repr, _, _ => reprR C.sys (Nat.lt_of_le_of_lt (by omega) C.hu) C.gd
  | .sorted, _, _ => sortedR C.calm (Nat.lt_of_le_of_lt (by omega) C.hu)
  | .tuple, _, _ => tupleR
  | .list, _, _ => listR C.calm
  | .min, _, _ => minR C.calm
  | .sum, _, _ => sumR C.calm
  | .all, _, _ => allR C.calm
  | .any, _, _ => anyR C.calm
  | .int, _, _ => intR
  | .lenset, h, _ => absurd rfl h
  | .sortset, _, h => absurd rfl h
  | .sortp, _, _ => sortpR C.calm (by have := C.hu; omega)
theorem pa_one (ha : PE X e (tE X.K Φ io a)) (n : notStar e = true) : PA X [e] (tCons (tE X.K Φ io a) tNil) := pa_cons ha pa_nil (star_cons n [] X.env)
theorem pa_two (ha : PE X e1 (tE X.K Φ io a)) (hb : PE X e2 (tE X.K Φ io b)) (n : notStar e1 = true) (n2 : notStar e2 = true) : PA X [e1, e2] (tCons (tE X.K Φ io a) (tCons (tE X.K Φ io b) tNil)) :=
  pa_cons ha (pa_one hb n2) (star_cons n [e2] X.env)
theorem one_any (n : notStar e = true) : (backTo pos (starEach [e] X.env)).any (·.1) = false := star_any (by simp [n])
theorem e_b1 {f : B1} (C : Ctx X L Φ fb) (hf : f ≠ .lenset) (hf2 : f ≠ .sortset) (hg : gl X.env.scope (Str.ofString (b1Name f)) = true) (ha : PE X e (tE X.K Φ io a)) (n : notStar e = true) :
    PE X (.Call (.Name (Str.ofString (b1Name f)) p) [e] [] pos) (tE X.K Φ io (.b1 f a)) := by
  have hc := b1_callR C f hf hf2
  have fin : ∀ σ H Q, tE X.K Φ io (.b1 f a) σ H Q → tCB (rC1 X.K (b1D f)) (tCons (tE X.K Φ io a) tNil) σ H Q := fun σ H Q ⟨g, F, env, Q', Rp, w, k⟩ => by
    obtain ⟨g', F', env', P, q1, q2, q3⟩ := un_ok (b1D_mono f) Rp w k
    exact ⟨g', F', env', P, q1, q2, fun v H' F' r env' m R' d q => ⟨v, rfl, q3 v H' F' r env' m R' d q⟩⟩
  cases f with
  | lenset => exact absurd rfl hf
  | sortset => exact absurd rfl hf2
  | sortp => exact PE.weak (pe_callB hc (gl_ok hg) (C.blt "sorted" (by decide)) boot_sorted (pa_one ha n) (by decide) (by decide) (star_cons n [] X.env)) fin
  | len => exact PE.weak (pe_callB hc (gl_ok hg) (C.blt "len" (by decide)) boot_len (pa_one ha n) (by decide) (by decide) (star_cons n [] X.env)) fin
  | repr => exact PE.weak (pe_callB hc (gl_ok hg) (C.blt "repr" (by decide)) boot_repr (pa_one ha n) (by decide) (by decide) (star_cons n [] X.env)) fin
  | sorted => exact PE.weak (pe_callB hc (gl_ok hg) (C.blt "sorted" (by decide)) boot_sorted (pa_one ha n) (by decide) (by decide) (star_cons n [] X.env)) fin
  | tuple => exact PE.weak (pe_callTy hc (gl_ok hg) (C.blt "tuple" (by decide)) boot_tuple (pa_one ha n) (by decide) (by decide) (star_cons n [] X.env)) fin
  | list => exact PE.weak (pe_callTy hc (gl_ok hg) (C.blt "list" (by decide)) boot_list (pa_one ha n) (by decide) (by decide) (star_cons n [] X.env)) fin
  | min => exact PE.weak (pe_callB hc (gl_ok hg) (C.blt "min" (by decide)) boot_min (pa_one ha n) (by decide) (by decide) (star_cons n [] X.env)) fin
  | sum => exact PE.weak (pe_callB hc (gl_ok hg) (C.blt "sum" (by decide)) boot_sum (pa_one ha n) (by decide) (by decide) (star_cons n [] X.env)) fin
  | all => exact PE.weak (pe_callB hc (gl_ok hg) (C.blt "all" (by decide)) boot_all (pa_one ha n) (by decide) (by decide) (star_cons n [] X.env)) fin
  | any => exact PE.weak (pe_callB hc (gl_ok hg) (C.blt "any" (by decide)) boot_any (pa_one ha n) (by decide) (by decide) (star_cons n [] X.env)) fin
  | int => exact PE.weak (pe_callTy hc (gl_ok hg) (C.blt "int" (by decide)) boot_int (pa_one ha n) (by decide) (by decide) (star_cons n [] X.env)) fin
def b2Name : B2 → String
  | .max => "max" | .min => "min"
theorem e_b2 {f : B2} (C : Ctx X L Φ fb) (hg : gl X.env.scope (Str.ofString (b2Name f)) = true) (ha : PE X e1 (tE X.K Φ io a)) (hb : PE X e2 (tE X.K Φ io b)) (n : notStar e1 = true) (n2 : notStar e2 = true) :
    PE X (.Call (.Name (Str.ofString (b2Name f)) p) [e1, e2] [] pos) (tE X.K Φ io (.b2 f a b)) := by
  have fin : ∀ σ H Q, tE X.K Φ io (.b2 f a b) σ H Q → tCB (rC2 X.K (b2D f)) (tCons (tE X.K Φ io a) (tCons (tE X.K Φ io b) tNil)) σ H Q := fun σ H Q ⟨g, F, env, Q', Rp, w, k⟩ => by
    refine two_ (Qv := fun v1 v2 H2 => rC2 X.K (b2D f) [v1, v2] H2 Q) Rp w fun v1 v2 H' F' r1 r2 env' m R' s1 s2 q => ?_
    obtain ⟨d1, w1, q⟩ := pk_view R' s1 q
    obtain ⟨d2, w2, q⟩ := pk_view R' s2 q
    refine ⟨v1, v2, rfl, F', d1, d2, R'.sub, w1, w2, b2D_mono f _ _ _ _ (fun r hr v H2 o => ?_) q⟩
    obtain ⟨F2, m2, R2, dn⟩ := out_ok R' o
    exact k v H2 F2 r env' (m.trans m2) R2 dn hr
  have hs := star_cons n [e2] X.env
  cases f with
  | max => exact PE.weak (pe_callB (b2R .max C.calm) (gl_ok hg) (C.blt "max" (by decide)) boot_max (pa_two ha hb n n2) (by decide) (by decide) hs (one_any n2)) fin
  | min => exact PE.weak (pe_callB (b2R .min C.calm) (gl_ok hg) (C.blt "min" (by decide)) boot_min (pa_two ha hb n n2) (by decide) (by decide) hs (one_any n2)) fin

/-! ### isinstance -/
theorem boot_ty (t : Ty) : bootBuiltins (Str.ofString (tyS t)) = some (.type (tyS t)) := by cases t <;> decide +kernel
theorem ty_in (t : Ty) : tyS t ∈ bltNames := by cases t <;> decide
theorem pe_tyN (C : Ctx X L Φ fb) {t : Ty} (hg : gl X.env.scope (Str.ofString (tyS t)) = true) : PE X (.Name (Str.ofString (tyS t)) p) (tC (.ty (tyS t))) :=
  pe_bltn (gl_ok hg) (C.blt _ (ty_in t)) (boot_ty t) rfl (by cases t <;> decide) (by cases t <;> decide)
/-- the names of classes -/
def mTys (sc : Scope) : List Ty → List Expr → Bool
  | [], [] => true
  | t :: ts, .Name x _ :: es => decide (x = Str.ofString (tyS t)) && gl sc x && mTys sc ts es
  | _, _ => false
theorem pa_tys (C : Ctx X L Φ fb) : ∀ {ts : List Ty} {es : List Expr}, mTys X.env.scope ts es = true → PA X es fun σ H Qs => Qs (ts.map fun t => V.ty (tyS t)) H
  | [], [], _ => PA.weak pa_nil fun _ _ _ q => q
  | [], e :: es, h => by simp [mTys] at h
  | t :: ts, [], h => by simp [mTys] at h
  | t :: ts, e :: es, h => by
    cases e <;> simp [mTys] at h
    obtain ⟨⟨rfl, h1⟩, h2⟩ := h
    exact PA.weak (pa_cons (pe_tyN C h1) (pa_tys C h2) rfl) fun _ _ _ q => q
theorem e_isi1 (C : Ctx X L Φ fb) {t : Ty} (hi : gl X.env.scope ("isinstance" : Str) = true) (hg : gl X.env.scope (Str.ofString (tyS t)) = true) (ha : PE X e (tE X.K Φ io a)) (n : notStar e = true) :
    PE X (.Call (.Name "isinstance" p) [e, .Name (Str.ofString (tyS t)) p2] [] pos) (tE X.K Φ io (.isi a [t])) :=
  PE.weak (pe_callB (isiR [t] t rfl) (gl_ok hi) (C.blt "isinstance" (by decide)) boot_isinstance (pa_cons ha (pa_cons (pe_tyN C hg) pa_nil rfl) (star_cons n _ X.env)) (by decide) (by decide) (star_cons n _ X.env) rfl) fun σ H Q ⟨g, F, env, Q', Rp, w, k⟩ =>
    one_ Rp w fun v H' F' r env' m R' s q => by
      obtain ⟨d, vw, q⟩ := pk_view R' s q
      exact ⟨v, F', d, rfl, R'.sub, vw, k _ H' F' (.val (.bool _)) env' m R' (Den.bl _) q⟩
theorem e_isi (C : Ctx X L Φ fb) {ts : List Ty} {n' : Nat} (hi : gl X.env.scope ("isinstance" : Str) = true) (hg : mTys X.env.scope ts es = true) (hl : ts.length ≤ 1000) (ha : PE X e (tE X.K Φ io a)) (n : notStar e = true) :
    PE X (.Call (.Name "isinstance" p) [e, .Tuple es n' p2] [] pos) (tE X.K Φ io (.isi a ts)) :=
  PE.weak (pe_callB (isiTR ts) (gl_ok hi) (C.blt "isinstance" (by decide)) boot_isinstance (pa_cons ha (pa_cons (pe_tup (pa_tys C hg)) pa_nil rfl) (star_cons n _ X.env)) (by decide) (by decide) (star_cons n _ X.env) rfl) fun σ H Q ⟨g, F, env, Q', Rp, w, k⟩ =>
    one_ Rp w fun v H' F' r env' m R' s q => by
      obtain ⟨d, vw, q⟩ := pk_view R' s q
      refine ⟨by rw [List.length_map, sizeLine_eq]; omega, fun tp htp => ?_⟩
      have R2 := R'.lay (o := .tup (ts.map fun t => V.ty (tyS t))) htp
      exact ⟨v, F', d, tp, rfl, upd_same, R2.sub, vw.grow (same_add htp), k _ _ F' (.val (.bool _)) env' m R2 (Den.bl _) q⟩
end
end Co

set_option linter.all false
/-! Co39: set(l) of a list of ints. -/
namespace Co
open PySem PySem.Spec PyProof.Rows L2
abbrev newSet (w : World) : Obj := { cls := .type "set", dict := none, data := .set #[] 0 (.fresh 0 0 (!w.params.followText "set-order")) }
section
variable {P : Program} {w : World} {A : Around} {E : Value → Shared → Prop} {s : Shared}
theorem set_listI {l : Addr} {items : Array Value} (ns : List Int) {Q : Value → Shared → Prop} (hh : A.handled = none) (hl : s.heap.IsList l items) (hit : IntsAre items.toList ns) (hb : ns.length + 1 < scanBound)
    (h : ∀ (h' : Heap) (tk c : Nat), SetR w h' s.heap.objs.size (fun j => decide (j ∈ ns)) c → c ≤ ns.length → (∀ b o, s.heap.get? b = some o → h'.get? b = some o) → Q (.ref s.heap.objs.size) { s with heap := h', toks := tk }) :
    wpAny (model P w) A (call (.type "set") [.ref l]) Q E s := by
  have hisz : items.size = ns.length := (Array.length_toList (xs := items)).symm.trans (IntsAre.length hit)
  obtain ⟨c, tl, cm⟩ := F.called_set.mro
  have cd := F.called_set.made
  have cs := F.called_set.sub
  refine wpAny_call (codeAny_of_tree ?_)
  show wpAny _ _ (callAny (.type "set") _) _ _ _
  refine wpAny_pure ⟨Code.quiet_builtin _ (by decide +kernel), codeAny_builtin F.entry_type_call ?_⟩
  rw [Around.under_plain (weight_type_call_type "set" [.ref l] []) rfl]
  have c1 := F.called_set.notType
  have c2 := F.called_set.canCreate
  have c3 := F.typeCall_set_1 (.ref l)
  repeat (any_goals (first | assumption | wp_step))
  refine codeAny_mono (code_set_led1 (.ref l) (E := E) (Q₁ := fun obj t => obj = .ref s.heap.objs.size ∧ t = { s with heap := s.heap.push (newSet w) }) ⟨rfl, rfl⟩) fun r t ht => ?_
  cases r with
  | error e => exact ht
  | ok fl =>
    cases fl with
    | ret obj =>
      obtain ⟨rfl, rfl⟩ := ht
      have hS : (s.heap.push (newSet w)).get? s.heap.objs.size = some (newSet w) := Heap.get?_push_size _ rfl
      have hT : Shared.TypeIs { s with heap := s.heap.push (newSet w) } (.ref s.heap.objs.size) "set" := ⟨_, hS, rfl⟩
      have i1 := F.called_set.init.lookup
      have i2 := F.called_set.init.bind (.ref s.heap.objs.size)
      repeat (any_goals (first | assumption | wp_step))
      refine codeAny_mono (codeAny_call_builtin (R := wants (fun r u => r = .none ∧ ∃ h' tk c, u = { s with heap := h', toks := tk } ∧ SetR w h' s.heap.objs.size (fun j => decide (j ∈ ns)) c ∧ c ≤ ns.length ∧
          (∀ b o, s.heap.get? b = some o → h'.get? b = some o)) E) F.called_set.init.plain F.entry_set_init (check_set_init_1 hT ?_)) fun r₂ u hu => ?_
      · obtain ⟨⟨lc, ld, lx, ls⟩, hol, hcl, nl, hdl⟩ := hl
        simp only at hcl hdl
        subst hcl
        subst hdl
        have holP : (s.heap.push (newSet w)).get? l = some { cls := .type "list", dict := ld, data := .seq items nl, slots := ls } := Heap.get?_push_of_some _ hol
        have f1 := F.sub_list_set
        have f2 := F.sub_list_frozenset
        have f3 : (Value.type "list" == Value.type "dict") = false := by decide
        have hlP : (s.heap.push (newSet w)).IsList l items := ⟨_, holP, rfl, nl, rfl⟩
        unfold Builtin.«set.__init__» noKeywords Builtin.Frozenset.updateFrom
        generalize hIt : pyIter = It
        wp_walk
        subst hIt
        refine wpAny_pyIter_list hlP ?_
        refine wpAny_bind (wpAny_runValue ?_)
        have ls : l < s.heap.objs.size := Heap.lt_size hol
        have hz : (s.heap.push (newSet w)).objs.size = s.heap.objs.size + 1 := Heap.size_push ..
        have hne : l ≠ (s.heap.push (newSet w)).objs.size := by rw [hz]; exact Nat.ne_of_lt (Nat.lt_succ_of_lt ls)
        have hSf : s.heap.objs.size ∉ [(s.heap.push (newSet w)).objs.size, l] := by
          rw [hz]
          intro hm
          rcases List.mem_cons.mp hm with e | hm
          · exact absurd e (Nat.ne_of_lt (Nat.lt_succ_self _))
          · exact absurd (List.mem_singleton.mp hm) (Nat.ne_of_gt ls)
        have hval : ∀ (i : Nat) (v : Value), items[i]? = some v → ∃ k t, ns[i]? = some k ∧ v = .int k t := fun i v hv => by
          obtain ⟨t, e⟩ := PyProof.Rows.IntsAre.int_at hit i v (by rw [Array.getElem?_toList]; exact hv)
          have hi : i < ns.length := by rw [← hisz]; exact (Array.getElem?_eq_some_iff.mp hv).1
          refine ⟨ns[i], t, List.getElem?_eq_getElem hi, ?_⟩
          rw [e, List.getD_eq_getElem?_getD, List.getElem?_eq_getElem hi] <;> rfl
        refine set_update_ints ((Walks.list (show A.in1.in1.in1.handled = none by simp [hh]) _ l hne items).toS) s.heap.objs.size hSf ns hisz hb hval (items.size - 0) 0 _ (by omega) (Nat.zero_le _)
          ⟨⟨_, Heap.get?_push_size _ rfl, rfl, rfl⟩, (hlP.push _)⟩ ⟨0, Nat.le_refl 0, setR_new_at (Heap.get?_push_of_some _ hS)⟩ fun t c' hm hc' hS' => ?_
        obtain ⟨h', tg, td, tk', to⟩ := t
        have e1 : tg = s.gens := hm.gens
        have e2 : td = s.drawn := hm.drawn
        have e3 : to = s.os := hm.os
        subst e1 e2 e3
        show wpAny _ _ _ _ _ _
        refine wpAny_pure ?_
        show wpAny _ _ (ret Value.none) _ _ _
        rw [hisz] at hc'
        refine wpAny_pure ⟨rfl, h', tk', c', rfl, hS', hc', fun b o e => hm.heap b o (fun hmem => ?_) (Heap.get?_push_of_some _ (Heap.get?_push_of_some _ e))⟩
        have lb : b < s.heap.objs.size := Heap.lt_size e
        rw [hz] at hmem
        rcases List.mem_cons.mp hmem with e | hmem
        · exact absurd e (Nat.ne_of_lt lb)
        · exact absurd (List.mem_singleton.mp hmem) (Nat.ne_of_lt (Nat.lt_succ_of_lt lb))
      · cases r₂ with
        | error e => exact hu
        | ok fl₂ =>
          cases fl₂ with
          | ret r =>
            obtain ⟨rfl, h', tk, c, rfl, hS, hc, hk⟩ := hu
            repeat (any_goals (first | assumption | wp_step))
            exact h h' tk c hS hc hk
          | _ => exact hu.elim
    | _ => exact ht.elim
end
end Co

set_option linter.all false
/-! Co24: len(set(t)), sorted(set(t)), t a tuple of ints. -/
namespace Co
open PySem PySem.Spec PyProof.Rows L2
section
variable {X : Cx} {L : List (String × List Bool)} {Φ : Tbl} {fb : Str → Bool} {io : List Nat} {e : Expr} {a : E} {pos p p2 q : Pos}
def tSetLen (K : Frag) (te : TE) : TE := fun σ H Q => te σ H fun x H1 => ∃ (l : Addr) (ns : List Int), x = .ref l ∧ (SqT K H1 l (ns.map V.int) ∨ SqL K H1 l (ns.map V.int)) ∧ ns.length ≤ 4000 ∧ ∀ ks : List Int, ks.Nodup → (∀ k, k ∈ ks ↔ k ∈ ns) → Q (.int (ks.length : Nat)) H1
def tSetSort (K : Frag) (te : TE) : TE := fun σ H Q => te σ H fun x H1 => ∃ (l : Addr) (ns : List Int), x = .ref l ∧ (SqT K H1 l (ns.map V.int) ∨ SqL K H1 l (ns.map V.int)) ∧ ns.length ≤ 63 ∧ ∀ (ms : List Int) (p : Addr), ms.Pairwise (· < ·) → (∀ k, k ∈ ms ↔ k ∈ ns) → H1 p = none → Q (.ref p) (upd H1 p (.lst (ms.map V.int)))
theorem set_any {pins : List (Addr × Obj)} {σ : L2.St} {H1 : Hp} {s1 : Shared} {l : Addr} {ns : List Int} {Q1 : Value → Shared → Prop} (I1 : Inv X pins σ H1 s1) (hc : X.calm = true) (hq : SqT X.K H1 l (ns.map V.int) ∨ SqL X.K H1 l (ns.map V.int)) (hl : ns.length ≤ 4000)
    (h : ∀ (h' : Heap) (tk c : Nat), SetR X.w h' s1.heap.objs.size (fun j => decide (j ∈ ns)) c → c ≤ ns.length → (∀ b o, s1.heap.get? b = some o → h'.get? b = some o) → Q1 (.ref s1.heap.objs.size) { s1 with heap := h', toks := tk }) :
    wpAny (model X.prog X.w) X.A (call (.type "set") [.ref l]) Q1 X.xe s1 := by
  rcases hq with hq | hq
  · obtain ⟨its, r, pl, hz⟩ := I1.tuple hq
    exact call_set_tupI ns (I1.ok.hd hc) (show s1.heap.IsTuple l its.toArray from pl) (ints_of_vals (by simpa using r)) (by unfold scanBound; omega) h
  · obtain ⟨its, r, pl, hz⟩ := I1.list hq
    exact set_listI ns (I1.ok.hd hc) pl.isList (ints_of_vals (by simpa using r)) (by unfold scanBound; omega) h
theorem pe_setLen {ta : TE} (hc : X.calm = true) (hg : Gl X "len") (hm : X.mg "len" = none) (hg2 : Gl X "set") (hm2 : X.mg "set" = none) (ha : PE X e ta)
    (na : starEach [e] X.env = (false, eval e X.env) :: starEach [] X.env) : PE X (.Call (.Name "len" p) [.Call (.Name "set" p2) [e] [] q] [] pos) (tSetLen X.K ta) := by
  refine ⟨fun pins s σ H Q I h => ?_⟩
  refine Call_ (ld_blt I hg hm boot_len ?_)
  refine PyProof.Rows.callWith_builtin1 (PyProof.Rows.args_cons ?_ rfl) rfl rfl
  refine Call_ (ld_blt I hg2 hm2 PyProof.Rows.boot_set ?_)
  refine PyProof.Rows.callWith_type1 (PyProof.Rows.args_cons (thn (ha.run pins s σ H _ I h) fun v s1 ⟨x, H1, I1, r1, q1⟩ => PyProof.Rows.args_nil ?_) na) na rfl
  obtain ⟨l, ns, rfl, hq, hl, q1⟩ := q1
  cases r1
  have hset : ∀ {Q1 : Value → Shared → Prop}, (∀ (h' : Heap) (tk c : Nat), SetR X.w h' s1.heap.objs.size (fun j => decide (j ∈ ns)) c → c ≤ ns.length → (∀ b o, s1.heap.get? b = some o → h'.get? b = some o) → Q1 (.ref s1.heap.objs.size) { s1 with heap := h', toks := tk }) →
      wpAny (model X.prog X.w) X.A (call (.type "set") [.ref l]) Q1 X.xe s1 := fun hq1 => set_any I1 hc hq (by omega) hq1
  refine hset fun h' tk c R hcn k => ?_
  refine PyProof.Rows.args_nil ?_
  obtain ⟨o, es, ep, t, ho, hex, hd, g, nd, hm3, hb, hf, hn, hr, hl2⟩ := R
  have I2 : Inv X pins σ H1 { s1 with heap := h', toks := tk } := I1.kept k
  have e2 : ((es.toList.map keyOf).length : Nat) = c := by rw [List.length_map, Array.length_toList, hn]
  refine call_len_set ho hex hd hf (by rw [hn]; omega) ⟨.int ((es.toList.map keyOf).length : Nat), H1, I2.tok _, ⟨_, by rw [e2, hn]⟩, q1 _ nd fun k => ?_⟩
  rw [← hm3 k, decide_eq_true_eq]
theorem sorted_of {pins : List (Addr × Obj)} {σ : L2.St} {H : Hp} {s : Shared} {a : Addr} {S : Int → Bool} {n : Nat} {Q : VK} (hc : X.calm = true) (I : Inv X pins σ H s) (R : SetR X.w s.heap a S n) (h64 : n < 64)
    (q : ∀ (ns : List Int) (p : Addr), ns.Pairwise (· < ·) → (∀ k : Int, k ∈ ns ↔ S k = true) → H p = none → Q (.ref p) (upd H p (.lst (ns.map V.int)))) :
    wpAny (model X.prog X.w) X.A (call (.builtin "sorted") [.ref a]) (EP X pins σ Q) X.xe s := by
  refine sorted_set R (I.ok.hd hc) h64 fun s' p out c ns k g o hp hg hi hs hm hl => ?_
  have hlen : (ns.map V.int).length ≤ sizeLine := by rw [List.length_map, hl, sizeLine_eq]; omega
  have hn : H p = none := I.hok.fresh hp
  have J : Inv X pins σ (upd H p (.lst (ns.map V.int))) { s with heap := s'.heap, gens := s'.gens, drawn := s'.drawn, toks := s'.toks } :=
    I.call (ch := []) (Un.laid k hp hn) (I.hok.laid k hp ⟨hlen, out.toList, c, vals_of_ints hi, hg⟩) (by rw [g]; exact I.bare) (fun _ z => nomatch z)
  have e : s' = { s with heap := s'.heap, gens := s'.gens, drawn := s'.drawn, toks := s'.toks } := by
    cases s'
    cases s
    cases o
    rfl
  rw [e]
  exact ⟨.ref p, _, J, rfl, q ns p hs hm hn⟩
theorem pe_setSort {ta : TE} (hc : X.calm = true) (hg : Gl X "sorted") (hm : X.mg "sorted" = none) (hg2 : Gl X "set") (hm2 : X.mg "set" = none) (ha : PE X e ta)
    (na : starEach [e] X.env = (false, eval e X.env) :: starEach [] X.env) : PE X (.Call (.Name "sorted" p) [.Call (.Name "set" p2) [e] [] q] [] pos) (tSetSort X.K ta) := by
  refine ⟨fun pins s σ H Q I h => ?_⟩
  refine Call_ (ld_blt I hg hm boot_sorted ?_)
  refine PyProof.Rows.callWith_builtin1 (PyProof.Rows.args_cons ?_ rfl) rfl rfl
  refine Call_ (ld_blt I hg2 hm2 PyProof.Rows.boot_set ?_)
  refine PyProof.Rows.callWith_type1 (PyProof.Rows.args_cons (thn (ha.run pins s σ H _ I h) fun v s1 ⟨x, H1, I1, r1, q1⟩ => PyProof.Rows.args_nil ?_) na) na rfl
  obtain ⟨l, ns, rfl, hq, hl, q1⟩ := q1
  cases r1
  refine set_any I1 hc hq (by omega) fun h' tk c R hcn k => ?_
  refine PyProof.Rows.args_nil ?_
  have I2 : Inv X pins σ H1 { s1 with heap := h', toks := tk } := I1.kept k
  refine sorted_of hc I2 R (by omega) fun ms p h1 h2 h3 => q1 ms p h1 (fun k => ?_) h3
  rw [h2 k, decide_eq_true_eq]
theorem e_lenset (C : Ctx X L Φ fb) (hg : gl X.env.scope ("len" : Str) = true) (hg2 : gl X.env.scope ("set" : Str) = true) (ha : PE X e (tE X.K Φ io a)) (n : notStar e = true) :
    PE X (.Call (.Name "len" p) [.Call (.Name "set" p2) [e] [] q] [] pos) (tE X.K Φ io (.b1 .lenset a)) :=
  PE.weak (pe_setLen C.calm (gl_ok hg) (C.blt "len" (by decide)) (gl_ok hg2) (C.blt "set" (by decide)) ha (star_cons n [] X.env)) fun σ H Q ⟨g, F, env, Q', Rp, w, k⟩ =>
    one_ Rp w fun v H' F' r env' m R' s q => by
      obtain ⟨d, vw, q⟩ := pk_view R' s q
      unfold b1D at q
      cases d <;> simp only at q <;> first | exact q.elim | skip
      · obtain ⟨a, xs, rfl, h, t⟩ := vw
        obtain ⟨ns, e, l, q⟩ := q
        have ex := ints_den e t
        subst ex
        refine ⟨a, ns, rfl, .inr h, l, fun ks h1 h2 => ?_⟩
        obtain ⟨F2, m2, R2, dn⟩ := out_ok R' (Out.int (i := ((ks.length : Nat) : Int)))
        exact k _ _ F2 _ env' (m.trans m2) R2 dn (q ks h1 h2)
      · obtain ⟨a, xs, rfl, h, t⟩ := vw
        obtain ⟨ns, e, l, q⟩ := q
        have ex := ints_den e t
        subst ex
        refine ⟨a, ns, rfl, .inl (same_sqT R'.sub h), l, fun ks h1 h2 => ?_⟩
        obtain ⟨F2, m2, R2, dn⟩ := out_ok R' (Out.int (i := ((ks.length : Nat) : Int)))
        exact k _ _ F2 _ env' (m.trans m2) R2 dn (q ks h1 h2)
theorem e_sortset (C : Ctx X L Φ fb) (hg : gl X.env.scope ("sorted" : Str) = true) (hg2 : gl X.env.scope ("set" : Str) = true) (ha : PE X e (tE X.K Φ io a)) (n : notStar e = true) :
    PE X (.Call (.Name "sorted" p) [.Call (.Name "set" p2) [e] [] q] [] pos) (tE X.K Φ io (.b1 .sortset a)) :=
  PE.weak (pe_setSort C.calm (gl_ok hg) (C.blt "sorted" (by decide)) (gl_ok hg2) (C.blt "set" (by decide)) ha (star_cons n [] X.env)) fun σ H Q ⟨g, F, env, Q', Rp, w, k⟩ =>
    one_ Rp w fun v H' F' r env' m R' s q => by
      obtain ⟨d, vw, q⟩ := pk_view R' s q
      unfold b1D at q
      cases d <;> simp only at q <;> first | exact q.elim | skip
      · obtain ⟨a, xs, rfl, h, t⟩ := vw
        obtain ⟨ns, e, l, q⟩ := q
        have ex := ints_den e t
        subst ex
        refine ⟨a, ns, rfl, .inr h, l, fun ms p h1 h2 h3 => ?_⟩
        obtain ⟨F2, m2, R2, dn⟩ := out_ok R' (.own (d := .list (ms.map .int)) h3 ⟨_, upd_same, DenAll.of_ints _⟩)
        exact k _ _ F2 _ env' (m.trans m2) R2 dn (q ms h1 h2)
      · obtain ⟨a, xs, rfl, h, t⟩ := vw
        obtain ⟨ns, e, l, q⟩ := q
        have ex := ints_den e t
        subst ex
        refine ⟨a, ns, rfl, .inl (same_sqT R'.sub h), l, fun ms p h1 h2 h3 => ?_⟩
        obtain ⟨F2, m2, R2, dn⟩ := out_ok R' (.own (d := .list (ms.map .int)) h3 ⟨_, upd_same, DenAll.of_ints _⟩)
        exact k _ _ F2 _ env' (m.trans m2) R2 dn (q ms h1 h2)
end
end Co

set_option linter.all false
/-! Co11: methods of lists and dicts, reversed slices. -/
namespace Co
open PySem PySem.Spec PyProof.Rows L2

section
variable {K : Frag} {F F' H H' : Hp} {io : List Nat} {g : Gh} {env : Env} {σ : L2.St}
theorem Rep.setC {i : Nat} {d0 d : PyData} {p : Addr} {o : HO} (R : Rep K io g env σ F H) (h : slC (slot env i) = some d0) (hp : σ[i]? = some (some (.ref p))) (ho : OwnAt K F (upd H p o) p d) : Rep K io g (setC env i d) σ F (upd H p o) := by
  obtain ⟨p', a, b, c, t, z⟩ := R.mine h
  rw [hp] at a; cases a
  have key : ∀ {j s}, slot (Co.setC env i d) j = some s → (i = j ∧ ((∃ e, slot env i = some (.io e)) ∧ s = .io d ∨ (∃ e, slot env i = some (.own e)) ∧ s = .own d)) ∨ (i ≠ j ∧ slot env j = some s) := fun {j s} q => by
    rw [slot_setC h] at q
    by_cases e : i = j
    · rw [if_pos e] at q
      rcases slC_some h with hs | hs
      · rw [hs] at q; cases q; exact .inl ⟨e, .inr ⟨⟨_, hs⟩, rfl⟩⟩
      · rw [hs] at q; cases q; exact .inl ⟨e, .inl ⟨⟨_, hs⟩, rfl⟩⟩
    · rw [if_neg e] at q; exact .inr ⟨e, q⟩
  refine R.change b z setC_length (fun j e q => ?_) (fun j e q => ?_) (fun j e q => ?_) (fun j hj => ?_) t
  · rcases key q with ⟨_, ⟨_, w⟩ | ⟨_, w⟩⟩ | ⟨_, w⟩
    · cases w
    · cases w
    · exact w
  · rcases key q with ⟨rfl, ⟨_, w⟩ | ⟨⟨e', w'⟩, w⟩⟩ | ⟨n, w⟩
    · cases w
    · cases w; exact .inr ⟨⟨_, w'⟩, hp, ho⟩
    · exact .inl ⟨w, fun y => n (R.apart h (by rw [w]; rfl) hp y)⟩
  · rcases key q with ⟨rfl, ⟨⟨e', w'⟩, w⟩ | ⟨_, w⟩⟩ | ⟨n, w⟩
    · cases w
      obtain ⟨p', x, _⟩ := R.ios i e' w'
      have x' := (R.ins _ x).1
      rw [hp] at x'; cases x'
      exact .inr ⟨x, ho⟩
    · cases w
    · exact .inl ⟨w, fun y => n (R.apart h (by rw [w]; rfl) hp (R.ins _ y).1)⟩
  · have : ∃ e, slot env j = some (.io e) := by
      rw [← R.insI] at hj
      obtain ⟨w, hw, rfl⟩ := List.mem_map.mp hj
      exact (R.ins w hw).2.1
    obtain ⟨e, he⟩ := this
    by_cases e' : i = j
    · subst e'
      exact ⟨d, by rw [slot_setC h, if_pos rfl, he]⟩
    · exact ⟨e, by rw [slot_setC h, if_neg e']; exact he⟩
theorem isLst_some {s : Option PyData} (h : isLst s = true) : ∃ ds, s = some (.list ds) := by
  unfold isLst at h
  split at h
  · exact ⟨_, rfl⟩
  · cases h
end

section
variable {X : Cx} {L : List (String × List Bool)} {Φ : Tbl} {fb : Str → Bool} {io : List Nat} {e e1 e2 e3 : Expr} {es : List Expr} {a b c : E} {cs : Es} {pos p p2 apos cpos : Pos} {i j : Nat} {x : Str}
theorem pe_name (h : mVis X.N X.env.scope i x = true) : PE X (.Name x pos) (tVar i) :=
  let ⟨h1, h2, h3, h4⟩ := mVis_ok h
  pe_var h1 h2 h3 h4
theorem few1 (n : notStar e = true) : ((backTo cpos (starEach [e] X.env)).all (fun x => !x.1) && (backToKw cpos (keywordEach [] X.env)).all (fun x => x.1.isSome)
      && decide (([e] : List Expr).length + ([] : List Keyword).length + (if ([] : List Keyword).isEmpty then 0 else 1) < 30)) = true := by
  rw [star_all (by simp [n])]; rfl
theorem e_append (hv : mVis X.N X.env.scope i x = true) (ha : PE X e (tE X.K Φ io a)) (n : notStar e = true) (hl : (apos.endLine == cpos.line) = true) :
    PE X (.Call (.Attribute (.Name x p) "append" apos) [e] [] cpos) (tE X.K Φ io (.append i a)) :=
  PE.weak (pe_bm PySem.F.plainAttrs_list PySem.F.slot_list_append PySem.F.type_list_append mt_append (pe_name hv) (pa_one ha n) rfl (few1 n) hl (star_cons n [] X.env) rfl) fun σ H Q ⟨g, F, env, Q', Rp, ⟨hi, w⟩, k⟩ => by
    obtain ⟨ds, hd⟩ := isLst_some hi
    obtain ⟨q, h1, h2, ⟨vs, h3, h4⟩, _⟩ := Rp.mine hd
    refine ⟨.ref q, h1, .inl ⟨rfl, vs, .inl (.inl h3)⟩, one_ Rp w fun v H' F' r env' m R' s q => ?_⟩
    obtain ⟨d, env2, F2, m2, R2, dn, q⟩ := asV_ok R' s q
    split at q
    case h_1 ds2 hd2 =>
      obtain ⟨q', g1, g2, ⟨vs2, g3, g4⟩, _⟩ := R2.mine hd2
      rw [h1] at g1; cases g1
      refine ⟨_, vs2, v, rfl, rfl, g3, ?_, ?_⟩
      · rw [g4.length]; have := q.1; rw [sizeLine_eq]; exact this
      · exact k _ _ F2 (.val .none) _ (m.trans m2) (R2.setC (d := .list (ds2 ++ [d])) hd2 h1 ⟨_, upd_same, g4.append (.cons dn .nil)⟩) Den.non q.2
    case h_2 => exact q.elim
/-- f(..).append(None) -/
theorem e_appx (ha : PE X e (tE X.K Φ io a)) (hbase : attributeBase e "append" X.env (eval e X.env) = eval e X.env) (hl : (apos.endLine == cpos.line) = true) :
    PE X (.Call (.Attribute e "append" apos) [.Constant .none j p] [] cpos) (tE X.K Φ io (.appx a)) :=
  PE.weak (pe_bm PySem.F.plainAttrs_list PySem.F.slot_list_append PySem.F.type_list_append mt_append ha (pa_cons pe_non pa_nil rfl) hbase rfl hl rfl rfl) fun σ H Q ⟨g, F, env, Q', Rp, w, k⟩ =>
    ⟨g, F, env, _, Rp, w, fun v H1 F1 r env1 m1 R1 d q => by
      split at q
      case h_2 => exact q.elim
      case h_1 ds =>
        obtain ⟨p, rfl, hF, ⟨vs, h3, h4⟩, h0, ht, ho⟩ := d
        have hi : ∀ i, (i, p) ∉ g.ins := fun i z => by
          obtain ⟨_, _, w, hw⟩ := R1.ins _ z
          rw [show g.H0 p = some w from hw] at h0; cases h0
        refine ⟨.inl ⟨rfl, vs, .inl (.inl h3)⟩, _, vs, .non, rfl, rfl, h3, ?_, ?_⟩
        · rw [h4.length, sizeLine_eq]; exact q.1
        · refine k .non _ F1 (.val .none) env1 m1 (R1.change hF (.inl h0) rfl (fun _ _ q => q) (fun i d q => .inl ⟨q, ho i d q⟩) (fun i d q => .inl ⟨q, hi i⟩) (fun i hi' => by
            rw [← R1.insI] at hi'
            obtain ⟨w, hw, rfl⟩ := List.mem_map.mp hi'
            exact (R1.ins w hw).2.1) ht) Den.non q.2⟩
end

/-! ### extend -/
theorem ext_list (l : Addr) (items : Array Value) (n : Nat) (b : Addr) (dd : Option Addr) (sl : Array (Option Value)) (items2 : Array Value) (n2 : Nat) (hs0 : ¬(!items.isEmpty && Builtin.List.listTooLong (items.size + items2.size)) = true) (hs1 : items.size ≤ sizeLine) (hs2 : items.size + items2.size ≤ sizeLine + 1) :
    Meets (Builtin.«list.extend» ⟨[.ref l, .ref b], []⟩) (fun _ R s => s.heap.get? l = some { cls := .type "list", dict := none, data := .seq items n, slots := #[] } ∧ s.heap.get? b = some { cls := .type "list", dict := dd, data := .seq items2 n2, slots := sl } ∧ R (.ok (.ret Value.none)) { s with heap := s.heap.update l (Obj.mapSeq fun x => x ++ items2), toks := s.toks }) :=
  .of_wp fun prog w A R s h => by
    obtain ⟨hp, g, d, tk, os⟩ := s
    obtain ⟨hl, hb, h⟩ := h
    have f1 := AutoSeq1.idx_int; have f2 := AutoSeq1.sub_tuple_tuple; have f3 := AutoSeq1.sub_list_list; have f4 := AutoSeq1.sub_tuple_list; have f5 := AutoSeq1.sub_list_tuple
    have hz' : (items ++ items2).size ≤ sizeLine + 1 := by rw [Array.size_append]; exact hs2
    wp_walk using (wpAny_updateSeq hl rfl (hz := hs1) (_hz' := hz')), AutoSeq1.wpAny_loadPart' hl, AutoSeq1.wpAny_loadPart' hb
    exact ⟨_, rfl, h⟩
theorem ext_tup (l : Addr) (items : Array Value) (n : Nat) (b : Addr) (dd : Option Addr) (sl : Array (Option Value)) (items2 : Array Value) (n2 : Nat) (hs0 : ¬(!items.isEmpty && Builtin.List.listTooLong (items.size + items2.size)) = true) (hs1 : items.size ≤ sizeLine) (hs2 : items.size + items2.size ≤ sizeLine + 1) :
    Meets (Builtin.«list.extend» ⟨[.ref l, .ref b], []⟩) (fun _ R s => s.heap.get? l = some { cls := .type "list", dict := none, data := .seq items n, slots := #[] } ∧ s.heap.get? b = some { cls := .type "tuple", dict := dd, data := .seq items2 n2, slots := sl } ∧ R (.ok (.ret Value.none)) { s with heap := s.heap.update l (Obj.mapSeq fun x => x ++ items2), toks := s.toks }) :=
  .of_wp fun prog w A R s h => by
    obtain ⟨hp, g, d, tk, os⟩ := s
    obtain ⟨hl, hb, h⟩ := h
    have f1 := AutoSeq1.idx_int; have f2 := AutoSeq1.sub_tuple_tuple; have f3 := AutoSeq1.sub_list_list; have f4 := AutoSeq1.sub_tuple_list; have f5 := AutoSeq1.sub_list_tuple
    have hz' : (items ++ items2).size ≤ sizeLine + 1 := by rw [Array.size_append]; exact hs2
    wp_walk using (wpAny_updateSeq hl rfl (hz := hs1) (_hz' := hz')), AutoSeq1.wpAny_loadPart' hl, AutoSeq1.wpAny_loadPart' hb
    exact ⟨_, rfl, h⟩

section
variable {X : Cx} {L : List (String × List Bool)} {Φ : Tbl} {fb : Str → Bool} {io : List Nat} {e e1 e2 e3 : Expr} {es : List Expr} {a b c : E} {cs : Es} {pos p p2 apos cpos : Pos} {i : Nat} {x : Str}
def rExt (K : Frag) : V → List V → Hp → VK → Prop := fun x vs H Q => ∃ l b xs zs, x = .ref l ∧ vs = [.ref b] ∧ H l = some (.lst xs) ∧ (SqL K H b zs ∨ SqT K H b zs) ∧ xs.length + zs.length ≤ sizeLine ∧ Q .non (upd H l (.lst (xs ++ zs)))
theorem mt_ext : MtM X "list.extend" (rExt X.K) := by
  intro pins s σ H x vs v us Q I rx rv h
  obtain ⟨l, b, xs, zs, rfl, rfl, hH, hB, hz, q⟩ := h
  cases rx
  obtain ⟨u, rfl, ru⟩ := rv.one
  cases ru
  obtain ⟨z, its, n, r, hl, e⟩ := I.lstM hH
  have fin : ∀ (its2 : List Value), Vals zs its2 → (its.toArray.size + its2.toArray.size ≤ sizeLine → ¬ (!its.toArray.isEmpty && Builtin.List.listTooLong (its.toArray.size + its2.toArray.size)) = true → its.toArray.size ≤ sizeLine →
      Inv X pins σ (upd H l (.lst (xs ++ zs))) { s with heap := s.heap.update l (Obj.mapSeq fun x => x ++ its2.toArray), toks := s.toks } → wpAny (model X.prog X.w) X.A (call (.builtin "list.extend") [.ref l, .ref b]) (EP X pins σ Q) X.xe s) →
      wpAny (model X.prog X.w) X.A (call (.builtin "list.extend") [.ref l, .ref b]) (EP X pins σ Q) X.xe s := fun its2 r2 go => by
    have hl2 := r2.length
    have hsz : its.toArray.size + its2.toArray.size ≤ sizeLine := by rw [List.size_toArray, List.size_toArray]; omega
    refine go hsz ?_ (by rw [List.size_toArray]; omega) (I.lset (its' := its ++ its2) hH e (by simp) (r.append r2) (by rw [List.length_append]; exact hz))
    rw [notLongL hsz, Bool.and_false]
    exact Bool.false_ne_true
  rcases hB with hB | hB
  · obtain ⟨its2, r2, ⟨⟨cls, dd, dt, sl⟩, n2, ho, hc, hd, hdt⟩, _⟩ := I.list hB
    simp only at hc hd hdt
    subst hc hd hdt
    exact fin its2 r2 fun s1 s2 s3 J => call_meets PySem.F.slot_list_extend ⟨_, e, rfl⟩ PySem.F.entry_list_extend (PySem.F.args_list_extend_2 _ _) (ext_list l its.toArray n b none sl its2.toArray n2 s2 s3 (by omega)) ⟨e, ho, .non, _, J, rfl, q⟩
  · obtain ⟨its2, r2, ⟨⟨cls, dd, dt, sl⟩, ho, hc, n2, hdt⟩, _⟩ := I.tuple hB
    simp only at hc hdt
    subst hc hdt
    exact fin its2 r2 fun s1 s2 s3 J => call_meets PySem.F.slot_list_extend ⟨_, e, rfl⟩ PySem.F.entry_list_extend (PySem.F.args_list_extend_2 _ _) (ext_tup l its.toArray n b dd sl its2.toArray n2 s2 s3 (by omega)) ⟨e, ho, .non, _, J, rfl, q⟩
theorem e_extend (hv : mVis X.N X.env.scope i x = true) (ha : PE X e (tE X.K Φ io a)) (n : notStar e = true) (hl : (apos.endLine == cpos.line) = true) :
    PE X (.Call (.Attribute (.Name x p) "extend" apos) [e] [] cpos) (tE X.K Φ io (.extend i a)) :=
  PE.weak (pe_bm PySem.F.plainAttrs_list PySem.F.slot_list_extend PySem.F.type_list_extend mt_ext (pe_name hv) (pa_one ha n) rfl (few1 n) hl (star_cons n [] X.env) rfl) fun σ H Q ⟨g, F, env, Q', Rp, ⟨hi, w⟩, k⟩ => by
    obtain ⟨ds, hd⟩ := isLst_some hi
    obtain ⟨pp, h1, h2, ⟨vs, h3, h4⟩, _⟩ := Rp.mine hd
    refine ⟨.ref pp, h1, .inl ⟨rfl, vs, .inl (.inl h3)⟩, one_ Rp w fun v H' F' r env' m R' s q => ?_⟩
    obtain ⟨d, env2, F2, m2, R2, dn, q⟩ := asV_ok R' s q
    have fin : ∀ {ds2 xs : List PyData} {bb : Addr} {zs : List V}, slC (slot env2 i) = some (.list ds2) → v = .ref bb → (SqL X.K H' bb zs ∨ SqT X.K H' bb zs) → DenAll X.K F2 zs xs → ds2.length + xs.length ≤ LINE → Q' (.val .none) (setC env2 i (.list (ds2 ++ xs))) → rExt X.K (.ref pp) [v] H' Q := fun {ds2 xs bb zs} hd2 ev sq dz hz q => by
      obtain ⟨q', g1, g2, ⟨vs2, g3, g4⟩, _⟩ := R2.mine hd2
      rw [h1] at g1; cases g1
      subst ev
      refine ⟨_, bb, vs2, zs, rfl, rfl, g3, sq, ?_, ?_⟩
      · rw [g4.length, dz.length]; exact line_le hz
      · exact k _ _ F2 (.val .none) _ (m.trans m2) (R2.setC (d := .list (ds2 ++ xs)) hd2 h1 ⟨_, upd_same, g4.append dz⟩) Den.non q
    split at q
    case h_1 ds2 xs hd2 =>
      cases dn with
      | lst sq dz => exact fin hd2 rfl (.inl (R2.sub.seq sq)) dz q.1 q.2
    case h_2 ds2 xs hd2 =>
      cases dn with
      | tup sq dz => exact fin hd2 rfl (.inr (same_sqT R2.sub sq)) dz q.1 q.2
    case h_3 => exact q.elim
theorem e_pop (hv : mVis X.N X.env.scope i x = true) (hl : (apos.endLine == cpos.line) = true) : PE X (.Call (.Attribute (.Name x p) "pop" apos) [] [] cpos) (tE X.K Φ io (.pop i)) :=
  PE.weak (pe_bm0 PySem.F.plainAttrs_list PySem.F.slot_list_pop PySem.F.type_list_pop mt_pop (pe_name hv) rfl hl) fun σ H Q ⟨g, F, env, Q', Rp, w, k⟩ => by
    unfold wpE at w
    split at w
    case h_1 ds hd =>
      obtain ⟨d, hdl, w⟩ := w
      obtain ⟨q, h1, h2, ⟨vs, h3, h4⟩, _⟩ := Rp.mine hd
      rw [List.getLast?_eq_getElem?] at hdl
      obtain ⟨y, hy, dy⟩ := h4.get hdl
      refine ⟨.ref q, h1, .inl ⟨rfl, vs, .inl (.inl h3)⟩, q, vs, y, rfl, rfl, h3, by rw [h4.length]; exact hy, ?_⟩
      exact k _ _ F (.val d) _ (Same.refl F) (Rp.setC (d := .list ds.dropLast) hd h1 ⟨_, upd_same, h4.dropLast⟩) dy w
    case h_2 => exact w.elim
theorem e_popat (hv : mVis X.N X.env.scope i x = true) (ha : PE X e (tE X.K Φ io a)) (n : notStar e = true) (hl : (apos.endLine == cpos.line) = true) :
    PE X (.Call (.Attribute (.Name x p) "pop" apos) [e] [] cpos) (tE X.K Φ io (.popat i a)) :=
  PE.weak (pe_bm PySem.F.plainAttrs_list PySem.F.slot_list_pop PySem.F.type_list_pop mt_popAt (pe_name hv) (pa_one ha n) rfl (few1 n) hl (star_cons n [] X.env) rfl) fun σ H Q ⟨g, F, env, Q', Rp, ⟨hi, w⟩, k⟩ => by
    obtain ⟨ds, hd⟩ := isLst_some hi
    obtain ⟨q, h1, h2, ⟨vs, h3, h4⟩, _⟩ := Rp.mine hd
    refine ⟨.ref q, h1, .inl ⟨rfl, vs, .inl (.inl h3)⟩, one_ Rp w fun v H' F' r env' m R' s q => ?_⟩
    obtain ⟨d, vw, q⟩ := pk_view R' s q
    split at q
    case h_1 ds2 j hd2 =>
      obtain ⟨j1, j2, m', d, e1, e2, q⟩ := q
      cases vw
      obtain ⟨q', g1, g2, ⟨vs2, g3, g4⟩, _⟩ := R'.mine hd2
      rw [h1] at g1; cases g1
      obtain ⟨y, hy, dy⟩ := g4.get e2
      refine ⟨_, vs2, j, m', y, rfl, rfl, g3, j1, j2, ?_, hy, ?_⟩
      · rw [g4.length]; exact (ixN_seq e1).1
      · exact k _ _ F' (.val d) _ m (R'.setC (d := .list (ds2.eraseIdx m')) hd2 h1 ⟨_, upd_same, g4.erase m'⟩) dy q
    case h_2 => exact q.elim
end
end Co

set_option linter.all false
/-! Co12: what a loop or a comprehension walks. -/
namespace Co
open PySem PySem.Spec PyProof.Rows L2

/-! ### a list or a tuple, as a source -/
def SrcIt (t : Bool) (h : Heap) (it a : Addr) (i : Nat) : Prop := match t with
  | true => h.IsTupleIter it a i
  | false => h.IsListIter it a i
def SrcAt (t : Bool) (a : Addr) (items : Array Value) (h : Heap) : Prop := match t with
  | true => h.IsTuple a items
  | false => h.IsList a items
def Src (K : Frag) (t : Bool) (H : Hp) (a : Addr) (xs : List V) : Prop := match t with
  | true => SqT K H a xs
  | false => SqL K H a xs
def srcO (t : Bool) (a : Addr) : Obj := match t with
  | true => { cls := .type "tuple_iterator", data := .fields #[.ref a, .int 0 0] }
  | false => { cls := .type "list_iterator", data := .fields #[.ref a, .int 0 0] }
theorem begins_src (t : Bool) (a : Addr) (items : Array Value) : Begins (.ref a) (srcO t a) (SrcAt t a items) := by
  cases t
  · exact begins_list a items
  · exact begins_tuple a items
theorem draws_src (t : Bool) {prog : Program} {w : World} {A : Around} (hh : A.handled = none) (it a : Addr) (hne : a ≠ it) (items : Array Value) :
    Draws prog w A it [it, a] items.size (fun i v => items[i]? = some v) (fun i h => SrcIt t h it a i ∧ SrcAt t a items h) := by
  cases t
  · exact Draws.list hh it a hne items
  · exact Draws.tuple hh it a hne items
theorem srcIt_new (t : Bool) {h : Heap} {it a : Addr} (e : h.get? it = some (srcO t a)) : SrcIt t h it a 0 := by
  cases t
  · exact ⟨_, e, rfl, rfl⟩
  · exact ⟨_, e, rfl, rfl⟩
theorem SrcIt.obj {t : Bool} {h : Heap} {it a : Addr} {i : Nat} (x : SrcIt t h it a i) : ∃ o, h.get? it = some o ∧ ∀ v, o.data ≠ .cell v := by
  cases t
  · obtain ⟨o, e, _, d⟩ := x
    exact ⟨o, e, fun v z => by rw [d] at z; cases z⟩
  · obtain ⟨o, e, _, d⟩ := x
    exact ⟨o, e, fun v z => by rw [d] at z; cases z⟩
theorem SrcIt.keep {t : Bool} {h h' : Heap} {it a : Addr} {i : Nat} (x : SrcIt t h it a i) (k : ∀ o, h.get? it = some o → h'.get? it = some o) : SrcIt t h' it a i := by
  cases t
  · exact Heap.IsListIter.at x k
  · exact Heap.IsTupleIter.at x k
theorem inv_src {t : Bool} {X : Cx} {pins : List (Addr × Obj)} {σ : L2.St} {H : Hp} {s : Shared} {a : Addr} {xs : List V} (I : Inv X pins σ H s) (h : Src X.K t H a xs) :
    ∃ its : List Value, Vals xs its ∧ SrcAt t a its.toArray s.heap ∧ xs.length ≤ sizeLine ∧ a < s.heap.objs.size := by
  cases t
  · obtain ⟨its, r, p, z⟩ := I.list h
    exact ⟨its, r, p.isList, z, p.lt⟩
  · obtain ⟨its, r, p, z⟩ := I.tuple h
    exact ⟨its, r, p, z, by obtain ⟨o, e, _⟩ := p; exact Heap.lt_size e⟩

/-! ### pairs and triples, newly made at each turn -/
def ItP (n : Nat) (Gd : Hp → Prop) (f : Nat → List V → Prop) : L2.It :=
  ⟨fun i H => i < n ∧ Gd H, fun i H v H' => ∃ T xs, v = .ref T ∧ H T = none ∧ H' = upd H T (.tup xs) ∧ f i xs, fun i H => i = n ∧ Gd H⟩
/-- a walk of the library's, as a turn -/
theorem turn_W {P : Program} {w : World} {K : Frag} {elts : List Expr} {kk : Nat} {tpos : Pos} {fp : List Addr} {I : Addr} {n : Nat} {Gd : Hp → Prop} {f : Nat → List V → Prop} {tn : Nat → Heap → Prop}
    (mem : I ∈ fp) (obj : ∀ i h, tn i h → ∀ b ∈ fp, ∃ o, h.get? b = some o ∧ ∀ v, o.data ≠ .cell v) (keep : ∀ i h h', tn i h → (∀ b ∈ fp, ∀ o, h.get? b = some o → h'.get? b = some o) → tn i h')
    (W : ∀ (X : Cx) (pins : List (Addr × Obj)) (s : Shared) (σ : L2.St) (H : Hp), X.prog = P → X.w = w → X.K = K → X.calm = true → Inv X pins σ H s → Gd H →
      ∃ (wfp wr : List Addr) (Pt : Nat → Array Value → Prop) (St : Nat → Heap → Prop) (Mid : Nat → Addr → Heap → Prop), WalksT P w X.A I wfp wr n Pt St Mid ∧ (∀ i, tn i s.heap → St i s.heap) ∧ (∀ i h', St i h' → tn i h') ∧ (∀ b ∈ wr, b ∈ fp) ∧
        ∀ i vals, i < n → Pt i vals → ∃ xs, Vals xs vals.toList ∧ xs.length ≤ 1000 ∧ f i xs)
    (self : ∀ (A : Around) (i : Nat) (s : Shared) (Q : Value → Shared → Prop) (E : Value → Shared → Prop), tn i s.heap → Q (.ref I) s → wpAny (model P w) A (pyIter (.ref I)) Q E s) :
    Turn P w K (.Tuple elts kk tpos) (ItP n Gd f) fp I tn where
  mem := mem
  obj := obj
  keep := keep
  self := self
  item := by
    intro X hP hw hK hc i pins s σ H E Iv hf st ⟨hi, hg⟩
    obtain ⟨wfp, wr, Pt, St, Mid, wk, toS, ofS, sub, vals⟩ := W X pins s σ H hP hw hK hc Iv hg
    refine wk.item i s _ E hi (toS i st) fun T vs h' tk hp hT htup mid fr => ⟨_, rfl, ?_⟩
    refine wk.go elts kk tpos i T _ _ E mid fun h'' st'' fr2 => ?_
    obtain ⟨xs, rv, hl, hf'⟩ := vals i vs hi hp
    have hTw : T ∉ wr := wk.apart i T h' mid
    have ht2 : h''.IsTuple T vs := by
      obtain ⟨o, e, r⟩ := htup
      exact ⟨o, fr2 T o hTw e, r⟩
    have new : ObjOk X.prog X.w (upd H T (.tup xs)) h'' T (.tup xs) := ⟨by rw [sizeLine_eq]; omega, vs.toList, rv, by
      obtain ⟨o, e, c, m, d⟩ := ht2
      exact ⟨o, e, c, m, by simpa using d⟩⟩
    have I1 : Inv X pins σ (upd H T (.tup xs)) { s with heap := h'', toks := tk } :=
      Iv.turnedNew (ch := fp) (fun b o hb q => fr2 b o (fun z => hb (sub b z)) (fr b o (fun z => hb (sub b z)) q)) hf hT new
    refine ⟨.ref T, _, I1, rfl, ⟨T, xs, rfl, Iv.hok.fresh hT, rfl, hf'⟩, ofS _ _ st'', fun b hb => ?_⟩
    obtain ⟨o, e, _⟩ := obj _ _ st b hb
    rw [upd_ne (Nat.ne_of_lt (Nat.lt_of_lt_of_le (Heap.lt_size e) hT))]
    exact (hf b hb).1
  done := by
    intro X hP hw hK hc i pins s σ H E Iv hf st ⟨hi, hg⟩
    obtain ⟨wfp, wr, Pt, St, Mid, wk, toS, ofS, sub, vals⟩ := W X pins s σ H hP hw hK hc Iv hg
    subst hi
    exact wk.done s _ E (toS _ st) fun h' tk fr => ⟨rfl, Iv.turnedL (ch := fp) (fun b o hb q => fr b o (fun z => hb (sub b z)) q) hf⟩

theorem vals_get {xs : List V} {its : List Value} {i : Nat} {u : Value} (r : Vals xs its) (h : its.toArray[i]? = some u) : ∃ x, xs[i]? = some x ∧ RelV x u := by
  have h' : its[i]? = some u := by simpa using h
  induction r generalizing i with
  | nil => simp at h'
  | cons a t ih =>
    cases i with
    | zero => simp at h'; subst h'; exact ⟨_, rfl, a⟩
    | succ i => simpa using ih (i := i) (by simpa using h') (by simpa using h')
def enumF (xs : List V) : Nat → List V → Prop := fun i vs => ∃ x, xs[i]? = some x ∧ vs = [.int (i : Nat), x]
theorem turn_enumS {P : Program} {w : World} {K : Frag} {elts : List Expr} {kk : Nat} {tpos : Pos} (t : Bool) (xs : List V) (a e it : Addr) (hei : e ≠ it) (hai : a ≠ it) (hae : a ≠ e) :
    Turn P w K (.Tuple elts kk tpos) (ItP xs.length (fun H => Src K t H a xs) (enumF xs)) [e, it] e (fun i h => (∃ old, IsEnum h e it ((i : Nat) : Int) old) ∧ SrcIt t h it a i) := by
  refine turn_W (by simp) (fun i h st b hb => ?_) (fun i h h' st k => ?_) (fun X pins s σ H hP hw hK hc I hg => ?_) fun A i s Q E st h => ?_
  · obtain ⟨⟨old, he⟩, hi⟩ := st
    have e' : b = e ∨ b = it := by simpa using hb
    rcases e' with z | z
    · rw [z]; exact ⟨_, he, fun v q => nomatch q⟩
    · rw [z]; exact hi.obj
  · obtain ⟨⟨old, he⟩, hi⟩ := st
    exact ⟨⟨old, k e (by simp) _ he⟩, hi.keep fun o q => k it (by simp) o q⟩
  · subst hP hw hK
    obtain ⟨its, r, at_, z, _⟩ := inv_src I hg
    have hn : its.toArray.size = xs.length := by rw [List.size_toArray, r.length]
    have D := draws_src t (prog := X.prog) (w := X.w) (A := X.A.in1) (I.ok.hd hc) it a hai its.toArray
    rw [hn] at D
    refine ⟨_, _, _, _, _, WalksT.enumerateD D e hei (by simp [hei, Ne.symm hae]) (by simp), fun i st => ⟨st.1, st.2, at_⟩, fun i h' st => ⟨st.1, st.2.1⟩, fun b hb => hb, fun i vals hi ⟨tk, x, hx, ev⟩ => ?_⟩
    obtain ⟨v, hv, rv⟩ := vals_get r hx
    subst ev
    exact ⟨[.int (i : Nat), v], .cons ⟨_, rfl⟩ (.cons rv .nil), by simp, v, hv, rfl⟩
  · obtain ⟨⟨_, he⟩, _⟩ := st
    exact wpAny_pyIter_enum he h
def zip2F (xs ys : List V) : Nat → List V → Prop := fun i vs => ∃ x y, xs[i]? = some x ∧ ys[i]? = some y ∧ vs = [x, y]
theorem turn_zip2S {P : Program} {w : World} {K : Frag} {elts : List Expr} {kk : Nat} {tpos : Pos} (t1 t2 : Bool) (xs ys : List V) (a b z TI TO i1 i2 : Addr) (S : ZipSep2 z TI TO i1 i2 [i1, a] [i2, b]) (ha : a ≠ i1) (hb : b ≠ i2) :
    Turn P w K (.Tuple elts kk tpos) (ItP (min xs.length ys.length) (fun H => Src K t1 H a xs ∧ Src K t2 H b ys) (zip2F xs ys)) [z, TI, TO, i1, i2] z
      (fun i h => IsZip h z TI TO .none ∧ IsTupOf2 h TI (.ref i1) (.ref i2) ∧ (∃ a1 a2, IsTupOf2 h TO a1 a2) ∧ SrcIt t1 h i1 a i ∧ SrcIt t2 h i2 b i) := by
  refine turn_W (by simp) (fun i h st c hc => ?_) (fun i h h' st k => ?_) (fun X pins s σ H hP hw hK hc I hg => ?_) fun A i s Q E st h => wpAny_pyIter_zip st.1 h
  · obtain ⟨hz, hTI, ⟨x, y, hTO⟩, h1, h2⟩ := st
    have e' : c = z ∨ c = TI ∨ c = TO ∨ c = i1 ∨ c = i2 := by simpa using hc
    rcases e' with q | q | q | q | q
    · rw [q]; exact ⟨_, hz, fun v q => nomatch q⟩
    · rw [q]; exact ⟨_, hTI, fun v q => nomatch q⟩
    · rw [q]; exact ⟨_, hTO, fun v q => nomatch q⟩
    · rw [q]; exact h1.obj
    · rw [q]; exact h2.obj
  · obtain ⟨hz, hTI, ⟨x, y, hTO⟩, h1, h2⟩ := st
    exact ⟨k z (by simp) _ hz, k TI (by simp) _ hTI, ⟨x, y, k TO (by simp) _ hTO⟩, h1.keep fun o q => k i1 (by simp) o q, h2.keep fun o q => k i2 (by simp) o q⟩
  · subst hP hw hK
    obtain ⟨its, r, at_, _, _⟩ := inv_src I hg.1
    obtain ⟨its2, r2, at2, _, _⟩ := inv_src I hg.2
    have D1 := draws_src t1 (prog := X.prog) (w := X.w) (A := X.A.in1) (I.ok.hd hc) i1 a ha its.toArray
    have D2 := draws_src t2 (prog := X.prog) (w := X.w) (A := X.A.in1) (I.ok.hd hc) i2 b hb its2.toArray
    have hn : its.toArray.size = xs.length := by rw [List.size_toArray, r.length]
    have hn2 : its2.toArray.size = ys.length := by rw [List.size_toArray, r2.length]
    rw [hn] at D1
    rw [hn2] at D2
    refine ⟨_, _, _, _, _, WalksT.zipD2 S D1 D2, fun i st => ⟨st.1, st.2.1, st.2.2.1, ⟨st.2.2.2.1, at_⟩, st.2.2.2.2, at2⟩, fun i h' st => ⟨st.1, st.2.1, st.2.2.1, st.2.2.2.1.1, st.2.2.2.2.1⟩, fun c hc => ?_, fun i vals hi ⟨x1, x2, hx, hy, ev⟩ => ?_⟩
    · have e' : c = z ∨ c = TO ∨ c = i1 ∨ c = i2 := by simpa using hc
      rcases e' with q | q | q | q <;> simp [q]
    · obtain ⟨v, hv, rv⟩ := vals_get r hx
      obtain ⟨v2, hv2, rv2⟩ := vals_get r2 hy
      subst ev
      exact ⟨[v, v2], .cons rv (.cons rv2 .nil), by simp, v, v2, hv, hv2, rfl⟩
def zip3F (xs ys zs : List V) : Nat → List V → Prop := fun i vs => ∃ x y z, xs[i]? = some x ∧ ys[i]? = some y ∧ zs[i]? = some z ∧ vs = [x, y, z]
theorem turn_zip3S {P : Program} {w : World} {K : Frag} {elts : List Expr} {kk : Nat} {tpos : Pos} (t1 t2 t3 : Bool) (xs ys zs : List V) (a b c z TI TO i1 i2 i3 : Addr) (S : ZipSep3 z TI TO i1 i2 i3 [i1, a] [i2, b] [i3, c]) (ha : a ≠ i1) (hb : b ≠ i2) (hc' : c ≠ i3) :
    Turn P w K (.Tuple elts kk tpos) (ItP (min (min xs.length ys.length) zs.length) (fun H => Src K t1 H a xs ∧ Src K t2 H b ys ∧ Src K t3 H c zs) (zip3F xs ys zs)) [z, TI, TO, i1, i2, i3] z
      (fun i h => IsZip h z TI TO .none ∧ IsTupOf3 h TI (.ref i1) (.ref i2) (.ref i3) ∧ (∃ a1 a2 a3, IsTupOf3 h TO a1 a2 a3) ∧ SrcIt t1 h i1 a i ∧ SrcIt t2 h i2 b i ∧ SrcIt t3 h i3 c i) := by
  refine turn_W (by simp) (fun i h st d hd => ?_) (fun i h h' st k => ?_) (fun X pins s σ H hP hw hK hc I hg => ?_) fun A i s Q E st h => wpAny_pyIter_zip st.1 h
  · obtain ⟨hz, hTI, ⟨x, y, w, hTO⟩, h1, h2, h3⟩ := st
    have e' : d = z ∨ d = TI ∨ d = TO ∨ d = i1 ∨ d = i2 ∨ d = i3 := by simpa using hd
    rcases e' with q | q | q | q | q | q
    · rw [q]; exact ⟨_, hz, fun v q => nomatch q⟩
    · rw [q]; exact ⟨_, hTI, fun v q => nomatch q⟩
    · rw [q]; exact ⟨_, hTO, fun v q => nomatch q⟩
    · rw [q]; exact h1.obj
    · rw [q]; exact h2.obj
    · rw [q]; exact h3.obj
  · obtain ⟨hz, hTI, ⟨x, y, w, hTO⟩, h1, h2, h3⟩ := st
    exact ⟨k z (by simp) _ hz, k TI (by simp) _ hTI, ⟨x, y, w, k TO (by simp) _ hTO⟩, h1.keep fun o q => k i1 (by simp) o q, h2.keep fun o q => k i2 (by simp) o q, h3.keep fun o q => k i3 (by simp) o q⟩
  · subst hP hw hK
    obtain ⟨its, r, at_, _, _⟩ := inv_src I hg.1
    obtain ⟨its2, r2, at2, _, _⟩ := inv_src I hg.2.1
    obtain ⟨its3, r3, at3, _, _⟩ := inv_src I hg.2.2
    have D1 := draws_src t1 (prog := X.prog) (w := X.w) (A := X.A.in1) (I.ok.hd hc) i1 a ha its.toArray
    have D2 := draws_src t2 (prog := X.prog) (w := X.w) (A := X.A.in1) (I.ok.hd hc) i2 b hb its2.toArray
    have D3 := draws_src t3 (prog := X.prog) (w := X.w) (A := X.A.in1) (I.ok.hd hc) i3 c hc' its3.toArray
    have hn : its.toArray.size = xs.length := by rw [List.size_toArray, r.length]
    have hn2 : its2.toArray.size = ys.length := by rw [List.size_toArray, r2.length]
    have hn3 : its3.toArray.size = zs.length := by rw [List.size_toArray, r3.length]
    rw [hn] at D1
    rw [hn2] at D2
    rw [hn3] at D3
    refine ⟨_, _, _, _, _, WalksT.zipD3 S D1 D2 D3, fun i st => ⟨st.1, st.2.1, st.2.2.1, ⟨st.2.2.2.1, at_⟩, ⟨st.2.2.2.2.1, at2⟩, st.2.2.2.2.2, at3⟩, fun i h' st => ⟨st.1, st.2.1, st.2.2.1, st.2.2.2.1.1, st.2.2.2.2.1.1, st.2.2.2.2.2.1⟩, fun d hd => ?_, fun i vals hi ⟨x1, x2, x3, hx, hy, hz, ev⟩ => ?_⟩
    · have e' : d = z ∨ d = TO ∨ d = i1 ∨ d = i2 ∨ d = i3 := by simpa using hd
      rcases e' with q | q | q | q | q <;> simp [q]
    · obtain ⟨v, hv, rv⟩ := vals_get r hx
      obtain ⟨v2, hv2, rv2⟩ := vals_get r2 hy
      obtain ⟨v3, hv3, rv3⟩ := vals_get r3 hz
      subst ev
      exact ⟨[v, v2, v3], .cons rv (.cons rv2 (.cons rv3 .nil)), by simp, v, v2, v3, hv, hv2, hv3, rfl⟩

/-! ### enumerate(v), one argument -/
theorem meets_enum1 {v : Value} {o : Obj} {H : Heap → Prop} (B : Begins v o H) :
    Meets (Builtin.«enumerate.__new__» ⟨[.type "enumerate", v], []⟩) (fun _ R s => H s.heap ∧
      R (.ok (.ret (.ref (s.heap.push o).objs.size))) { s with heap := (s.heap.push o).push { cls := .type "enumerate", data := .fields #[.none, .bool false, .ref s.heap.objs.size, rawInt 0, .none, .none] } }) :=
  .of_wp fun prog w A R s h => by
    obtain ⟨hp, g, d, tk, os⟩ := s
    obtain ⟨h1, h⟩ := h
    have hsub := sub_enumerate
    have q1 : ∀ {A' : Around} {E : Value → Shared → Prop} {Q : Value → Shared → Prop}, Q (.ref hp.objs.size) ⟨(hp.push o), g, d, tk, os⟩ → wpAny (model prog w) A' (pyIter v) Q E ⟨hp, g, d, tk, os⟩ :=
      fun q => B.iter prog w _ _ ⟨hp, g, d, tk, os⟩ _ h1 q
    wp_walk using q1
    refine wpAny_stack_any fun st => wpAny_pure ?_
    split
    · rename_i c _ _ _ _ _
      cases (c == Value.type "enumerate")
      · wp_walk using q1
        exact ⟨_, rfl, h⟩
      · wp_walk using q1
        exact ⟨_, rfl, h⟩
    · wp_walk using q1
      exact ⟨_, rfl, h⟩
theorem enum_begins1 {prog : Program} {w : World} {A : Around} {E : Value → Shared → Prop} {s : Shared} {v : Value} {o : Obj} {H : Heap → Prop} {Q : Value → Shared → Prop} (B : Begins v o H) (h1 : H s.heap)
    (h : ∀ h', IsEnum h' (s.heap.objs.size + 1) s.heap.objs.size 0 .none → h'.get? s.heap.objs.size = some o →
      (∀ b o, s.heap.get? b = some o → h'.get? b = some o) → Q (.ref (s.heap.objs.size + 1)) { s with heap := h' }) :
    wpAny (model prog w) A (call (.type "enumerate") [v]) Q E s := by
  have hz : (s.heap.push o).objs.size = s.heap.objs.size + 1 := Heap.size_push ..
  refine callType_new F.called_enumerate (by decide) (F.typeCall_enumerate_1 _) (F.newCall_enumerate_1 _) (fun obj => F.args_object_init_2 obj _) F.entry_enumerate_new
    (meets_enum1 B) ⟨h1, ?_⟩
  show _ ∧ _
  rw [hz]
  have he := Heap.get?_push_size (s.heap.push o) (o := { cls := .type "enumerate", data := .fields #[.none, .bool false, .ref s.heap.objs.size, rawInt 0, .none, .none] }) rfl
  rw [hz] at he
  exact ⟨⟨_, he, rfl⟩, h _ he (Heap.get?_push_of_some _ (Heap.get?_push_size _ B.free)) fun b o x => Heap.get?_push_of_some _ (Heap.get?_push_of_some _ x)⟩
end Co

set_option linter.all false
/-! Co13: the iterators of the little language. -/
namespace Co
open PySem PySem.Spec PyProof.Rows L2

/-- J gives the items, one after another, as long as what is shared stands -/
def Gives (K : Frag) (F : Hp) (J : L2.It) (items : List PyData) : Prop := ∃ Y, Walk J items.length (Same F) Y ∧
  ∀ i H v H', i < items.length → Same F H → Y i H v H' → ∃ d, items[i]? = some d ∧ ∀ F'', Same F F'' → Same F'' H → Out K F'' H (.val d) v H'
section
variable {K : Frag} {F : Hp} {xs ys zs : List V} {ds es fs : List PyData} {a b c : Addr}
theorem src_same {t : Bool} {H : Hp} (m : Same F H) (h : Src K t F a xs) : Src K t H a xs := by
  cases t
  · exact m.seq h
  · exact same_sqT m h
theorem gives_list (h : SqL K F a xs) (t : DenAll K F xs ds) : Gives K F (Itl K a) ds := by
  refine ⟨YAt xs, ?_, fun i H v H' hi m ⟨e, hx⟩ => ?_⟩
  · rw [← t.length]
    exact walk_list.mono (fun H m => m.seq h) fun _ _ _ _ _ _ y => y
  · subst e
    obtain ⟨d, hd, dn⟩ := t.getV hx
    exact ⟨d, hd, fun F'' m1 m2 => .old (dn.mono m1)⟩
theorem gives_tup (h : SqT K F a xs) (t : DenAll K F xs ds) : Gives K F (Itt K a) ds := by
  refine ⟨YAt xs, ?_, fun i H v H' hi m ⟨e, hx⟩ => ?_⟩
  · rw [← t.length]
    exact walk_tup.mono (fun H m => same_sqT m h) fun _ _ _ _ _ _ y => y
  · subst e
    obtain ⟨d, hd, dn⟩ := t.getV hx
    exact ⟨d, hd, fun F'' m1 m2 => .old (dn.mono m1)⟩
theorem rangeL_length (lo : Int) (n : Nat) : (rangeL lo n).length = n := by simp [rangeL]
theorem rangeL_get {lo : Int} {n i : Nat} (h : i < n) : (rangeL lo n)[i]? = some (.int (lo + (i : Int))) := by simp [rangeL, h]
theorem gives_range (lo : Int) (n : Nat) : Gives K F (Itr lo n) (rangeL lo n) := by
  refine ⟨YFn fun i => .int (lo + i), ?_, fun i H v H' hi m ⟨e, hx⟩ => ?_⟩
  · rw [rangeL_length]
    exact walk_range.mono (fun _ _ => trivial) fun _ _ _ _ _ _ y => y
  · rw [rangeL_length] at hi
    subst e hx
    exact ⟨_, rangeL_get hi, fun F'' m1 m2 => .old (.int _)⟩
theorem rangeD_length (hi : Int) (n : Nat) : (rangeD hi n).length = n := by simp [rangeD]
theorem gives_rangeD (hi : Int) (n : Nat) : Gives K F (Itc hi (-1) n) (rangeD hi n) := by
  refine ⟨YFn fun i => .int (hi + (i : Nat) * (-1)), ?_, fun i H v H' hi' m ⟨e, hx⟩ => ?_⟩
  · rw [rangeD_length]
    exact walk_rangeC.mono (fun _ _ => trivial) fun _ _ _ _ _ _ y => y
  · rw [rangeD_length] at hi'
    subst e hx
    refine ⟨.int (hi - (i : Int)), by simp [rangeD, hi'], fun F'' m1 m2 => ?_⟩
    have e : hi + (i : Int) * (-1) = hi - (i : Int) := by omega
    show Out K F'' _ _ (V.int (hi + (i : Int) * (-1))) _
    rw [e]
    exact .old (.int _)
theorem gives_P {n : Nat} {Gd : Hp → Prop} {f : Nat → List V → Prop} {items : List PyData} (hn : items.length = n) (hG : ∀ H, Same F H → Gd H)
    (hf : ∀ i vs, i < n → f i vs → ∃ ds, items[i]? = some (.tuple ds) ∧ DenAll K F vs ds) : Gives K F (ItP n Gd f) items := by
  subst hn
  refine ⟨fun i H v H' => ∃ T xs, v = .ref T ∧ H T = none ∧ H' = upd H T (.tup xs) ∧ f i xs, ⟨fun i H hi m => ⟨hi, hG H m⟩, fun H m => ⟨rfl, hG H m⟩, fun i H x H' hi m y => y⟩, fun i H v H' hi m ⟨T, vs, e1, e2, e3, q⟩ => ?_⟩
  subst e1 e3
  obtain ⟨ds, e, t⟩ := hf i vs hi q
  exact ⟨_, e, fun F'' m1 m2 => .tup e2 (t.mono m1)⟩
theorem pairs2_length (xs ys : List PyData) : (pairs2 xs ys).length = min xs.length ys.length := by simp [pairs2]
theorem pairs2_get {xs ys : List PyData} {i : Nat} {x y : PyData} (h1 : xs[i]? = some x) (h2 : ys[i]? = some y) : (pairs2 xs ys)[i]? = some (.tuple [x, y]) := by
  unfold pairs2
  rw [List.getElem?_map, (List.getElem?_zip_eq_some (z := (x, y))).mpr ⟨h1, h2⟩]; rfl
theorem pairs3_length (xs ys zs : List PyData) : (pairs3 xs ys zs).length = min (min xs.length ys.length) zs.length := by simp [pairs3, Nat.min_assoc]
theorem pairs3_get {xs ys zs : List PyData} {i : Nat} {x y z : PyData} (h1 : xs[i]? = some x) (h2 : ys[i]? = some y) (h3 : zs[i]? = some z) : (pairs3 xs ys zs)[i]? = some (.tuple [x, y, z]) := by
  unfold pairs3
  rw [List.getElem?_map, (List.getElem?_zip_eq_some (z := (x, (y, z)))).mpr ⟨h1, (List.getElem?_zip_eq_some (z := (y, z))).mpr ⟨h2, h3⟩⟩]; rfl
theorem gives_enum {t : Bool} (h : Src K t F a xs) (q : DenAll K F xs ds) : Gives K F (ItP xs.length (fun H => Src K t H a xs) (enumF xs)) (enumL ds) := by
  refine gives_P (by rw [enumL, pairs2_length, rangeL_length, q.length]; exact Nat.min_self _) (fun H m => src_same m h) fun i vs hi ⟨x, hx, ev⟩ => ?_
  subst ev
  obtain ⟨d, hd, dn⟩ := q.getV hx
  refine ⟨[.int (i : Nat), d], ?_, .cons (.int _) (.cons dn .nil)⟩
  have hl : i < ds.length := by rw [← q.length]; exact hi
  have := rangeL_get (lo := 0) hl
  rw [Int.zero_add] at this
  exact pairs2_get this hd
theorem gives_zip2 {t1 t2 : Bool} (h1 : Src K t1 F a xs) (q1 : DenAll K F xs ds) (h2 : Src K t2 F b ys) (q2 : DenAll K F ys es) : Gives K F (ItP (min xs.length ys.length) (fun H => Src K t1 H a xs ∧ Src K t2 H b ys) (zip2F xs ys)) (pairs2 ds es) := by
  refine gives_P (by rw [pairs2_length, q1.length, q2.length]) (fun H m => ⟨src_same m h1, src_same m h2⟩) fun i vs hi ⟨x, y, hx, hy, ev⟩ => ?_
  subst ev
  obtain ⟨d, hd, dn⟩ := q1.getV hx
  obtain ⟨d2, hd2, dn2⟩ := q2.getV hy
  exact ⟨[d, d2], pairs2_get hd hd2, .cons dn (.cons dn2 .nil)⟩
theorem gives_zip3 {t1 t2 t3 : Bool} (h1 : Src K t1 F a xs) (q1 : DenAll K F xs ds) (h2 : Src K t2 F b ys) (q2 : DenAll K F ys es) (h3 : Src K t3 F c zs) (q3 : DenAll K F zs fs) :
    Gives K F (ItP (min (min xs.length ys.length) zs.length) (fun H => Src K t1 H a xs ∧ Src K t2 H b ys ∧ Src K t3 H c zs) (zip3F xs ys zs)) (pairs3 ds es fs) := by
  refine gives_P (by rw [pairs3_length, q1.length, q2.length, q3.length]) (fun H m => ⟨src_same m h1, src_same m h2, src_same m h3⟩) fun i vs hi ⟨x, y, z, hx, hy, hz, ev⟩ => ?_
  subst ev
  obtain ⟨d, hd, dn⟩ := q1.getV hx
  obtain ⟨d2, hd2, dn2⟩ := q2.getV hy
  obtain ⟨d3, hd3, dn3⟩ := q3.getV hz
  exact ⟨[d, d2, d3], pairs3_get hd hd2 hd3, .cons dn (.cons dn2 (.cons dn3 .nil))⟩
/-- a shared datum with items, as a source -/
theorem den_src {v : V} {d : PyData} {ds : List PyData} (h : Den K F v d) (e : itemsOf d = some ds) : ∃ t a xs, v = .ref a ∧ Src K t F a xs ∧ DenAll K F xs ds := by
  cases h with
  | lst h t => cases e; exact ⟨false, _, _, rfl, h, t⟩
  | tup h t => cases e; exact ⟨true, _, _, rfl, h, t⟩
  | _ => cases e
end

def tI (K : Frag) (Φ : Tbl) (io : List Nat) (it : It) : TI := fun σ H R => ∃ (g : Gh) (F : Hp) (env : Env) (P : List PyData → Env → Prop), Rep K io g env σ F H ∧ wpI Φ it env P ∧
  ∀ items J H' F' env', Same F F' → Rep K io g env' σ F' H' → Gives K F' J items → P items env' → R J H'

section
variable {X : Cx} {L : List (String × List Bool)} {Φ : Tbl} {fb : Str → Bool} {io : List Nat} {tg e e1 e2 e3 : Expr} {es : List Expr} {a b c : E} {cs : Es} {pos p p2 apos cpos tpos : Pos} {i : Nat} {x : Str}
theorem pi_or {w1 : TI} (run : ∀ (pins : List (Addr × Obj)) (s : Shared) (σ : L2.St) (H : Hp) (R : L2.It → Hp → Prop), Inv X pins σ H s → w1 σ H R →
    wpAny (model X.prog X.w) X.A (eval e X.env) (fun v s1 => wpAny (model X.prog X.w) X.A (pyIter v) (PIE X pins σ tg R) X.xe s1) X.xe s) : PI X tg e w1 := ⟨run⟩
/-- over a list or a tuple -/
theorem i_of (he : PE X e (tE X.K Φ io a)) : PI X tg e (tI X.K Φ io (.of a)) := by
  refine ⟨fun pins s σ H R I ⟨g, F, env, P, Rp, w, k⟩ => ?_⟩
  have h : tE X.K Φ io a σ H fun x H1 => ∃ q, x = .ref q ∧ (((∃ xs, SqL X.K H1 q xs) ∧ R (Itl X.K q) H1) ∨ ((∃ xs, SqT X.K H1 q xs) ∧ R (Itt X.K q) H1)) := one_ Rp w fun v H' F' r env' m R' s q => by
    obtain ⟨d, env2, F2, m2, R2, dn, q⟩ := asV_ok R' s q
    cases dn <;> first | exact q.elim | skip
    case lst a1 xs ds sq t => exact ⟨_, rfl, .inl ⟨⟨_, R2.sub.seq sq⟩, k ds _ _ F2 env2 (m.trans m2) R2 (gives_list sq t) q⟩⟩
    case tup a1 xs ds sq t => exact ⟨_, rfl, .inr ⟨⟨_, same_sqT R2.sub sq⟩, k ds _ _ F2 env2 (m.trans m2) R2 (gives_tup sq t) q⟩⟩
  refine thn (he.run pins s σ H _ I h) fun v s1 ⟨x, H1, I1, r1, q, ex, q1⟩ => ?_
  subst ex
  cases r1
  rcases q1 with ⟨⟨xs, hq⟩, q1⟩ | ⟨⟨xs, hq⟩, q1⟩
  · obtain ⟨its, rv, p, hz⟩ := I1.list hq
    refine wpAny_pyIter_list p.isList ?_
    refine ⟨s1.heap.objs.size, [s1.heap.objs.size], _, _, H1, rfl, I1.kept (t' := s1.toks) fun b o e => Heap.get?_push_of_some _ e, turn_list q _, ⟨_, Heap.get?_push_size _ rfl, rfl, rfl⟩, fun b hb => ?_, q1⟩
    have e : b = s1.heap.objs.size := by simpa using hb
    subst e
    exact I1.fpOk (Nat.le_refl _) (I1.hok.fresh (Nat.le_refl _))
  · obtain ⟨its, rv, p, hz⟩ := I1.tuple hq
    refine wpAny_pyIter_tuple (show s1.heap.IsTuple q its.toArray from p) ?_
    refine ⟨s1.heap.objs.size, [s1.heap.objs.size], _, _, H1, rfl, I1.kept (t' := s1.toks) fun b o e => Heap.get?_push_of_some _ e, turn_tuple q _, ⟨_, Heap.get?_push_size _ rfl, rfl, rfl⟩, fun b hb => ?_, q1⟩
    have e : b = s1.heap.objs.size := by simpa using hb
    subst e
    exact I1.fpOk (Nat.le_refl _) (I1.hok.fresh (Nat.le_refl _))
theorem PI.weak' {t t' : TI} (h : PI X tg e t) (w : ∀ σ H Q, t' σ H Q → t σ H Q) : PI X tg e t' := PI.weak h w
theorem i_range1 (C : Ctx X L Φ fb) (hg : gl X.env.scope ("range" : Str) = true) (ha : PE X e (tE X.K Φ io a)) (n : notStar e = true) : PI X tg (.Call (.Name "range" p) [e] [] pos) (tI X.K Φ io (.range1 a)) :=
  PI.weak (pi_range1 (gl_ok hg) (C.blt "range" (by decide)) (pa_one ha n) (star_cons n [] X.env)) fun σ H R ⟨g, F, env, P, Rp, w, k⟩ => one_ Rp w fun v H' F' r env' m R' s q => by
    obtain ⟨d, vw, q⟩ := pk_view R' s q
    cases d <;> first | exact q.elim | skip
    cases vw
    exact ⟨_, rfl, q.1, q.2.1, k _ _ _ F' env' m R' (gives_range 0 _) q.2.2⟩
theorem i_range2 (C : Ctx X L Φ fb) (hg : gl X.env.scope ("range" : Str) = true) (ha : PE X e1 (tE X.K Φ io a)) (hb : PE X e2 (tE X.K Φ io b)) (n : notStar e1 = true) (n2 : notStar e2 = true) :
    PI X tg (.Call (.Name "range" p) [e1, e2] [] pos) (tI X.K Φ io (.range2 a b)) :=
  PI.weak (pi_range2 (gl_ok hg) (C.blt "range" (by decide)) (pa_two ha hb n n2) (by rw [star_cons n [e2] X.env, star_cons n2 [] X.env]; rfl) (star_cons n2 [] X.env)) fun σ H R ⟨g, F, env, P, Rp, w, k⟩ =>
    two_ (Qv := fun v1 v2 H2 => ∃ i j : Int, [v1, v2] = [V.int i, V.int j] ∧ (-(2 ^ 62) ≤ i ∧ i < 2 ^ 62 ∧ -(2 ^ 62) ≤ j ∧ j < 2 ^ 62) ∧ R (Itr i (j - i).toNat) H2) Rp w fun v1 v2 H' F' r1 r2 env' m R' s1 s2 q => by
      obtain ⟨d1, w1, q⟩ := pk_view R' s1 q
      obtain ⟨d2, w2, q⟩ := pk_view R' s2 q
      cases d1 <;> first | exact q.elim | skip
      cases d2 <;> first | exact q.elim | skip
      cases w1
      cases w2
      exact ⟨_, _, rfl, q.1, k _ _ _ F' env' m R' (gives_range _ _) q.2⟩
theorem i_range3 (C : Ctx X L Φ fb) (hg : gl X.env.scope ("range" : Str) = true) (ha : PE X e1 (tE X.K Φ io a)) (hb : PE X e2 (tE X.K Φ io b)) (hc : PE X e3 (tE X.K Φ io c)) (n : notStar e1 = true) (n2 : notStar e2 = true) (n3 : notStar e3 = true) :
    PI X tg (.Call (.Name "range" p) [e1, e2, e3] [] pos) (tI X.K Φ io (.range3 a b c)) :=
  PI.weak (pi_range3 (gl_ok hg) (C.blt "range" (by decide)) (pa_cons ha (pa_two hb hc n2 n3) (star_cons n [e2, e3] X.env)) (star_cons n [e2, e3] X.env) (star_any (by simp [n2, n3]))) fun σ H R ⟨g, F, env, P, Rp, w, k⟩ =>
    three_ (Qv := fun v1 v2 v3 H2 => ∃ (i j c : Int) (n : Nat), [v1, v2, v3] = [V.int i, V.int j, V.int c] ∧ RgC i j c n ∧ R (Itc i c n) H2) Rp w fun v1 v2 v3 H' F' r1 r2 r3 env' m R' s1 s2 s3 q => by
      obtain ⟨d1, w1, q⟩ := pk_view R' s1 q
      obtain ⟨d2, w2, q⟩ := pk_view R' s2 q
      obtain ⟨d3, w3, q⟩ := pk_view R' s3 q
      cases d1 <;> first | exact q.elim | skip
      cases d2 <;> first | exact q.elim | skip
      cases d3 <;> first | exact q.elim | skip
      cases w1
      cases w2
      cases w3
      obtain ⟨⟨b1, b2, b3, b4, rfl⟩, q⟩ := q
      exact ⟨_, _, _, _, rfl, RgC.neg b1 b2 b3 b4, k _ _ _ F' env' m R' (gives_rangeD _ _) q⟩
theorem i_enum {elts : List Expr} {kk : Nat} (C : Ctx X L Φ fb) (hg : gl X.env.scope ("enumerate" : Str) = true) (ha : PE X e (tE X.K Φ io a)) (n : notStar e = true) :
    PI X (.Tuple elts kk tpos) (.Call (.Name "enumerate" p) [e] [] pos) (tI X.K Φ io (.enum a)) := by
  refine ⟨fun pins s σ H R I ⟨g, F, env, P, Rp, w, k⟩ => ?_⟩
  have h : tCons (tE X.K Φ io a) tNil σ H fun vs H1 => ∃ t q xs, vs = [.ref q] ∧ Src X.K t H1 q xs ∧ R (ItP xs.length (fun H => Src X.K t H q xs) (enumF xs)) H1 := one_ Rp w fun v H' F' r env' m R' s q => by
    obtain ⟨d, env2, F2, m2, R2, dn, q⟩ := asV_ok R' s q
    have : ∃ ds, itemsOf d = some ds ∧ P (enumL ds) env2 := by
      cases d <;> first | exact q.elim | exact ⟨_, rfl, q⟩
    obtain ⟨ds, e, q⟩ := this
    obtain ⟨t, q', xs, ev, sq, dt⟩ := den_src dn e
    subst ev
    exact ⟨t, q', xs, rfl, src_same R2.sub sq, k _ _ _ F2 env2 (m.trans m2) R2 (gives_enum sq dt) q⟩
  refine Call_ (ld_blt I (gl_ok hg) (C.blt "enumerate" (by decide)) boot_enumerate (PyProof.Rows.callWith_type1 (thn ((pa_one ha n).run pos pins s σ H _ I h) fun us s1 ⟨vs, H1, I1, r1, q1⟩ => ?_) (star_cons n [] X.env) rfl))
  obtain ⟨t, q, xs, ex, hq, q1⟩ := q1
  subst ex
  cases r1 with
  | cons r rr =>
    cases rr
    cases r
    obtain ⟨its, rv, at_, hz, lt⟩ := inv_src I1 hq
    refine enum_begins1 (begins_src t q its.toArray) at_ fun h' he hit hk => wpAny_pyIter_enum he ?_
    have I2 : Inv X pins σ H1 { s1 with heap := h' } := I1.kept (t' := s1.toks) hk
    refine ⟨s1.heap.objs.size + 1, [s1.heap.objs.size + 1, s1.heap.objs.size], _, _, H1, rfl, I2, turn_enumS t xs q (s1.heap.objs.size + 1) s1.heap.objs.size (Nat.succ_ne_self _) (Nat.ne_of_lt lt) (Nat.ne_of_lt (Nat.lt_succ_of_lt lt)), ⟨⟨.none, he⟩, srcIt_new t hit⟩, fun b hb => ?_, q1⟩
    have e' : b = s1.heap.objs.size + 1 ∨ b = s1.heap.objs.size := by simpa using hb
    have hle : s1.heap.objs.size ≤ b := by
      rcases e' with z | z
      · rw [z]; exact Nat.le_add_right _ _
      · rw [z]; exact Nat.le_refl _
    exact I1.fpOk hle (I1.hok.fresh hle)
theorem i_zip2 {elts : List Expr} {kk : Nat} (C : Ctx X L Φ fb) (hg : gl X.env.scope ("zip" : Str) = true) (ha : PE X e1 (tE X.K Φ io a)) (hb : PE X e2 (tE X.K Φ io b)) (n : notStar e1 = true) (n2 : notStar e2 = true) :
    PI X (.Tuple elts kk tpos) (.Call (.Name "zip" p) [e1, e2] [] pos) (tI X.K Φ io (.zip2 false a b)) := by
  refine ⟨fun pins s σ H R I ⟨g, F, env, P, Rp, w, k⟩ => ?_⟩
  have h : tCons (tE X.K Φ io a) (tCons (tE X.K Φ io b) tNil) σ H fun vs H1 => ∃ t1 t2 q1 q2 xs ys, vs = [.ref q1, .ref q2] ∧ Src X.K t1 H1 q1 xs ∧ Src X.K t2 H1 q2 ys ∧
      R (ItP (min xs.length ys.length) (fun H => Src X.K t1 H q1 xs ∧ Src X.K t2 H q2 ys) (zip2F xs ys)) H1 :=
    two_ (Qv := fun v1 v2 H1 => ∃ t1 t2 q1 q2 xs ys, [v1, v2] = [V.ref q1, V.ref q2] ∧ Src X.K t1 H1 q1 xs ∧ Src X.K t2 H1 q2 ys ∧
      R (ItP (min xs.length ys.length) (fun H => Src X.K t1 H q1 xs ∧ Src X.K t2 H q2 ys) (zip2F xs ys)) H1) Rp w fun v1 v2 H' F' r1 r2 env' m R' s1 s2 q => by
      obtain ⟨d1, env2, F2, m2, R2, dn1, q⟩ := asV_ok R' s1 q
      obtain ⟨d2, env3, F3, m3, R3, dn2, q⟩ := asV_ok R2 (s2.mono m2) q
      split at q
      case h_2 => exact q.elim
      case h_1 ds es e1 e2 =>
        obtain ⟨t1, q1, xs, ev1, sq1, dt1⟩ := den_src (dn1.mono m3) e1
        obtain ⟨t2, q2, ys, ev2, sq2, dt2⟩ := den_src dn2 e2
        subst ev1 ev2
        exact ⟨t1, t2, q1, q2, xs, ys, rfl, src_same R3.sub sq1, src_same R3.sub sq2, k _ _ _ F3 env3 ((m.trans m2).trans m3) R3 (gives_zip2 sq1 dt1 sq2 dt2) q.2⟩
  refine Call_ (ld_blt I (gl_ok hg) (C.blt "zip" (by decide)) PyProof.Rows.boot_zip (PyProof.Rows.callWith_type1 (thn ((pa_two ha hb n n2).run pos pins s σ H _ I h) fun us s1 ⟨vs, H1, I1, r1, q1⟩ => ?_) (star_cons n [e2] X.env) (one_any n2)))
  obtain ⟨t1, t2, qa, qb, xs, ys, ex, hq1, hq2, q1⟩ := q1
  subst ex
  cases r1 with
  | cons r rr =>
    cases rr with
    | cons r' rr =>
      cases rr
      cases r
      cases r'
      obtain ⟨its, rv, at1, _, lt1⟩ := inv_src I1 hq1
      obtain ⟨its2, rv2, at2, _, lt2⟩ := inv_src I1 hq2
      refine zip_begins2 (begins_src t1 qa its.toArray) (begins_src t2 qb its2.toArray) at1 at2 fun h' hz hTI hTO h1 h2 hsz hk => wpAny_pyIter_zip hz ?_
      have I2 : Inv X pins σ H1 { s1 with heap := h' } := I1.kept (t' := s1.toks) hk
      refine ⟨s1.heap.objs.size + 4, [s1.heap.objs.size + 4, s1.heap.objs.size + 2, s1.heap.objs.size + 3, s1.heap.objs.size, s1.heap.objs.size + 1], _, _, H1, rfl, I2, turn_zip2S t1 t2 xs ys qa qb _ _ _ _ _ (zip_sep2 (by simpa using lt1) (by simpa using lt2)) (Nat.ne_of_lt lt1) (Nat.ne_of_lt (Nat.lt_succ_of_lt lt2)),
        ⟨hz, hTI, ⟨_, _, hTO⟩, srcIt_new t1 h1, srcIt_new t2 h2⟩, fun c hcm => ?_, q1⟩
      have e' : c = s1.heap.objs.size + 4 ∨ c = s1.heap.objs.size + 2 ∨ c = s1.heap.objs.size + 3 ∨ c = s1.heap.objs.size ∨ c = s1.heap.objs.size + 1 := by simpa using hcm
      have hle : s1.heap.objs.size ≤ c := by
        rcases e' with z | z | z | z | z
        · rw [z]; exact Nat.le_add_right _ _
        · rw [z]; exact Nat.le_add_right _ _
        · rw [z]; exact Nat.le_add_right _ _
        · rw [z]; exact Nat.le_refl _
        · rw [z]; exact Nat.le_add_right _ _
      exact I1.fpOk hle (I1.hok.fresh hle)
end
end Co

set_option linter.all false
/-! Co28: list(range(..)), such a list over and over. -/
namespace Co
open PySem PySem.Spec PyProof.Rows L2
section
variable {X : Cx} {L : List (String × List Bool)} {Φ : Tbl} {fb : Str → Bool} {io : List Nat} {a b k x : E} {e e1 e2 : Expr} {p p2 pos pos2 : Pos}
theorem den_rg {K : Frag} {F : Hp} : ∀ (l : List Nat) (lo : Int), DenAll K F (l.map fun i => V.int (lo + (i : Nat))) (l.map fun (k : Nat) => PyData.int (lo + (k : Int)))
  | [], _ => .nil
  | x :: l, lo => .cons (.int _) (den_rg l lo)
theorem e_rg1 (C : Ctx X L Φ fb) (hl : gl X.env.scope ("list" : Str) = true) (hr : gl X.env.scope ("range" : Str) = true) (ha : PE X e (tE X.K Φ io a)) (n : notStar e = true) :
    PE X (.Call (.Name "list" p) [.Call (.Name "range" p2) [e] [] pos2] [] pos) (tE X.K Φ io (.rg1 a)) :=
  PE.weak (pe_listRg C.calm (gl_ok hl) (C.blt "list" (by decide)) (prg_1 (gl_ok hr) (C.blt "range" (by decide)) ha (star_cons n [] X.env))) fun σ H Q ⟨g, F, env, P, Rp, w, k⟩ => one_ Rp w fun v H' F' r env' m R' s q => by
    obtain ⟨d, vw, q⟩ := pk_view R' s q
    cases d <;> first | exact q.elim | skip
    cases vw
    rename_i j
    obtain ⟨z1, z2, z3, q⟩ := q
    have eL : LINE = 2 ^ 24 := by decide
    refine ⟨j, rfl, ⟨by decide, by decide, z1, z2, by rw [Int.sub_zero]; omega⟩, fun p' n' => ?_⟩
    obtain ⟨F6, m6, R6, rd6⟩ := out_ok R' (.own (d := .list (rangeL 0 j.toNat)) (o := .lst (rgV 0 j)) n' ⟨_, upd_same, by
      unfold rgV rangeL
      rw [Int.sub_zero]
      exact den_rg _ _⟩)
    exact k _ _ F6 _ env' (m.trans m6) R6 rd6 q
theorem e_rgT (C : Ctx X L Φ fb) (hl : gl X.env.scope ("tuple" : Str) = true) (hr : gl X.env.scope ("range" : Str) = true) (ha : PE X e (tE X.K Φ io a)) (n : notStar e = true) :
    PE X (.Call (.Name "tuple" p) [.Call (.Name "range" p2) [e] [] pos2] [] pos) (tE X.K Φ io (.rgT a)) :=
  PE.weak (pe_tupRg C.calm (gl_ok hl) (C.blt "tuple" (by decide)) (prg_1 (gl_ok hr) (C.blt "range" (by decide)) ha (star_cons n [] X.env))) fun σ H Q ⟨g, F, env, P, Rp, w, k⟩ => one_ Rp w fun v H' F' r env' m R' s q => by
    obtain ⟨d, vw, q⟩ := pk_view R' s q
    cases d <;> first | exact q.elim | skip
    cases vw
    rename_i j
    obtain ⟨z1, z2, z3, q⟩ := q
    have eL : LINE = 2 ^ 24 := by decide
    refine ⟨j, rfl, ⟨by decide, by decide, z1, z2, by rw [Int.sub_zero]; omega⟩, fun p' n' => ?_⟩
    obtain ⟨F6, m6, R6, rd6⟩ := out_ok R' (.tup (xs := rgV 0 j) (ds := rangeL 0 j.toNat) n' (by
      unfold rgV rangeL
      rw [Int.sub_zero]
      exact den_rg _ _))
    exact k _ _ F6 _ env' (m.trans m6) R6 rd6 q
theorem e_rg2 (C : Ctx X L Φ fb) (hl : gl X.env.scope ("list" : Str) = true) (hr : gl X.env.scope ("range" : Str) = true) (ha : PE X e1 (tE X.K Φ io a)) (hb : PE X e2 (tE X.K Φ io b)) (n : notStar e1 = true) (n2 : notStar e2 = true) :
    PE X (.Call (.Name "list" p) [.Call (.Name "range" p2) [e1, e2] [] pos2] [] pos) (tE X.K Φ io (.rg2 a b)) :=
  PE.weak (pe_listRg C.calm (gl_ok hl) (C.blt "list" (by decide)) (prg_2 (gl_ok hr) (C.blt "range" (by decide)) ha hb (star_cons n [e2] X.env) (star_cons n2 [] X.env) (by rw [star_cons n2 [] X.env]; rfl))) fun σ H Q ⟨g, F, env, P, Rp, w, k⟩ =>
    two_ (Qv := fun v1 v2 H2 => ∃ i j : Int, v1 = V.int i ∧ v2 = V.int j ∧ RgOk i j ∧ ∀ q, H2 q = none → Q (.ref q) (upd H2 q (.lst (rgV i j)))) Rp w fun v1 v2 H' F' r1 r2 env' m R' s1 s2 q => by
    obtain ⟨d1, vw1, q⟩ := pk_view R' s1 q
    obtain ⟨d2, vw2, q⟩ := pk_view R' s2 q
    cases d1 <;> first | exact q.elim | skip
    cases d2 <;> first | exact q.elim | skip
    cases vw1
    cases vw2
    rename_i i q0 j
    obtain ⟨⟨z1, z2, z3, z4⟩, z5, q⟩ := q
    have eL : LINE = 2 ^ 24 := by decide
    refine ⟨_, _, rfl, rfl, ⟨z1, z2, z3, z4, by omega⟩, fun p' n' => ?_⟩
    obtain ⟨F6, m6, R6, rd6⟩ := out_ok R' (.own (d := .list (rangeL i (j - i).toNat)) (o := .lst (rgV i j)) n' ⟨_, upd_same, den_rg _ _⟩)
    exact k _ _ F6 _ env' (m.trans m6) R6 rd6 q
theorem e_orep (hx : PE X e1 (tE X.K Φ io x)) (ha : PE X e2 (tE X.K Φ io k)) : PE X (.BinOp e1 .Mult e2 pos) (tE X.K Φ io (.orep x k)) :=
  PE.weak (pe_op op_rep hx ha) fun σ H Q ⟨g, F, env, Q', Rp, w, kk⟩ => ⟨g, F, env, _, Rp, w, fun v H1 F1 r env1 m1 R1 rd q1 => by
    cases r with
    | val d => exact q1.elim
    | pl i => exact q1.elim
    | own d =>
      cases d <;> first | exact q1.elim | skip
      rename_i ds
      obtain ⟨p, rfl, hF, ⟨vs, hp0, dn⟩, h0, ht, ho⟩ := rd
      have R2 := R1.share hF hp0 h0 ho (fun q hq z' => by
        obtain ⟨_, _, w, hw⟩ := R1.ins q hq
        rw [z', h0] at hw; cases hw) ht
      have m2 : Same F1 (upd F1 p (.lst vs)) := same_add hF
      refine one_ R2 q1 fun v5 H5 F5 r5 env5 m5 R5 s5 q5 => ?_
      obtain ⟨d5, w5, q5⟩ := pk_view R5 s5 q5
      cases d5 <;> first | exact q5.elim | skip
      obtain ⟨z1, z2, z3, q5⟩ := q5
      cases w5
      have hp : H5 p = some (.lst vs) := R5.sub _ _ (m5 _ _ upd_same)
      refine ⟨p, _, vs, rfl, rfl, hp, z1, z2, ?_, fun p' n' => ?_⟩
      · rw [dn.length]; exact line_le z3
      · have dn5 : DenAll X.K F5 vs ds := dn.mono (m2.trans m5)
        obtain ⟨F6, m6, R6, rd6⟩ := out_ok R5 (.own (d := .list (List.replicate _ ds).flatten) (o := .lst (List.replicate _ vs).flatten) n' ⟨_, upd_same, dn5.rep _⟩)
        exact kk _ _ F6 _ env5 (((m1.trans m2).trans m5).trans m6) R6 rd6 q5⟩
end
end Co

set_option linter.all false
/-! Co23: zip with strict=False or strict=True, given by its name. -/
namespace PySem
open Sem (wp)
namespace Zk
section
variable {prog : Program} {w : World} {A : Around} {E : Value → Shared → Prop} {s : Shared}
theorem meetsKw {T newId initId : String} {Bn Bi : Builtin} {args : List Value} {kw : List (Str × Value)} {S : Spec} {Q Q₁ : Value → Shared → Prop} (ft : TypeCalled T newId initId)
    (hct : checkTypeCall T ⟨args, kw⟩ = pure ()) (hcn : checkBuiltinCall newId ⟨.type T :: args, kw⟩ = pure ())
    (entryN : entryFor table newId = some Bn) (entryI : entryFor table initId = some Bi) (g : Meets (Bn ⟨.type T :: args, kw⟩) S)
    (h : S A.in1 (wants Q₁ E) s)
    (hnext : ∀ obj s₁, Q₁ obj s₁ → s₁.TypeIs obj T ∧ argsOk initId ⟨obj :: args, kw⟩ ∧ ∃ Si, Meets (Bi ⟨obj :: args, kw⟩) Si ∧ Si A.in1 (wants (fun r s₂ => r = .none ∧ Q obj s₂) E) s₁) :
    wpAny (model prog w) A (call (.type T) args kw) Q E s := by
  obtain ⟨c, tl, hmro⟩ := ft.mro
  have hmade := ft.made
  have hsub := ft.sub
  refine wpAny_call (codeAny_of_tree ?_)
  show wpAny _ _ (callAny (.type T) _) _ _ _
  refine wpAny_pure ⟨Code.quiet_builtin _ (by decide +kernel), codeAny_builtin F.entry_type_call ?_⟩
  rw [Around.under_plain (weight_type_call_type T args kw) (units_type_call_type T args kw)]
  have h1 := ft.notType
  have h2 := ft.canCreate
  repeat (any_goals (first | assumption | wp_step))
  refine codeAny_mono (codeAny_call_builtin ft.plain entryN (wpAny_of_eq hcn (g prog w A.in1 _ s h))) fun r s₁ hr => ?_
  cases r with
  | error e => exact hr
  | ok fl =>
    cases fl with
    | ret obj =>
      obtain ⟨hT, hok, Si, gi, hsi⟩ := hnext _ _ hr
      have hli := ft.init.lookup
      have hbi := ft.init.bind obj
      repeat (any_goals (first | assumption | wp_step))
      refine codeAny_mono (codeAny_call_builtin ft.init.plain entryI (ft.init.check _ _ _ _ _ _ _ _ hT hok (gi prog w A.in1 _ s₁ hsi))) fun r₂ s₂ hr₂ => ?_
      cases r₂ with
      | error e => exact hr₂
      | ok fl₂ =>
        cases fl₂ with
        | ret r =>
          obtain ⟨rfl, hq⟩ := hr₂
          repeat (any_goals (first | assumption | wp_step))
        | _ => exact hr₂.elim
    | _ => exact hr.elim
theorem initKw {T newId : String} {self a : Value} {rest : List Value} {kw : List (Str × Value)} (hl : typeLookup (.type T) "__init__" = pure (some (.builtin "object.__init__")))
    (hm : Bind.madeBy (.type T) = pure (some newId)) (hne : (some newId != some "object.__new__") = true) :
    Meets (Builtin.«object.__init__» ⟨self :: a :: rest, kw⟩) (fun _ R s => s.TypeIs self T ∧ R (.ok (.ret .none)) s) := by
  refine Meets.of_wp fun prog w A R s hs => ?_
  obtain ⟨hT, hq⟩ := hs
  repeat (any_goals (first | assumption | wp_step))
  exact ⟨_, rfl, hq⟩
theorem newKw {T newId : String} {Bn : Builtin} {a : Value} {rest : List Value} {kw : List (Str × Value)} {S : Spec} {Q : Value → Shared → Prop} (ft : TypeCalled T newId "object.__init__")
    (hne : (some newId != some "object.__new__") = true) (hct : checkTypeCall T ⟨a :: rest, kw⟩ = pure ()) (hcn : checkBuiltinCall newId ⟨.type T :: a :: rest, kw⟩ = pure ())
    (hok : ∀ obj, argsOk "object.__init__" ⟨obj :: a :: rest, kw⟩) (entryN : entryFor table newId = some Bn) (g : Meets (Bn ⟨.type T :: a :: rest, kw⟩) S)
    (h : S A.in1 (wants (fun obj s₁ => s₁.TypeIs obj T ∧ Q obj s₁) E) s) : wpAny (model prog w) A (call (.type T) (a :: rest) kw) Q E s :=
  meetsKw ft hct hcn entryN F.entry_object_init g h fun obj _ hq =>
    ⟨hq.1, hok obj, _, initKw ft.init.lookup ft.made hne, hq.1, rfl, hq.2⟩
theorem tc (a b c : Value) : checkTypeCall "zip" ⟨[a, b], [(Str.ofString "strict", c)]⟩ = pure () := by kernel_rfl
theorem nc (a b c : Value) : checkBuiltinCall "zip.__new__" ⟨[.type "zip", a, b], [(Str.ofString "strict", c)]⟩ = pure () := by kernel_rfl
theorem ai (obj a b c : Value) : argsOk "object.__init__" ⟨[obj, a, b], [(Str.ofString "strict", c)]⟩ := by unfold argsOk; kernel_rfl
/-- a zip that is strict or not -/
abbrev IsZ (st : Bool) (h : Heap) (z TI TO : Addr) (f0 : Value) : Prop :=
  h.get? z = some { cls := .type "zip", dict := none, data := .fields #[f0, .bool false, .bool st, .ref TI, .ref TO], slots := #[] }
abbrev zZ (st : Bool) (h : Heap) (o1 o2 : Obj) : Heap := (gzO2 h o1 o2).push { cls := .type "zip", data := .fields #[.none, .bool false, .bool st, .ref ((h.push o1).push o2).objs.size, .ref (gzT2 h o1 o2).objs.size] }
theorem meets_new (st : Bool) {v1 v2 : Value} {o1 o2 : Obj} {H1 H2 : Heap → Prop} (B1 : Begins v1 o1 H1) (B2 : Begins v2 o2 H2) :
    Meets (Builtin.«zip.__new__» ⟨[.type "zip", v1, v2], [(Str.ofString "strict", .bool st)]⟩) (fun _ R s => (H1 s.heap ∧ H2 s.heap) ∧
      R (.ok (.ret (.ref (gzO2 s.heap o1 o2).objs.size))) { s with heap := zZ st s.heap o1 o2 }) :=
  .of_wp fun prog w A R s h => by
    obtain ⟨hp, g, d, tk, os⟩ := s; obtain ⟨⟨h1, h2⟩, h⟩ := h
    have hsub := sub_zip
    have q1 : ∀ {A' : Around} {E : Value → Shared → Prop} {Q : Value → Shared → Prop}, Q (.ref hp.objs.size) ⟨(hp.push o1), g, d, tk, os⟩ → wpAny (model prog w) A' (pyIter v1) Q E ⟨hp, g, d, tk, os⟩ :=
      fun q => B1.iter prog w _ _ ⟨hp, g, d, tk, os⟩ _ (B1.keeps _ _ h1 fun b o' e => e) q
    have q2 : ∀ {A' : Around} {E : Value → Shared → Prop} {Q : Value → Shared → Prop}, Q (.ref (hp.push o1).objs.size) ⟨((hp.push o1).push o2), g, d, tk, os⟩ → wpAny (model prog w) A' (pyIter v2) Q E ⟨(hp.push o1), g, d, tk, os⟩ :=
      fun q => B2.iter prog w _ _ ⟨(hp.push o1), g, d, tk, os⟩ _ (B2.keeps _ _ h2 fun b o' e => (Heap.get?_push_of_some _ e)) q
    have e1 : (Str.ofString "strict" != ("strict" : Str)) = false := by decide +kernel
    cases st
    · wp_walk using q1, q2
      exact ⟨_, rfl, h⟩
    · wp_walk using q1, q2
      exact ⟨_, rfl, h⟩
theorem begins (st : Bool) {v1 v2 : Value} {o1 o2 : Obj} {H1 H2 : Heap → Prop} {Q : Value → Shared → Prop} (B1 : Begins v1 o1 H1) (B2 : Begins v2 o2 H2) (h1 : H1 s.heap) (h2 : H2 s.heap)
    (h : ∀ h', IsZ st h' (s.heap.objs.size + 4) (s.heap.objs.size + 2) (s.heap.objs.size + 3) .none → IsTupOf2 h' (s.heap.objs.size + 2) (.ref s.heap.objs.size) (.ref (s.heap.objs.size + 1)) →
      IsTupOf2 h' (s.heap.objs.size + 3) .none .none → h'.get? s.heap.objs.size = some o1 → h'.get? (s.heap.objs.size + 1) = some o2 → h'.objs.size = s.heap.objs.size + 5 →
      (∀ c o, s.heap.get? c = some o → h'.get? c = some o) → Q (.ref (s.heap.objs.size + 4)) { s with heap := h' }) :
    wpAny (model prog w) A (call (.type "zip") [v1, v2] [(Str.ofString "strict", .bool st)]) Q E s := by
  refine newKw F.called_zip (by decide) (tc _ _ _) (nc _ _ _) (fun obj => ai obj _ _ _) F.entry_zip_new
    (meets_new st B1 B2) ⟨⟨h1, h2⟩, ?_⟩
  have z1 : (s.heap.push o1).objs.size = s.heap.objs.size + 1 := by rw [Heap.size_push]
  have z2 : ((s.heap.push o1).push o2).objs.size = s.heap.objs.size + 2 := by rw [Heap.size_push, z1]
  have zT : (gzT2 s.heap o1 o2).objs.size = s.heap.objs.size + 3 := by rw [Heap.size_push, z2]
  have zO : (gzO2 s.heap o1 o2).objs.size = s.heap.objs.size + 4 := by rw [Heap.size_push, zT]
  have zz : (zZ st s.heap o1 o2).objs.size = s.heap.objs.size + 5 := by rw [Heap.size_push, zO]
  have gZ : (zZ st s.heap o1 o2).get? (gzO2 s.heap o1 o2).objs.size = some { cls := .type "zip", data := .fields #[.none, .bool false, .bool st, .ref ((s.heap.push o1).push o2).objs.size, .ref (gzT2 s.heap o1 o2).objs.size] } := Heap.get?_push_size _ rfl
  have gO : (zZ st s.heap o1 o2).get? (gzT2 s.heap o1 o2).objs.size = some { cls := .type "tuple", data := .seq #[.none, .none] } := Heap.get?_push_of_some _ (Heap.get?_push_size _ rfl)
  have gT : (zZ st s.heap o1 o2).get? ((s.heap.push o1).push o2).objs.size = some { cls := .type "tuple", data := .seq #[.ref s.heap.objs.size, .ref (s.heap.push o1).objs.size] } := Heap.get?_push_of_some _ (Heap.get?_push_of_some _ (Heap.get?_push_size _ rfl))
  have g1 : (zZ st s.heap o1 o2).get? s.heap.objs.size = some o1 := Heap.get?_push_of_some _ (Heap.get?_push_of_some _ (Heap.get?_push_of_some _ (Heap.get?_push_of_some _ (Heap.get?_push_size _ B1.free))))
  have g2 : (zZ st s.heap o1 o2).get? (s.heap.push o1).objs.size = some o2 := Heap.get?_push_of_some _ (Heap.get?_push_of_some _ (Heap.get?_push_of_some _ (Heap.get?_push_size _ B2.free)))
  rw [zO, zT, z2] at gZ
  rw [zT] at gO
  rw [z2, z1] at gT
  rw [z1] at g2
  show _ ∧ _
  rw [zO]
  exact ⟨⟨_, gZ, rfl⟩, h _ gZ gT gO g1 g2 zz fun c o e => Heap.get?_push_of_some _ (Heap.get?_push_of_some _ (Heap.get?_push_of_some _ (Heap.get?_push_of_some _ (Heap.get?_push_of_some _ e))))⟩
theorem pyIter_Z {st : Bool} {z TI TO : Addr} {f0 : Value} {Q : Value → Shared → Prop} (hz : IsZ st s.heap z TI TO f0) (h : Q (.ref z) s) : wpAny (model prog w) A (pyIter (.ref z)) Q E s := by
  have hT : s.TypeIs (.ref z) "zip" := ⟨_, hz, rfl⟩
  refine wpAny_pyIter_slot hT F.slot_zip_iter (wpAny_call_entry F.slot_zip_iter hT F.entry_zip_iter ?_ (F.args_zip_iter_1 _))
  show wpAny _ _ (ret (.ref z)) _ _ s
  exact wpAny_pure ⟨_, rfl, "zip", _, hT, F.slot_zip_next.lookup, h⟩
end
end Zk
end PySem
namespace Co
open PySem PySem.Spec PyProof.Rows L2
section
variable {M : Model} {A : Around} {E : Value → Shared → Prop} {s : Shared} {env : PySem.Env}
theorem callWith_typeK {pos : Pos} {T : String} {e : Expr} {rest : List Expr} {kws : List Keyword} {Q : Value → Shared → Prop}
    (h : wpAny M A (spliced (backTo pos (starEach (e :: rest) env))) (fun vs s₁ => wpAny M A (evalAll ((backToKw pos (keywordEach kws env)).map (·.2)))
      (fun ks s₂ => wpAny M A (call (.type T) vs (((backToKw pos (keywordEach kws env)).filterMap (·.1)).zip ks)) Q E s₂) E s₁) E s)
    (he : starEach (e :: rest) env = (false, eval e env) :: starEach rest env)
    (hplain : (backTo pos (starEach rest env)).any (·.1) = false)
    (hall : (backToKw pos (keywordEach kws env)).all (·.1.isSome) = true) (hno : (backToKw pos (keywordEach kws env)).any (·.1.isNone) = false) :
    wpAny M A (callWith pos (.type T) [] (backTo pos (starEach (e :: rest) env)) (backToKw pos (keywordEach kws env))) Q E s := by
  have hp : (backTo pos (starEach (e :: rest) env)).any (·.1) = false := by
    rw [he]
    show (false || (backTo pos (starEach rest env)).any (·.1)) = false
    rw [hplain]; rfl
  unfold callWith
  refine wpAny_bind (wpAny_holding (wpAny_mono (evalArgs_kw2 (Q := fun a s₁ => wpAny M A (call (.type T) a.pos a.kw) Q E s₁) hall h he) (fun a s₁ h₁ => wpAny_bind (wpAny_standAt ?_)) fun _ _ x => x))
  simp only [hp, hno, Bool.or_false]
  refine wpAny_bind (wpAny_pure ?_)
  exact wpAny_bind (wpAny_mono h₁ (fun r s₂ hr => wpAny_bind (wpAny_holding (wpAny_point (wpAny_pure hr)))) fun _ _ x => x)
end
open PySem.Zk in
/-- zip's turns, strict or not -/
def ZTurn (X : Cx) (st : Bool) : Prop := ∀ (elts : List Expr) (kk : Nat) (tpos : Pos) (t1 t2 : Bool) (xs ys : List V) (a b z TI TO i1 i2 : Addr), (st = true → xs.length = ys.length) → ZipSep2 z TI TO i1 i2 [i1, a] [i2, b] → a ≠ i1 → b ≠ i2 →
    Turn X.prog X.w X.K (.Tuple elts kk tpos) (ItP (min xs.length ys.length) (fun H => Src X.K t1 H a xs ∧ Src X.K t2 H b ys) (zip2F xs ys)) [z, TI, TO, i1, i2] z
      (fun i h => IsZ st h z TI TO .none ∧ IsTupOf2 h TI (.ref i1) (.ref i2) ∧ (∃ a1 a2, IsTupOf2 h TO a1 a2) ∧ SrcIt t1 h i1 a i ∧ SrcIt t2 h i2 b i)
theorem zturn_false (X : Cx) : ZTurn X false := fun elts kk tpos t1 t2 xs ys a b z TI TO i1 i2 _ S ha hb => turn_zip2S t1 t2 xs ys a b z TI TO i1 i2 S ha hb
section
variable {X : Cx} {L : List (String × List Bool)} {Φ : Tbl} {fb : Str → Bool} {io : List Nat} {tg e e1 e2 e3 : Expr} {a b : E} {pos p kp cp tpos : Pos}
theorem i_zip2K {elts : List Expr} {kk ck : Nat} {st : Bool} (ZT : ZTurn X st) (C : Ctx X L Φ fb) (hg : gl X.env.scope ("zip" : Str) = true) (ha : PE X e1 (tE X.K Φ io a)) (hb : PE X e2 (tE X.K Φ io b)) (n : notStar e1 = true) (n2 : notStar e2 = true) :
    PI X (.Tuple elts kk tpos) (.Call (.Name "zip" p) [e1, e2] [⟨some (Str.ofString "strict"), .Constant (.bool st) ck cp, kp⟩] pos) (tI X.K Φ io (.zip2 st a b)) := by
  refine ⟨fun pins s σ H R I ⟨g, F, env, P, Rp, w, k⟩ => ?_⟩
  have h : tCons (tE X.K Φ io a) (tCons (tE X.K Φ io b) tNil) σ H fun vs H1 => ∃ t1 t2 q1 q2 xs ys, vs = [.ref q1, .ref q2] ∧ Src X.K t1 H1 q1 xs ∧ Src X.K t2 H1 q2 ys ∧ (st = true → xs.length = ys.length) ∧
      R (ItP (min xs.length ys.length) (fun H => Src X.K t1 H q1 xs ∧ Src X.K t2 H q2 ys) (zip2F xs ys)) H1 :=
    two_ (Qv := fun v1 v2 H1 => ∃ t1 t2 q1 q2 xs ys, [v1, v2] = [V.ref q1, V.ref q2] ∧ Src X.K t1 H1 q1 xs ∧ Src X.K t2 H1 q2 ys ∧ (st = true → xs.length = ys.length) ∧
      R (ItP (min xs.length ys.length) (fun H => Src X.K t1 H q1 xs ∧ Src X.K t2 H q2 ys) (zip2F xs ys)) H1) Rp w fun v1 v2 H' F' r1 r2 env' m R' s1 s2 q => by
      obtain ⟨d1, env2, F2, m2, R2, dn1, q⟩ := asV_ok R' s1 q
      obtain ⟨d2, env3, F3, m3, R3, dn2, q⟩ := asV_ok R2 (s2.mono m2) q
      split at q
      case h_2 => exact q.elim
      case h_1 ds es e1 e2 =>
        obtain ⟨t1, q1, xs, ev1, sq1, dt1⟩ := den_src (dn1.mono m3) e1
        obtain ⟨t2, q2, ys, ev2, sq2, dt2⟩ := den_src dn2 e2
        subst ev1 ev2
        exact ⟨t1, t2, q1, q2, xs, ys, rfl, src_same R3.sub sq1, src_same R3.sub sq2, fun z => by rw [dt1.length, dt2.length]; exact q.1 z, k _ _ _ F3 env3 ((m.trans m2).trans m3) R3 (gives_zip2 sq1 dt1 sq2 dt2) q.2⟩
  refine wpAny_Call_Name_kw (ld_blt I (gl_ok hg) (C.blt "zip" (by decide)) PyProof.Rows.boot_zip (callWith_typeK (thn ((pa_two ha hb n n2).run pos pins s σ H _ I h) fun us s1 ⟨vs, H1, I1, r1, q1⟩ => ?_) (star_cons n [e2] X.env) (one_any n2) rfl rfl))
  obtain ⟨t1, t2, qa, qb, xs, ys, ex, hq1, hq2, hl, q1⟩ := q1
  subst ex
  refine kwAll_cons ?_
  refine wpAny_pure ?_
  refine kwAll_nil ?_
  cases r1 with
  | cons r rr =>
    cases rr with
    | cons r' rr =>
      cases rr
      cases r
      cases r'
      obtain ⟨its, rv, at1, _, lt1⟩ := inv_src I1 hq1
      obtain ⟨its2, rv2, at2, _, lt2⟩ := inv_src I1 hq2
      refine PySem.Zk.begins st (begins_src t1 qa its.toArray) (begins_src t2 qb its2.toArray) at1 at2 fun h' hz hTI hTO h1 h2 hsz hk => PySem.Zk.pyIter_Z hz ?_
      have I2 : Inv X pins σ H1 { s1 with heap := h' } := I1.kept (t' := s1.toks) hk
      refine ⟨s1.heap.objs.size + 4, [s1.heap.objs.size + 4, s1.heap.objs.size + 2, s1.heap.objs.size + 3, s1.heap.objs.size, s1.heap.objs.size + 1], _, _, H1, rfl, I2, ZT _ _ _ t1 t2 xs ys qa qb _ _ _ _ _ hl (zip_sep2 (by simpa using lt1) (by simpa using lt2)) (Nat.ne_of_lt lt1) (Nat.ne_of_lt (Nat.lt_succ_of_lt lt2)),
        ⟨hz, hTI, ⟨_, _, hTO⟩, srcIt_new t1 h1, srcIt_new t2 h2⟩, fun c hcm => ?_, q1⟩
      have e' : c = s1.heap.objs.size + 4 ∨ c = s1.heap.objs.size + 2 ∨ c = s1.heap.objs.size + 3 ∨ c = s1.heap.objs.size ∨ c = s1.heap.objs.size + 1 := by simpa using hcm
      have hle : s1.heap.objs.size ≤ c := by
        rcases e' with z | z | z | z | z
        · rw [z]; exact Nat.le_add_right _ _
        · rw [z]; exact Nat.le_add_right _ _
        · rw [z]; exact Nat.le_add_right _ _
        · rw [z]; exact Nat.le_refl _
        · rw [z]; exact Nat.le_add_right _ _
      exact I1.fpOk hle (I1.hok.fresh hle)
end
end Co

set_option linter.all false
/-! Co38: zip of three, plain or with strict=False. -/
namespace PySem
open Sem (wp)
namespace Zk
section
variable {prog : Program} {w : World} {A : Around} {E : Value → Shared → Prop} {s : Shared}
theorem tc3 (a b c d : Value) : checkTypeCall "zip" ⟨[a, b, c], [(Str.ofString "strict", d)]⟩ = pure () := by kernel_rfl
theorem nc3 (a b c d : Value) : checkBuiltinCall "zip.__new__" ⟨[.type "zip", a, b, c], [(Str.ofString "strict", d)]⟩ = pure () := by kernel_rfl
theorem ai3 (obj a b c d : Value) : argsOk "object.__init__" ⟨[obj, a, b, c], [(Str.ofString "strict", d)]⟩ := by unfold argsOk; kernel_rfl
theorem meets_new3 {v1 v2 v3 : Value} {o1 o2 o3 : Obj} {H1 H2 H3 : Heap → Prop} (B1 : Begins v1 o1 H1) (B2 : Begins v2 o2 H2) (B3 : Begins v3 o3 H3) :
    Meets (Builtin.«zip.__new__» ⟨[.type "zip", v1, v2, v3], [(Str.ofString "strict", .bool false)]⟩) (fun _ R s => (H1 s.heap ∧ H2 s.heap ∧ H3 s.heap) ∧
      R (.ok (.ret (.ref (gzO3 s.heap o1 o2 o3).objs.size))) { s with heap := gzZ3 s.heap o1 o2 o3 }) :=
  .of_wp fun prog w A R s h => by
    obtain ⟨hp, g, d, tk, os⟩ := s; obtain ⟨⟨h1, h2, h3⟩, h⟩ := h
    have hsub := sub_zip
    have q1 : ∀ {A' : Around} {E : Value → Shared → Prop} {Q : Value → Shared → Prop}, Q (.ref hp.objs.size) ⟨(hp.push o1), g, d, tk, os⟩ → wpAny (model prog w) A' (pyIter v1) Q E ⟨hp, g, d, tk, os⟩ :=
      fun q => B1.iter prog w _ _ ⟨hp, g, d, tk, os⟩ _ (B1.keeps _ _ h1 fun b o' e => e) q
    have q2 : ∀ {A' : Around} {E : Value → Shared → Prop} {Q : Value → Shared → Prop}, Q (.ref (hp.push o1).objs.size) ⟨((hp.push o1).push o2), g, d, tk, os⟩ → wpAny (model prog w) A' (pyIter v2) Q E ⟨(hp.push o1), g, d, tk, os⟩ :=
      fun q => B2.iter prog w _ _ ⟨(hp.push o1), g, d, tk, os⟩ _ (B2.keeps _ _ h2 fun b o' e => (Heap.get?_push_of_some _ e)) q
    have q3 : ∀ {A' : Around} {E : Value → Shared → Prop} {Q : Value → Shared → Prop}, Q (.ref ((hp.push o1).push o2).objs.size) ⟨(((hp.push o1).push o2).push o3), g, d, tk, os⟩ → wpAny (model prog w) A' (pyIter v3) Q E ⟨((hp.push o1).push o2), g, d, tk, os⟩ :=
      fun q => B3.iter prog w _ _ ⟨((hp.push o1).push o2), g, d, tk, os⟩ _ (B3.keeps _ _ h3 fun b o' e => (Heap.get?_push_of_some _ (Heap.get?_push_of_some _ e))) q
    have e1 : (Str.ofString "strict" != ("strict" : Str)) = false := by decide +kernel
    wp_walk using q1, q2, q3
    exact ⟨_, rfl, h⟩
theorem begins3 {v1 v2 v3 : Value} {o1 o2 o3 : Obj} {H1 H2 H3 : Heap → Prop} {Q : Value → Shared → Prop} (B1 : Begins v1 o1 H1) (B2 : Begins v2 o2 H2) (B3 : Begins v3 o3 H3) (h1 : H1 s.heap) (h2 : H2 s.heap) (h3 : H3 s.heap)
    (h : ∀ h', IsZip h' (s.heap.objs.size + 5) (s.heap.objs.size + 3) (s.heap.objs.size + 4) .none → IsTupOf3 h' (s.heap.objs.size + 3) (.ref s.heap.objs.size) (.ref (s.heap.objs.size + 1)) (.ref (s.heap.objs.size + 2)) →
      IsTupOf3 h' (s.heap.objs.size + 4) .none .none .none → h'.get? s.heap.objs.size = some o1 → h'.get? (s.heap.objs.size + 1) = some o2 → h'.get? (s.heap.objs.size + 2) = some o3 → h'.objs.size = s.heap.objs.size + 6 →
      (∀ c o, s.heap.get? c = some o → h'.get? c = some o) → Q (.ref (s.heap.objs.size + 5)) { s with heap := h' }) :
    wpAny (model prog w) A (call (.type "zip") [v1, v2, v3] [(Str.ofString "strict", .bool false)]) Q E s := by
  refine newKw F.called_zip (by decide) (tc3 _ _ _ _) (nc3 _ _ _ _) (fun obj => ai3 obj _ _ _ _) F.entry_zip_new
    (meets_new3 B1 B2 B3) ⟨⟨h1, h2, h3⟩, ?_⟩
  have z1 : (s.heap.push o1).objs.size = s.heap.objs.size + 1 := by rw [Heap.size_push]
  have z2 : ((s.heap.push o1).push o2).objs.size = s.heap.objs.size + 2 := by rw [Heap.size_push, z1]
  have z3 : (((s.heap.push o1).push o2).push o3).objs.size = s.heap.objs.size + 3 := by rw [Heap.size_push, z2]
  have zT : (gzT3 s.heap o1 o2 o3).objs.size = s.heap.objs.size + 4 := by rw [Heap.size_push, z3]
  have zO : (gzO3 s.heap o1 o2 o3).objs.size = s.heap.objs.size + 5 := by rw [Heap.size_push, zT]
  have zZ : (gzZ3 s.heap o1 o2 o3).objs.size = s.heap.objs.size + 6 := by rw [Heap.size_push, zO]
  have gZ : (gzZ3 s.heap o1 o2 o3).get? (gzO3 s.heap o1 o2 o3).objs.size = some { cls := .type "zip", data := .fields #[.none, .bool false, .bool false, .ref (((s.heap.push o1).push o2).push o3).objs.size, .ref (gzT3 s.heap o1 o2 o3).objs.size] } := Heap.get?_push_size _ rfl
  have gO : (gzZ3 s.heap o1 o2 o3).get? (gzT3 s.heap o1 o2 o3).objs.size = some { cls := .type "tuple", data := .seq #[.none, .none, .none] } := Heap.get?_push_of_some _ (Heap.get?_push_size _ rfl)
  have gT : (gzZ3 s.heap o1 o2 o3).get? (((s.heap.push o1).push o2).push o3).objs.size = some { cls := .type "tuple", data := .seq #[.ref s.heap.objs.size, .ref (s.heap.push o1).objs.size, .ref ((s.heap.push o1).push o2).objs.size] } := Heap.get?_push_of_some _ (Heap.get?_push_of_some _ (Heap.get?_push_size _ rfl))
  have g1 : (gzZ3 s.heap o1 o2 o3).get? s.heap.objs.size = some o1 := Heap.get?_push_of_some _ (Heap.get?_push_of_some _ (Heap.get?_push_of_some _ (Heap.get?_push_of_some _ (Heap.get?_push_of_some _ (Heap.get?_push_size _ B1.free)))))
  have g2 : (gzZ3 s.heap o1 o2 o3).get? (s.heap.push o1).objs.size = some o2 := Heap.get?_push_of_some _ (Heap.get?_push_of_some _ (Heap.get?_push_of_some _ (Heap.get?_push_of_some _ (Heap.get?_push_size _ B2.free))))
  have g3 : (gzZ3 s.heap o1 o2 o3).get? ((s.heap.push o1).push o2).objs.size = some o3 := Heap.get?_push_of_some _ (Heap.get?_push_of_some _ (Heap.get?_push_of_some _ (Heap.get?_push_size _ B3.free)))
  rw [zO, zT, z3] at gZ
  rw [zT] at gO
  rw [z3, z2, z1] at gT
  rw [z1] at g2
  rw [z2] at g3
  show _ ∧ _
  rw [zO]
  exact ⟨⟨_, gZ, rfl⟩, h _ gZ gT gO g1 g2 g3 zZ fun c o e => Heap.get?_push_of_some _ (Heap.get?_push_of_some _ (Heap.get?_push_of_some _ (Heap.get?_push_of_some _ (Heap.get?_push_of_some _ (Heap.get?_push_of_some _ e)))))⟩
end
end Zk
end PySem
namespace Co
open PySem PySem.Spec PyProof.Rows L2
section
variable {X : Cx} {L : List (String × List Bool)} {Φ : Tbl} {fb : Str → Bool} {io : List Nat} {tg e e1 e2 e3 : Expr} {a b c : E} {pos p kp cp tpos : Pos}
theorem zip3_args {σ : L2.St} {F H : Hp} {g : Gh} {env : Env} {st : Bool} {P : List PyData → Env → Prop} {J0 : L2.It → Hp → Prop} (h : Rep X.K io g env σ F H) (w : wpI Φ (.zip3 st a b c) env P)
    (k : ∀ (ds es fs : List PyData) (H' F' : Hp) (env' : Env) (J : L2.It), Same F F' → Rep X.K io g env' σ F' H' → Gives X.K F' J (pairs3 ds es fs) → P (pairs3 ds es fs) env' → J0 J H') :
    tCons (tE X.K Φ io a) (tCons (tE X.K Φ io b) (tCons (tE X.K Φ io c) tNil)) σ H fun vs H1 => ∃ t1 t2 t3 q1 q2 q3 xs ys zs, vs = [.ref q1, .ref q2, .ref q3] ∧ Src X.K t1 H1 q1 xs ∧ Src X.K t2 H1 q2 ys ∧ Src X.K t3 H1 q3 zs ∧
      J0 (ItP (min (min xs.length ys.length) zs.length) (fun H => Src X.K t1 H q1 xs ∧ Src X.K t2 H q2 ys ∧ Src X.K t3 H q3 zs) (zip3F xs ys zs)) H1 :=
  three_ (Qv := fun v1 v2 v3 H1 => ∃ t1 t2 t3 q1 q2 q3 xs ys zs, [v1, v2, v3] = [V.ref q1, V.ref q2, V.ref q3] ∧ Src X.K t1 H1 q1 xs ∧ Src X.K t2 H1 q2 ys ∧ Src X.K t3 H1 q3 zs ∧
      J0 (ItP (min (min xs.length ys.length) zs.length) (fun H => Src X.K t1 H q1 xs ∧ Src X.K t2 H q2 ys ∧ Src X.K t3 H q3 zs) (zip3F xs ys zs)) H1) h w fun v1 v2 v3 H' F' r1 r2 r3 env' m R' s1 s2 s3 q => by
    obtain ⟨d1, env2, F2, m2, R2, dn1, q⟩ := asV_ok R' s1 q
    obtain ⟨d2, env3, F3, m3, R3, dn2, q⟩ := asV_ok R2 (s2.mono m2) q
    obtain ⟨d3, env4, F4, m4, R4, dn3, q⟩ := asV_ok R3 (s3.mono (m2.trans m3)) q
    split at q
    case h_2 => exact q.elim
    case h_1 ds es fs e1 e2 e3 =>
      obtain ⟨t1, q1, xs, ev1, sq1, dt1⟩ := den_src (dn1.mono (m3.trans m4)) e1
      obtain ⟨t2, q2, ys, ev2, sq2, dt2⟩ := den_src (dn2.mono m4) e2
      obtain ⟨t3, q3, zs, ev3, sq3, dt3⟩ := den_src dn3 e3
      subst ev1 ev2 ev3
      exact ⟨t1, t2, t3, q1, q2, q3, xs, ys, zs, rfl, src_same R4.sub sq1, src_same R4.sub sq2, src_same R4.sub sq3, k ds es fs _ F4 env4 _ (((m.trans m2).trans m3).trans m4) R4 (gives_zip3 sq1 dt1 sq2 dt2 sq3 dt3) q.2⟩
theorem new_six {N : Nat} {c : Addr} (hc : c ∈ [N + 5, N + 3, N + 4, N, N + 1, N + 2]) : N ≤ c := by
  have e : c = N + 5 ∨ c = N + 3 ∨ c = N + 4 ∨ c = N ∨ c = N + 1 ∨ c = N + 2 := by simpa using hc
  rcases e with z | z | z | z | z | z
  · rw [z]; exact Nat.le_add_right _ _
  · rw [z]; exact Nat.le_add_right _ _
  · rw [z]; exact Nat.le_add_right _ _
  · rw [z]; exact Nat.le_refl _
  · rw [z]; exact Nat.le_add_right _ _
  · rw [z]; exact Nat.le_add_right _ _
theorem i_zip3 {elts : List Expr} {kk : Nat} (C : Ctx X L Φ fb) (hg : gl X.env.scope ("zip" : Str) = true) (ha : PE X e1 (tE X.K Φ io a)) (hb : PE X e2 (tE X.K Φ io b)) (hc : PE X e3 (tE X.K Φ io c)) (n : notStar e1 = true) (n2 : notStar e2 = true) (n3 : notStar e3 = true) :
    PI X (.Tuple elts kk tpos) (.Call (.Name "zip" p) [e1, e2, e3] [] pos) (tI X.K Φ io (.zip3 false a b c)) := by
  refine ⟨fun pins s σ H R I ⟨g, F, env, P, Rp, w, k⟩ => ?_⟩
  have h := zip3_args (J0 := R) Rp w fun ds es fs H' F' env' J m R' gv q => k _ _ _ F' env' m R' gv q
  refine Call_ (ld_blt I (gl_ok hg) (C.blt "zip" (by decide)) PyProof.Rows.boot_zip (PyProof.Rows.callWith_type1 (thn ((pa_cons ha (pa_two hb hc n2 n3) (star_cons n [e2, e3] X.env)).run pos pins s σ H _ I h) fun us s1 ⟨vs, H1, I1, r1, q1⟩ => ?_) (star_cons n [e2, e3] X.env) (star_any (by simp [n2, n3]))))
  obtain ⟨t1, t2, t3, qa, qb, qc, xs, ys, zs, ex, hq1, hq2, hq3, q1⟩ := q1
  subst ex
  cases r1 with
  | cons r rr =>
    cases rr with
    | cons r' rr =>
      cases rr with
      | cons r'' rr =>
      cases rr
      cases r
      cases r'
      cases r''
      obtain ⟨its, rv, at1, _, lt1⟩ := inv_src I1 hq1
      obtain ⟨its2, rv2, at2, _, lt2⟩ := inv_src I1 hq2
      obtain ⟨its3, rv3, at3, _, lt3⟩ := inv_src I1 hq3
      refine zip_begins3 (begins_src t1 qa its.toArray) (begins_src t2 qb its2.toArray) (begins_src t3 qc its3.toArray) at1 at2 at3 fun h' hz hTI hTO h1 h2 h3 hsz hk => wpAny_pyIter_zip hz ?_
      have I2 : Inv X pins σ H1 { s1 with heap := h' } := I1.kept (t' := s1.toks) hk
      refine ⟨s1.heap.objs.size + 5, [s1.heap.objs.size + 5, s1.heap.objs.size + 3, s1.heap.objs.size + 4, s1.heap.objs.size, s1.heap.objs.size + 1, s1.heap.objs.size + 2], _, _, H1, rfl, I2,
        turn_zip3S t1 t2 t3 xs ys zs qa qb qc _ _ _ _ _ _ (zip_sep3 (by simpa using lt1) (by simpa using lt2) (by simpa using lt3)) (Nat.ne_of_lt lt1) (Nat.ne_of_lt (Nat.lt_succ_of_lt lt2)) (Nat.ne_of_lt (Nat.lt_succ_of_lt (Nat.lt_succ_of_lt lt3))),
        ⟨hz, hTI, ⟨_, _, _, hTO⟩, srcIt_new t1 h1, srcIt_new t2 h2, srcIt_new t3 h3⟩, fun c hcm => ?_, q1⟩
      have hle := new_six hcm
      exact I1.fpOk hle (I1.hok.fresh hle)
theorem i_zip3K {elts : List Expr} {kk ck : Nat} (C : Ctx X L Φ fb) (hg : gl X.env.scope ("zip" : Str) = true) (ha : PE X e1 (tE X.K Φ io a)) (hb : PE X e2 (tE X.K Φ io b)) (hc : PE X e3 (tE X.K Φ io c)) (n : notStar e1 = true) (n2 : notStar e2 = true) (n3 : notStar e3 = true) :
    PI X (.Tuple elts kk tpos) (.Call (.Name "zip" p) [e1, e2, e3] [⟨some (Str.ofString "strict"), .Constant (.bool false) ck cp, kp⟩] pos) (tI X.K Φ io (.zip3 false a b c)) := by
  refine ⟨fun pins s σ H R I ⟨g, F, env, P, Rp, w, k⟩ => ?_⟩
  have h := zip3_args (J0 := R) Rp w fun ds es fs H' F' env' J m R' gv q => k _ _ _ F' env' m R' gv q
  refine wpAny_Call_Name_kw (ld_blt I (gl_ok hg) (C.blt "zip" (by decide)) PyProof.Rows.boot_zip (callWith_typeK (thn ((pa_cons ha (pa_two hb hc n2 n3) (star_cons n [e2, e3] X.env)).run pos pins s σ H _ I h) fun us s1 ⟨vs, H1, I1, r1, q1⟩ => ?_) (star_cons n [e2, e3] X.env) (star_any (by simp [n2, n3])) rfl rfl))
  obtain ⟨t1, t2, t3, qa, qb, qc, xs, ys, zs, ex, hq1, hq2, hq3, q1⟩ := q1
  subst ex
  refine kwAll_cons ?_
  refine wpAny_pure ?_
  refine kwAll_nil ?_
  cases r1 with
  | cons r rr =>
    cases rr with
    | cons r' rr =>
      cases rr with
      | cons r'' rr =>
      cases rr
      cases r
      cases r'
      cases r''
      obtain ⟨its, rv, at1, _, lt1⟩ := inv_src I1 hq1
      obtain ⟨its2, rv2, at2, _, lt2⟩ := inv_src I1 hq2
      obtain ⟨its3, rv3, at3, _, lt3⟩ := inv_src I1 hq3
      refine PySem.Zk.begins3 (begins_src t1 qa its.toArray) (begins_src t2 qb its2.toArray) (begins_src t3 qc its3.toArray) at1 at2 at3 fun h' hz hTI hTO h1 h2 h3 hsz hk => wpAny_pyIter_zip hz ?_
      have I2 : Inv X pins σ H1 { s1 with heap := h' } := I1.kept (t' := s1.toks) hk
      refine ⟨s1.heap.objs.size + 5, [s1.heap.objs.size + 5, s1.heap.objs.size + 3, s1.heap.objs.size + 4, s1.heap.objs.size, s1.heap.objs.size + 1, s1.heap.objs.size + 2], _, _, H1, rfl, I2,
        turn_zip3S t1 t2 t3 xs ys zs qa qb qc _ _ _ _ _ _ (zip_sep3 (by simpa using lt1) (by simpa using lt2) (by simpa using lt3)) (Nat.ne_of_lt lt1) (Nat.ne_of_lt (Nat.lt_succ_of_lt lt2)) (Nat.ne_of_lt (Nat.lt_succ_of_lt (Nat.lt_succ_of_lt lt3))),
        ⟨hz, hTI, ⟨_, _, _, hTO⟩, srcIt_new t1 h1, srcIt_new t2 h2, srcIt_new t3 h3⟩, fun c hcm => ?_, q1⟩
      have hle := new_six hcm
      exact I1.fpOk hle (I1.hok.fresh hle)
end
end Co

set_option linter.all false
/-! Co26: the turns of a strict zip over two iterators of equal length. -/
namespace PySem
open Sem (wp)
namespace Zk
section
variable {prog : Program} {w : World} {A : Around} {E : Value → Shared → Prop} {s : Shared} {z TI TO i1 i2 it : Addr} {fp fp1 fp2 : List Addr} {n i : Nat} {P P1 P2 : Nat → Value → Prop} {St St1 St2 : Nat → Heap → Prop} {a1 a2 : Value}
theorem noe_item {Q : Option Value → Shared → Prop} (D : Draws prog w A it fp n P St) (hi : i < n) (st : St i s.heap)
    (h : ∀ x h' tk, P i x → St (i + 1) h' → Heap.SameBut it s.heap h' → Q (some x) { s with heap := h', toks := tk }) : wpAny (model prog w) A (Builtin.SmallTypes.nextOrEnd (.ref it)) Q E s := by
  unfold Builtin.SmallTypes.nextOrEnd
  exact wpAny_bind (wpAny_attempt (D.item i s _ _ hi st fun x h' tk p st' sb => wpAny_pure (h x h' tk p st' sb)))
theorem noe_end {Q : Option Value → Shared → Prop} (D : Draws prog w A it fp n P St) (st : St n s.heap)
    (h : ∀ h', Heap.ExtBut it s.heap h' → Q none { s with heap := h' }) : wpAny (model prog w) A (Builtin.SmallTypes.nextOrEnd (.ref it)) Q E s := by
  unfold Builtin.SmallTypes.nextOrEnd
  refine wpAny_bind (wpAny_attempt (D.done s _ _ st fun h' e k he => ?_))
  obtain ⟨o, ho, hc⟩ := he
  refine wpAny_bind (wpAny_isInstance (T := "StopIteration") (b := true) ⟨o, ho, hc⟩ isSubtype_stop ?_)
  exact wpAny_pure (h h' k)
theorem stop_it {α : Type} {Q : α → Shared → Prop} (hh : A.handled = none)
    (h : ∀ h' e, (∀ b o, s.heap.get? b = some o → h'.get? b = some o) → (∃ o, h'.get? e = some o ∧ o.cls = .type "StopIteration") → E (.ref e) { s with heap := h' }) :
    wpAny (model prog w) A (Builtin.SmallTypes.stopIteration : Sem α) Q E s := by
  unfold Builtin.SmallTypes.stopIteration
  show wpAny _ _ (newExc (.type "StopIteration") [] >>= _) _ _ _
  refine wpAny_bind ?_
  simp only [newExc, newTuple]
  refine wpAny_bind (wpAny_newObj_type ?_ (by size_fits))
  refine wpAny_bind (m := firstArgMember _ _) (wpAny_of_eq (a := Value.none) (by first | rfl | (simp only [firstArgMember]; rfl)) ?_)
  refine wpAny_newObj_type ?_ (by size_fits)
  simp only [raiseNew]
  refine wpAny_bind (wpAny_handled ?_)
  first | rw [show A.in1.handled = none from hh] | rw [hh]
  refine wpAny_bind (wpAny_pure (wpAny_throw ?_))
  exact h _ _ (fun b o e => Heap.get?_push_of_some _ (Heap.get?_push_of_some _ e)) ⟨_, Heap.get?_push_size _ rfl, rfl⟩

theorem next_item {Q : Value → Shared → Prop} (S : ZipSep2 z TI TO i1 i2 fp1 fp2) (D1 : Draws prog w A i1 fp1 n P1 St1) (D2 : Draws prog w A i2 fp2 n P2 St2)
    (hz : IsZ true s.heap z TI TO .none) (hTI : IsTupOf2 s.heap TI (.ref i1) (.ref i2)) (hTO : IsTupOf2 s.heap TO a1 a2) (st1 : St1 i s.heap) (st2 : St2 i s.heap) (hlt : i < n)
    (hQ : ∀ x1 x2 h' tk, P1 i x1 → P2 i x2 → IsZ true h' z TI TO (rawInt s.heap.objs.size) → IsTupOf2 h' TO x1 x2 → St1 (i + 1) h' → St2 (i + 1) h' → IsTupOf2 h' s.heap.objs.size x1 x2 → h'.objs.size = s.heap.objs.size + 1 →
      (∀ c o, c ≠ z → c ≠ TO → c ≠ i1 → c ≠ i2 → s.heap.get? c = some o → h'.get? c = some o) → Q (.ref s.heap.objs.size) { s with heap := h', toks := tk }) :
    wpAny (model prog w) A (Builtin.«zip.__next__» ⟨[.ref z], []⟩) (fun fin s' => ∃ v, fin = .done (.ret v) ∧ Q v s') E s := by
  obtain ⟨hp, g, d, tk0, os⟩ := s
  show wpAny _ _ (field (.ref z) 2 >>= _) _ _ _
  refine wpAny_bind (wpAny_field hz rfl (x := .bool true) rfl ?_)
  show wpAny _ _ (field (.ref z) 3 >>= _) _ _ _
  refine wpAny_bind (wpAny_field hz rfl (x := .ref TI) rfl ?_)
  refine wpAny_bind (wpAny_seqItems hTI rfl ?_)
  show wpAny _ _ (Builtin.SmallTypes.ownedTupleIsFree (.ref z) >>= _) _ _ _
  refine wpAny_bind ?_
  unfold Builtin.SmallTypes.ownedTupleIsFree
  refine wpAny_bind (wpAny_field hz rfl (x := .none) rfl (wpAny_pure ?_))
  simp only [if_true]
  refine wpAny_bind (wpAny_rule ?_)
  refine wpAny_bind (wpAny_field hz rfl (x := .ref TO) rfl ?_)
  refine wpAny_bind (wpAny_setField_rec hz (by simp) fun g0 hz0 hs0 => ?_)
  replace hz0 : IsZ true g0 z TI TO .ellipsis := hz0
  replace hs0 : Heap.SameBut z hp g0 := hs0
  refine wpAny_bind ?_
  simp only [List.zipIdx_cons, List.zipIdx_nil, List.forIn_cons, List.forIn_nil]
  refine wpAny_bind (wpAny_bind (wpAny_onRaise ?_))
  show wpAny _ _ (Builtin.SmallTypes.nextOrEnd (.ref i1)) _ _ ⟨g0, g, d, tk0, os⟩
  refine noe_item (s := ⟨g0, g, d, tk0, os⟩) D1 hlt (D1.over st1 hs0 S.zf1) fun x1 p1 tk1 hx1 sn1 hp1 => ?_
  replace hp1 : Heap.SameBut i1 g0 p1 := hp1
  have hU1 : IsTupOf2 p1 TO a1 a2 := hp1.extBut _ _ S.Ti1 (hs0.extBut _ _ S.TOz hTO)
  refine wpAny_bind (wpAny_seqItems (s := ⟨p1, g, d, tk1, os⟩) hU1 rfl ?_)
  refine wpAny_bind (updateSeq_IsTupOf2 (s := ⟨p1, g, d, tk1, os⟩) hU1 fun g1 hT1 hs1 => ?_)
  replace hT1 : IsTupOf2 g1 TO x1 a2 := hT1
  replace hs1 : Heap.SameBut TO p1 g1 := hs1
  refine wpAny_bind (wpAny_letGo (wpAny_pure ?_))
  refine wpAny_bind (wpAny_bind (wpAny_onRaise ?_))
  show wpAny _ _ (Builtin.SmallTypes.nextOrEnd (.ref i2)) _ _ ⟨g1, g, d, tk1, os⟩
  refine noe_item (s := ⟨g1, g, d, tk1, os⟩) D2 hlt (D2.over (D2.over (D2.over st2 hs0 S.zf2) hp1 S.sep1_2) hs1 S.Tf2) fun x2 p2 tk2 hx2 sn2 hp2 => ?_
  replace hp2 : Heap.SameBut i2 g1 p2 := hp2
  have hU2 : IsTupOf2 p2 TO x1 a2 := hp2.extBut _ _ S.Ti2 hT1
  refine wpAny_bind (wpAny_seqItems (s := ⟨p2, g, d, tk2, os⟩) hU2 rfl ?_)
  refine wpAny_bind (updateSeq_IsTupOf2 (s := ⟨p2, g, d, tk2, os⟩) hU2 fun g2 hT2 hs2 => ?_)
  replace hT2 : IsTupOf2 g2 TO x1 x2 := hT2
  replace hs2 : Heap.SameBut TO p2 g2 := hs2
  refine wpAny_bind (wpAny_letGo (wpAny_pure (wpAny_pure ?_)))
  refine wpAny_bind (wpAny_seqItems (s := ⟨g2, g, d, tk2, os⟩) hT2 rfl ?_)
  refine wpAny_bind (wpAny_newTuple ?_)
  have hsz : g2.objs.size = hp.objs.size := by rw [hs2.1, hp2.1, hs1.1, hp1.1, hs0.1]
  have hzz : IsZ true g2 z TI TO .ellipsis := (hs2.extBut _ _ S.TOz.symm (hp2.extBut _ _ S.zi2 (hs1.extBut _ _ S.TOz.symm (hp1.extBut _ _ S.zi1 hz0))))
  have hkk : ∀ c o, c ≠ z → c ≠ TO → c ≠ i1 → c ≠ i2 → hp.get? c = some o → g2.get? c = some o := fun c o cz cT c1 c2 e =>
    (hs2.extBut _ _ cT (hp2.extBut _ _ c2 (hs1.extBut _ _ cT (hp1.extBut _ _ c1 (hs0.extBut _ _ cz e)))))
  have hj1 : St1 (i + 1) g2 := (D1.over (D1.over (D1.over sn1 hs1 S.Tf1) hp2 S.sep2_1) hs2 S.Tf1)
  have hj2 : St2 (i + 1) g2 := (D2.over sn2 hs2 S.Tf2)
  have hzlt : z < g2.objs.size := Heap.lt_size hzz
  show wpAny _ _ (Builtin.SmallTypes.ownedTupleHandOut (.ref z) (.ref g2.objs.size) >>= _) _ _ ⟨g2.push { cls := .type "tuple", data := .seq #[x1, x2] }, g, d, tk2, os⟩
  refine wpAny_bind ?_
  unfold Builtin.SmallTypes.ownedTupleHandOut
  have hz₆ : IsZ true (g2.push { cls := .type "tuple", data := .seq #[x1, x2] }) z TI TO .ellipsis := Heap.get?_push_of_some _ hzz
  refine wpAny_bind (wpAny_setField_rec hz₆ (by simp) fun h₇ hz₇ hs₇ => ?_)
  replace hz₇ : IsZ true h₇ z TI TO (rawInt g2.objs.size) := hz₇
  refine wpAny_setField_rec hz₇ (by simp) fun h₈ hz₈ hs₈ => ?_
  replace hz₈ : IsZ true h₈ z TI TO (rawInt g2.objs.size) := hz₈
  replace hs₇ : Heap.SameBut z (g2.push { cls := .type "tuple", data := .seq #[x1, x2] }) h₇ := hs₇
  replace hs₈ : Heap.SameBut z h₇ h₈ := hs₈
  have up : ∀ c o, c ≠ z → g2.get? c = some o → h₈.get? c = some o := fun c o c1 e => hs₈.extBut _ _ c1 (hs₇.extBut _ _ c1 (Heap.get?_push_of_some _ e))
  have hT₈ : IsTupOf2 h₈ g2.objs.size x1 x2 := hs₈.extBut _ _ (Nat.ne_of_gt hzlt) (hs₇.extBut _ _ (Nat.ne_of_gt hzlt) (Heap.get?_push_size _ rfl))
  have hz8 : h₈.objs.size = g2.objs.size + 1 := by rw [hs₈.1, hs₇.1, Heap.size_push]
  rw [hsz] at hz₈ hT₈ hz8
  refine wpAny_pure ⟨_, rfl, ?_⟩
  show Q (.ref g2.objs.size) ⟨h₈, g, d, tk2, os⟩
  rw [hsz]
  exact hQ x1 x2 h₈ tk2 hx1 hx2 hz₈ (up _ _ S.TOz hT2) (D1.frame _ _ _ hj1 fun b hb o e => up b o (fun q => S.zf1 (q ▸ hb)) e) (D2.frame _ _ _ hj2 fun b hb o e => up b o (fun q => S.zf2 (q ▸ hb)) e) hT₈ hz8 fun c o cz cT c1 c2 e => up c o cz (hkk c o cz cT c1 c2 e)

theorem next_end {Q : Fin → Shared → Prop} (hh : A.handled = none) (S : ZipSep2 z TI TO i1 i2 fp1 fp2) (D1 : Draws prog w A i1 fp1 n P1 St1) (D2 : Draws prog w A i2 fp2 n P2 St2)
    (hz : IsZ true s.heap z TI TO .none) (hTI : IsTupOf2 s.heap TI (.ref i1) (.ref i2)) (hTO : IsTupOf2 s.heap TO a1 a2) (st1 : St1 n s.heap) (st2 : St2 n s.heap)
    (hE : ∀ h' tk e, (∀ c o, c ≠ z → c ≠ TO → c ≠ i1 → c ≠ i2 → s.heap.get? c = some o → h'.get? c = some o) → (∃ o, h'.get? e = some o ∧ o.cls = .type "StopIteration") → E (.ref e) { s with heap := h', toks := tk }) :
    wpAny (model prog w) A (Builtin.«zip.__next__» ⟨[.ref z], []⟩) Q E s := by
  obtain ⟨hp, g, d, tk0, os⟩ := s
  show wpAny _ _ (field (.ref z) 2 >>= _) _ _ _
  refine wpAny_bind (wpAny_field hz rfl (x := .bool true) rfl ?_)
  show wpAny _ _ (field (.ref z) 3 >>= _) _ _ _
  refine wpAny_bind (wpAny_field hz rfl (x := .ref TI) rfl ?_)
  refine wpAny_bind (wpAny_seqItems hTI rfl ?_)
  show wpAny _ _ (Builtin.SmallTypes.ownedTupleIsFree (.ref z) >>= _) _ _ _
  refine wpAny_bind ?_
  unfold Builtin.SmallTypes.ownedTupleIsFree
  refine wpAny_bind (wpAny_field hz rfl (x := .none) rfl (wpAny_pure ?_))
  simp only [if_true]
  refine wpAny_bind (wpAny_rule ?_)
  refine wpAny_bind (wpAny_field hz rfl (x := .ref TO) rfl ?_)
  refine wpAny_bind (wpAny_setField_rec hz (by simp) fun g0 hz0 hs0 => ?_)
  replace hz0 : IsZ true g0 z TI TO .ellipsis := hz0
  replace hs0 : Heap.SameBut z hp g0 := hs0
  refine wpAny_bind ?_
  simp only [List.zipIdx_cons, List.zipIdx_nil, List.forIn_cons, List.forIn_nil]
  refine wpAny_bind (wpAny_bind (wpAny_onRaise ?_))
  show wpAny _ _ (Builtin.SmallTypes.nextOrEnd (.ref i1)) _ _ ⟨g0, g, d, tk0, os⟩
  refine noe_end (s := ⟨g0, g, d, tk0, os⟩) D1 (D1.over st1 hs0 S.zf1) fun p1 hp1 => ?_
  replace hp1 : Heap.ExtBut i1 g0 p1 := hp1
  have hz1 : IsZ true p1 z TI TO .ellipsis := hp1 _ _ S.zi1 hz0
  refine wpAny_bind (wpAny_setField_rec (s := ⟨p1, g, d, tk0, os⟩) hz1 (by simp) fun p2 hz2 hs2 => ?_)
  replace hs2 : Heap.SameBut z p1 p2 := hs2
  refine wpAny_bind ?_
  have hz2' : IsZ true p2 z TI TO .none := hz2
  show wpAny _ _ (_ >>= fun _ => (rule "zip.__next__.all-ended" >>= fun _ => Builtin.SmallTypes.stopIteration)) _ _ ⟨p2, g, d, tk0, os⟩
  refine wpAny_bind ?_
  show wpAny _ _ (forIn [(Value.ref i2, 1)] _ _) _ _ ⟨p2, g, d, tk0, os⟩
  rw [List.forIn_cons]
  refine wpAny_bind ?_
  show wpAny _ _ (Builtin.SmallTypes.nextOrEnd (.ref i2) >>= _) _ _ ⟨p2, g, d, tk0, os⟩
  have st2' : St2 n p2 := D2.over (D2.frame _ _ _ (D2.over st2 hs0 S.zf2) fun b hb o e => hp1 b o (fun q => S.sep1_2 (q ▸ hb)) e) hs2 S.zf2
  refine wpAny_bind (noe_end (s := ⟨p2, g, d, tk0, os⟩) D2 st2' fun p3 hp3 => ?_)
  replace hp3 : Heap.ExtBut i2 p2 p3 := hp3
  refine wpAny_pure ?_
  simp only [List.forIn_nil]
  refine wpAny_pure ?_
  refine wpAny_bind (wpAny_rule ?_)
  refine stop_it (s := ⟨p3, g, d, tk0, os⟩) hh fun h' e k he => ?_
  exact hE h' tk0 e (fun c o cz cT c1 c2 x => k c o (hp3 c o c2 (hs2.extBut _ _ cz (hp1 c o c1 (hs0.extBut _ _ cz x))))) he

theorem pyNext_item {Q : Option Value → Shared → Prop} (S : ZipSep2 z TI TO i1 i2 fp1 fp2) (D1 : Draws prog w A.in1 i1 fp1 n P1 St1) (D2 : Draws prog w A.in1 i2 fp2 n P2 St2)
    (hz : IsZ true s.heap z TI TO .none) (hTI : IsTupOf2 s.heap TI (.ref i1) (.ref i2)) (hTO : IsTupOf2 s.heap TO a1 a2) (st1 : St1 i s.heap) (st2 : St2 i s.heap) (hlt : i < n)
    (hQ : ∀ x1 x2 h' tk, P1 i x1 → P2 i x2 → IsZ true h' z TI TO (rawInt s.heap.objs.size) → IsTupOf2 h' TO x1 x2 → St1 (i + 1) h' → St2 (i + 1) h' → IsTupOf2 h' s.heap.objs.size x1 x2 → h'.objs.size = s.heap.objs.size + 1 →
      (∀ c o, c ≠ z → c ≠ TO → c ≠ i1 → c ≠ i2 → s.heap.get? c = some o → h'.get? c = some o) → Q (some (.ref s.heap.objs.size)) { s with heap := h', toks := tk }) :
    wpAny (model prog w) A (pyNext (.ref z)) Q E s := by
  have hT : s.TypeIs (.ref z) "zip" := ⟨_, hz, rfl⟩
  unfold pyNext
  exact wpAny_bind (wpAny_attempt (wpAny_callSpecial?_slot (name := Str.ofString "__next__") hT F.slot_zip_next
    (wpAny_call_entry F.slot_zip_next hT F.entry_zip_next
      (next_item S D1 D2 hz hTI hTO st1 st2 hlt fun x1 x2 h' tk y1 y2 b1 b2 d1 d2 b5 b6 b7 => wpAny_pure (hQ x1 x2 h' tk y1 y2 b1 b2 d1 d2 b5 b6 b7)) (F.args_zip_next_1 _))))
theorem pyNext_end {Q : Option Value → Shared → Prop} (hh : A.handled = none) (S : ZipSep2 z TI TO i1 i2 fp1 fp2) (D1 : Draws prog w A.in1 i1 fp1 n P1 St1) (D2 : Draws prog w A.in1 i2 fp2 n P2 St2)
    (hz : IsZ true s.heap z TI TO .none) (hTI : IsTupOf2 s.heap TI (.ref i1) (.ref i2)) (hTO : IsTupOf2 s.heap TO a1 a2) (st1 : St1 n s.heap) (st2 : St2 n s.heap)
    (hQ : ∀ h' tk, (∀ c o, c ≠ z → c ≠ TO → c ≠ i1 → c ≠ i2 → s.heap.get? c = some o → h'.get? c = some o) → Q none { s with heap := h', toks := tk }) : wpAny (model prog w) A (pyNext (.ref z)) Q E s := by
  have hT : s.TypeIs (.ref z) "zip" := ⟨_, hz, rfl⟩
  unfold pyNext
  refine wpAny_bind (wpAny_attempt (wpAny_callSpecial?_slot (name := Str.ofString "__next__") hT F.slot_zip_next
    (wpAny_call_entry F.slot_zip_next hT F.entry_zip_next (next_end (by simpa using hh) S D1 D2 hz hTI hTO st1 st2 fun h' tk e hk he => ?_) (F.args_zip_next_1 _))))
  obtain ⟨o, ho, hc⟩ := he
  refine wpAny_bind (wpAny_isInstance (T := "StopIteration") (b := true) ⟨o, ho, hc⟩ isSubtype_stop ?_)
  exact wpAny_pure (hQ _ _ hk)
theorem go_Z {elts : List Expr} {x1} {pos : Pos} {T : Addr} {Q : Unit → Shared → Prop} (hz : IsZ true s.heap z TI TO (rawInt T))
    (hQ : ∀ h', IsZ true h' z TI TO .none → Heap.SameBut z s.heap h' → Q () { s with heap := h' }) :
    wpAny (model prog w) A (letOwnedTupleGo (.Tuple elts x1 pos) (.ref z) (.ref T)) Q E s := by
  unfold letOwnedTupleGo
  refine wpAny_bind (wpAny_load hz ?_)
  show wpAny _ _ (if (["enumerate", "zip", "dict_itemiterator", "dict_reverseitemiterator", "odict_iterator", "itertools.zip_longest", "itertools.pairwise"].contains "zip" &&
      (#[rawInt T, .bool false, .bool true, .ref TI, .ref TO] : Array Value)[0]? == some (rawInt T)) = true then _ else _) Q E s
  rw [if_pos (by simp)]
  refine wpAny_bind (wpAny_rule ?_)
  show wpAny _ _ (setField (.ref z) 0 .none) Q E s
  exact wpAny_setField_rec hz (by simp) fun h' hz' hs' => hQ h' hz' hs'
theorem walks (hh : A.handled = none) (S : ZipSep2 z TI TO i1 i2 fp1 fp2) (D1 : Draws prog w A.in1 i1 fp1 n P1 St1) (D2 : Draws prog w A.in1 i2 fp2 n P2 St2) :
    WalksT prog w A z (z :: TI :: TO :: (fp1 ++ fp2)) [z, TO, i1, i2] n
      (fun i vals => ∃ x1 x2, P1 i x1 ∧ P2 i x2 ∧ vals = #[x1, x2])
      (fun i h => IsZ true h z TI TO .none ∧ IsTupOf2 h TI (.ref i1) (.ref i2) ∧ (∃ a1 a2, IsTupOf2 h TO a1 a2) ∧ St1 i h ∧ St2 i h)
      (fun i T h => IsZ true h z TI TO (rawInt T) ∧ IsTupOf2 h TI (.ref i1) (.ref i2) ∧ (∃ a1 a2, IsTupOf2 h TO a1 a2) ∧ St1 (i + 1) h ∧ St2 (i + 1) h ∧ T ≠ z ∧ T ≠ TO ∧ T ≠ i1 ∧ T ≠ i2) where
  sub := fun c hc => by
    have hc' : c = z ∨ c = TO ∨ c = i1 ∨ c = i2 := by simpa using hc
    rcases hc' with rfl | rfl | rfl | rfl
    · exact List.mem_cons_self ..
    · exact List.mem_cons_of_mem _ (List.mem_cons_of_mem _ (List.mem_cons_self ..))
    · exact List.mem_cons_of_mem _ (List.mem_cons_of_mem _ (List.mem_cons_of_mem _ (List.mem_append_left _ S.mem1)))
    · exact List.mem_cons_of_mem _ (List.mem_cons_of_mem _ (List.mem_cons_of_mem _ (List.mem_append_right _ S.mem2)))
  frame := fun i h h' hst hk => by
    obtain ⟨hz, hTI, ⟨a1, a2, hTO⟩, st1, st2⟩ := hst
    exact ⟨hk z (List.mem_cons_self ..) _ hz, hk TI (List.mem_cons_of_mem _ (List.mem_cons_self ..)) _ hTI, ⟨a1, a2, hk TO (List.mem_cons_of_mem _ (List.mem_cons_of_mem _ (List.mem_cons_self ..))) _ hTO⟩,
      D1.frame _ _ _ st1 fun b hb o e => hk b (List.mem_cons_of_mem _ (List.mem_cons_of_mem _ (List.mem_cons_of_mem _ (List.mem_append_left _ hb)))) o e, D2.frame _ _ _ st2 fun b hb o e => hk b (List.mem_cons_of_mem _ (List.mem_cons_of_mem _ (List.mem_cons_of_mem _ (List.mem_append_right _ hb)))) o e⟩
  item := fun i s Q E hi hst hQ => by
    obtain ⟨hz, hTI, ⟨a1, a2, hTO⟩, st1, st2⟩ := hst
    refine pyNext_item S D1 D2 hz hTI hTO st1 st2 hi fun x1 x2 h' tk y1 y2 b1 b2 d1 d2 b5 b6 hk => ?_
    have lt : ∀ {c o}, s.heap.get? c = some o → s.heap.objs.size ≠ c := fun e => Nat.ne_of_gt (Heap.lt_size e)
    have l1 : s.heap.objs.size ≠ i1 := by obtain ⟨_, e⟩ := D1.live _ _ st1; exact lt e
    have l2 : s.heap.objs.size ≠ i2 := by obtain ⟨_, e⟩ := D2.live _ _ st2; exact lt e
    exact hQ s.heap.objs.size #[x1, x2] h' tk ⟨x1, x2, y1, y2, rfl⟩ (Nat.le_refl _) ⟨_, b5, rfl, _, rfl⟩
      ⟨b1, hk _ _ S.TIz S.TITO S.TIi1 S.TIi2 hTI, ⟨_, _, b2⟩, d1, d2, lt hz, lt hTO, l1, l2⟩
      fun c o hc e => hk c o (fun x => hc (by simp [x])) (fun x => hc (by simp [x])) (fun x => hc (by simp [x])) (fun x => hc (by simp [x])) e
  go := fun elts k pos i T s Q E hm hQ => by
    obtain ⟨hz, hTI, ⟨a1, a2, hTO⟩, st1, st2, _⟩ := hm
    refine go_Z hz fun h' hz' hs' => hQ h' ⟨hz', hs'.extBut _ _ S.TIz hTI, ⟨a1, a2, hs'.extBut _ _ S.TOz hTO⟩, D1.over st1 hs' S.zf1, D2.over st2 hs' S.zf2⟩ fun c o hc e => hs'.extBut _ _ (fun x => hc (by simp [x])) e
  apart := fun i T h hm hT => by
    obtain ⟨_, _, _, _, _, tz, tT, t1, t2⟩ := hm
    have hT' : T = z ∨ T = TO ∨ T = i1 ∨ T = i2 := by simpa using hT
    rcases hT' with e | e | e | e
    · exact tz e
    · exact tT e
    · exact t1 e
    · exact t2 e
  done := fun s Q E hst hQ => by
    obtain ⟨hz, hTI, ⟨a1, a2, hTO⟩, st1, st2⟩ := hst
    exact pyNext_end hh S D1 D2 hz hTI hTO st1 st2 fun h' tk hk => hQ h' tk fun c o hc e =>
      hk c o (fun x => hc (by simp [x])) (fun x => hc (by simp [x])) (fun x => hc (by simp [x])) (fun x => hc (by simp [x])) e
  self := fun i s Q E hst hQ => pyIter_Z hst.1 hQ
end
end Zk
end PySem
namespace Co
open PySem PySem.Spec PyProof.Rows L2 PySem.Zk
theorem turn_zip2Z {P : Program} {w : World} {K : Frag} {elts : List Expr} {kk : Nat} {tpos : Pos} (t1 t2 : Bool) (xs ys : List V) (a b z TI TO i1 i2 : Addr) (hl : xs.length = ys.length) (S : ZipSep2 z TI TO i1 i2 [i1, a] [i2, b]) (ha : a ≠ i1) (hb : b ≠ i2) :
    Turn P w K (.Tuple elts kk tpos) (ItP (min xs.length ys.length) (fun H => Src K t1 H a xs ∧ Src K t2 H b ys) (zip2F xs ys)) [z, TI, TO, i1, i2] z
      (fun i h => IsZ true h z TI TO .none ∧ IsTupOf2 h TI (.ref i1) (.ref i2) ∧ (∃ a1 a2, IsTupOf2 h TO a1 a2) ∧ SrcIt t1 h i1 a i ∧ SrcIt t2 h i2 b i) := by
  have hm : min xs.length ys.length = xs.length := by rw [← hl, Nat.min_self]
  rw [hm]
  refine turn_W (by simp) (fun i h st c hc => ?_) (fun i h h' st k => ?_) (fun X pins s σ H hP hw hK hc I hg => ?_) fun A i s Q E st h => pyIter_Z st.1 h
  · obtain ⟨hz, hTI, ⟨x, y, hTO⟩, h1, h2⟩ := st
    have e' : c = z ∨ c = TI ∨ c = TO ∨ c = i1 ∨ c = i2 := by simpa using hc
    rcases e' with q | q | q | q | q
    · rw [q]; exact ⟨_, hz, fun v q => nomatch q⟩
    · rw [q]; exact ⟨_, hTI, fun v q => nomatch q⟩
    · rw [q]; exact ⟨_, hTO, fun v q => nomatch q⟩
    · rw [q]; exact h1.obj
    · rw [q]; exact h2.obj
  · obtain ⟨hz, hTI, ⟨x, y, hTO⟩, h1, h2⟩ := st
    exact ⟨k z (by simp) _ hz, k TI (by simp) _ hTI, ⟨x, y, k TO (by simp) _ hTO⟩, h1.keep fun o q => k i1 (by simp) o q, h2.keep fun o q => k i2 (by simp) o q⟩
  · subst hP hw hK
    obtain ⟨its, r, at_, _, _⟩ := inv_src I hg.1
    obtain ⟨its2, r2, at2, _, _⟩ := inv_src I hg.2
    have D1 := draws_src t1 (prog := X.prog) (w := X.w) (A := X.A.in1) (I.ok.hd hc) i1 a ha its.toArray
    have D2 := draws_src t2 (prog := X.prog) (w := X.w) (A := X.A.in1) (I.ok.hd hc) i2 b hb its2.toArray
    have hn : its.toArray.size = xs.length := by rw [List.size_toArray, r.length]
    have hn2 : its2.toArray.size = xs.length := by
      have := r2.length
      rw [List.size_toArray]; omega
    rw [hn] at D1
    rw [hn2] at D2
    refine ⟨_, _, _, _, _, walks (I.ok.hd hc) S D1 D2, fun i st => ⟨st.1, st.2.1, st.2.2.1, ⟨st.2.2.2.1, at_⟩, st.2.2.2.2, at2⟩, fun i h' st => ⟨st.1, st.2.1, st.2.2.1, st.2.2.2.1.1, st.2.2.2.2.1⟩, fun c hc => ?_, fun i vals hi ⟨x1, x2, hx, hy, ev⟩ => ?_⟩
    · have e' : c = z ∨ c = TO ∨ c = i1 ∨ c = i2 := by simpa using hc
      rcases e' with q | q | q | q <;> simp [q]
    · obtain ⟨v, hv, rv⟩ := vals_get r hx
      obtain ⟨v2, hv2, rv2⟩ := vals_get r2 hy
      subst ev
      exact ⟨[v, v2], .cons rv (.cons rv2 .nil), by simp, v, v2, hv, hv2, rfl⟩
theorem zturn (X : Cx) (st : Bool) : ZTurn X st := by
  cases st
  · exact zturn_false X
  · exact fun elts kk tpos t1 t2 xs ys a b z TI TO i1 i2 hl S ha hb => turn_zip2Z t1 t2 xs ys a b z TI TO i1 i2 (hl rfl) S ha hb
end Co

set_option linter.all false
/-! Co14: targets, list comprehensions. -/
namespace Co
open PySem PySem.Spec PyProof.Rows L2

def gNs : List Nat → TGs
  | [] => gNil
  | i :: is => gCons (gName i) (gNs is)
def gT (K : Frag) : Tg → TG
  | .nm i => gName i
  | .tp is => gTup K is.length (gNs is)
/-- the store of a name -/
def mSt (N : List Str) (sc : Scope) (fb : Str → Bool) (i : Nat) (x : Str) : Bool :=
  decide (N[i]? = some x) && (match sc.names.lookup x with | some .local => true | some .cell => fb x | _ => false)
def mSts (N : List Str) (sc : Scope) (fb : Str → Bool) : List Nat → List Expr → Bool
  | [], [] => true
  | i :: is, .Name x _ :: es => mSt N sc fb i x && mSts N sc fb is es
  | _, _ => false
def mTg (N : List Str) (sc : Scope) (fb : Str → Bool) : Tg → Expr → Bool
  | .nm i, .Name x _ => mSt N sc fb i x
  | .tp is, .Tuple es _ _ => mSts N sc fb is es
  | _, _ => false
section
variable {X : Cx} {L : List (String × List Bool)} {Φ : Tbl} {fb : Str → Bool} {io : List Nat} {e : Expr} {pos : Pos}
theorem mSt_ok (C : Ctx X L Φ fb) {i : Nat} {x : Str} (h : mSt X.N X.env.scope fb i x = true) : X.N[i]? = some x ∧ Loc X.env.scope x ∧ (X.fn x = true ∨ X.env.scope.names.lookup x = some .local) := by
  unfold mSt at h
  rw [Bool.and_eq_true, decide_eq_true_eq] at h
  obtain ⟨h1, h2⟩ := h
  split at h2
  · exact ⟨h1, .inl (by assumption), .inr (by assumption)⟩
  · exact ⟨h1, .inr (by assumption), .inl (C.fn _ h2)⟩
  · cases h2
theorem pg_nm (C : Ctx X L Φ fb) {i : Nat} {x : Str} (h : mSt X.N X.env.scope fb i x = true) : PG X (.Name x pos) (gName i) :=
  let ⟨h1, h2, h3⟩ := mSt_ok C h
  pg_name C.nd h1 h2 h3
theorem mSts_each : ∀ {is : List Nat} {es : List Expr}, mSts X.N X.env.scope fb is es = true → (assignEach es X.env).map (·.2) = es.map (fun e => assign e X.env) ∧ (assignEach es X.env).length = is.length ∧ (assignEach es X.env).findIdx? (·.1) = none
  | [], [], _ => ⟨rfl, rfl, rfl⟩
  | [], e :: es, h => by simp [mSts] at h
  | i :: is, [], h => by simp [mSts] at h
  | i :: is, e :: es, h => by
    cases e <;> simp [mSts] at h
    rename_i x p
    obtain ⟨a, b, c⟩ := mSts_each h.2
    refine ⟨?_, ?_, ?_⟩
    · show assign (.Name x p) X.env :: (assignEach es X.env).map (·.2) = _
      rw [a]; rfl
    · show (assignEach es X.env).length + 1 = _
      rw [b]; rfl
    · show List.findIdx? (·.1) ((false, assign (.Name x p) X.env) :: assignEach es X.env) = none
      rw [List.findIdx?_cons, c]; rfl
theorem pgs_nms (C : Ctx X L Φ fb) : ∀ {is : List Nat} {es : List Expr}, mSts X.N X.env.scope fb is es = true → PGs X es (gNs is)
  | [], [], _ => pgs_nil
  | [], e :: es, h => by simp [mSts] at h
  | i :: is, [], h => by simp [mSts] at h
  | i :: is, e :: es, h => by
    cases e <;> simp [mSts] at h
    exact pgs_cons (pg_nm C h.1) (pgs_nms C h.2) rfl
theorem pg_T (C : Ctx X L Φ fb) {tg : Tg} (h : mTg X.N X.env.scope fb tg e = true) : PG X e (gT X.K tg) := by
  cases tg with
  | nm i => cases e <;> simp [mTg] at h; exact pg_nm C h
  | tp is =>
    cases e <;> simp [mTg] at h
    obtain ⟨a, b, c⟩ := mSts_each h
    exact pg_tup C.calm (pgs_nms C h) b c
end

section
variable {K : Frag} {F F' H H' : Hp} {io : List Nat} {g : Gh} {env : Env} {σ : L2.St}
/-- slots that a target may take -/
def wfSl (n : Nat) (io : List Nat) (is : List Nat) : Bool := is.all fun i => decide (i < n) && !io.contains i
theorem wfSl_ok {n : Nat} {is : List Nat} (h : wfSl n io is = true) : ∀ i ∈ is, i < n ∧ i ∉ io := fun i hi => by
  have := List.all_eq_true.mp h i hi
  simpa using this
theorem setMany_length : ∀ {is : List Nat} {xs : List Sl} {env : Env}, (setMany env is xs).length = env.length
  | [], xs, env => by cases xs <;> rfl
  | i :: is, [], env => rfl
  | i :: is, x :: xs, env => by unfold setMany; rw [setMany_length]; simp
/-- σ' is σ but at the slots is -/
def OffSl (is : List Nat) (σ σ' : L2.St) : Prop := σ'.length = σ.length ∧ ∀ j, j ∉ is → σ'[j]? = σ[j]?
theorem wipe_get {σ : L2.St} {j : Nat} : ∀ {vs : List Nat}, (wipe σ vs)[j]? = if j ∈ vs then σ[j]?.map (fun _ => none) else σ[j]?
  | [] => by simp [wipe]
  | v :: vs => by
    unfold wipe
    by_cases e : v = j
    · subst e
      rw [if_pos List.mem_cons_self]
      by_cases l : v < (wipe σ vs).length
      · rw [List.getElem?_set_self l]
        rw [wipe_length] at l
        simp [l]
      · rw [List.getElem?_eq_none (by simpa using l)]
        rw [wipe_length] at l
        rw [List.getElem?_eq_none (by omega)]; rfl
    · rw [List.getElem?_set_ne e, wipe_get (vs := vs)]
      have : (j ∈ v :: vs) = (j ∈ vs) := by simp [Ne.symm e]
      simp only [this]
theorem OffSl.wipe {is vs : List Nat} {σ σ' : L2.St} (h : OffSl is σ σ') (hs : ∀ i ∈ is, i ∈ vs) : L2.wipe σ' vs = L2.wipe σ vs := by
  apply List.ext_getElem?
  intro j
  rw [wipe_get, wipe_get]
  by_cases e : j ∈ vs
  · rw [if_pos e, if_pos e]
    by_cases l : j < σ.length
    · have l' : j < σ'.length := by rw [h.1]; exact l
      simp [l, l']
    · have l' : ¬ j < σ'.length := by rw [h.1]; exact l
      rw [List.getElem?_eq_none (by omega), List.getElem?_eq_none (by omega)]
  · rw [if_neg e, if_neg e, h.2 j fun z => e (hs j z)]
theorem OffSl.refl (is : List Nat) (σ : L2.St) : OffSl is σ σ := ⟨rfl, fun _ _ => rfl⟩
theorem OffSl.set {is : List Nat} {σ σ' : L2.St} {i : Nat} {x : Option V} (h : OffSl is (σ.set i x) σ') : OffSl (i :: is) σ σ' := by
  refine ⟨by rw [h.1]; simp, fun j hj => ?_⟩
  simp only [List.mem_cons, not_or] at hj
  rw [h.2 j hj.2, List.getElem?_set_ne (fun e => hj.1 e.symm)]
/-- many values stored -/
theorem stores_ok {P : Env → Prop} {Q : L2.St → Hp → Prop} : ∀ {is : List Nat} {vs : List V} {ds : List PyData} {env : Env} {σ : L2.St}, Rep K io g env σ F H → DenAll K F vs ds → ds.length = is.length → wfSl env.length io is = true →
    P (setMany env is (ds.map .val)) → (∀ σ' env', OffSl is σ σ' → Rep K io g env' σ' F H → P env' → Q σ' H) → gNs is vs σ H Q
  | [], vs, ds, env, σ, R, t, hl, wf, p, k => by
    have : ds = [] := by simpa using hl
    subst this
    cases t
    exact ⟨rfl, k σ env (OffSl.refl [] σ) R p⟩
  | i :: is, vs, ds, env, σ, R, t, hl, wf, p, k => by
    cases t with
    | nil => cases hl
    | @cons v vs d ds dn t =>
      have w := wfSl_ok wf i List.mem_cons_self
      have wf' : wfSl (env.set i (some (.val d))).length io is = true := by
        unfold wfSl at wf ⊢
        rw [List.all_cons, Bool.and_eq_true] at wf
        rw [List.length_set]; exact wf.2
      exact ⟨v, vs, rfl, stores_ok (R.storeVal w.1 w.2 dn) t (by simpa using hl) wf' p fun σ' env' off R' q => k σ' env' off.set R' q⟩
theorem bind_ok {tg : Tg} {x : PyData} {v : V} {P : Env → Prop} {Q : L2.St → Hp → Prop} (R : Rep K io g env σ F H) (o : Out K F H (.val x) v H') (wf : wfSl env.length io tg.slots = true) (w : bindT tg x env P)
    (k : ∀ σ' env' F', OffSl tg.slots σ σ' → Same F F' → Rep K io g env' σ' F' H' → P env' → Q σ' H') : gT K tg v σ H' Q := by
  obtain ⟨F1, m1, R1, dn⟩ := out_ok R o
  cases tg with
  | nm i =>
    have hw := wfSl_ok wf i List.mem_cons_self
    exact k _ _ F1 (OffSl.set (OffSl.refl [] _)) m1 (R1.storeVal hw.1 hw.2 dn) w
  | tp is =>
    unfold bindT at w
    simp only at w
    split at w
    case h_2 => exact w.elim
    case h_1 xs =>
      have dn : Den K F1 v (.tuple xs) := dn
      cases dn with
      | tup sq t =>
        refine ⟨_, _, rfl, same_sqT R1.sub sq, by rw [t.length]; exact w.1, ?_⟩
        exact stores_ok (P := P) R1 t w.1 wf w.2 fun σ' env' off R' p => k σ' env' F1 off m1 R' p

/-- the new list of a comprehension has grown -/
theorem tmp_set {D : Addr} {d d' : PyData} {o : HO} (R : Rep K io (g.tmp D d) env σ F H) (h : OwnAt K F (upd H D o) D d') : Rep K io (g.tmp D d') env σ F (upd H D o) := by
  obtain ⟨R0, p, e, n, ow, h0, ht, hs⟩ := R.pop
  cases e
  have hi : ∀ i, (i, D) ∉ g.ins := fun i z => by
    obtain ⟨_, _, w, hw⟩ := R0.ins _ z
    rw [show g.H0 D = some w from hw] at h0; cases h0
  have R1 : Rep K io g env σ F (upd H D o) := R0.change n (.inl h0) rfl (fun _ _ q => q) (fun i d q => .inl ⟨q, hs i d q⟩) (fun i d q => .inl ⟨q, hi i⟩) (fun i hi' => by
    rw [← R0.insI] at hi'
    obtain ⟨w, hw, rfl⟩ := List.mem_map.mp hi'
    exact (R0.ins w hw).2.1) ht
  exact R1.push ⟨D, rfl, n, h, h0, ht, hs⟩
end

theorem wipe_wipe (σ : L2.St) (vs : List Nat) : wipe (wipe σ vs) vs = wipe σ vs := by
  apply List.ext_getElem?
  intro j
  rw [wipe_get, wipe_get]
  by_cases e : j ∈ vs
  · simp only [if_pos e]
    cases σ[j]? <;> rfl
  · simp only [if_neg e]
def tCs (K : Frag) (Φ : Tbl) (io : List Nat) (cs : Es) : TT := fun σ H Qb => ∃ (g : Gh) (F : Hp) (env : Env) (P : Bool → Env → Prop), Rep K io g env σ F H ∧ wpCs Φ cs env P ∧
  ∀ b H' F' env', Same F F' → Rep K io g env' σ F' H' → P b env' → Qb b H'
/-- every element of a comprehension -/
theorem lc_red {K : Frag} {Φ : Tbl} {io : List Nat} {g : Gh} {F H : Hp} {env : Env} {σ : L2.St} {own : List Nat} {tg : Tg} {it : It} {cs : Es} {elt : E} {n : Nat} {Q : R → Env → Prop} {Qv : V → Hp → Prop} (hl : σ.length = n) (wfo : wfSl n io own = true) (wft : ∀ i ∈ tg.slots, i ∈ own)
    (Rp : Rep K io g env σ F H) (w : wpE Φ (.lc own tg it cs elt) env Q) (k : ∀ v H' F' r env', Same F F' → Rep K io g env' σ F' H' → RDen K g F' H' σ env' v r → Q r env' → Qv v H') :
    tLc (tI K Φ io it) (gT K tg) (tCs K Φ io cs) (tE K Φ io elt) own σ H Qv := by
  refine ⟨g, F, env, _, Rp, w, fun items J H1 F1 env1 m1 R1 gv ⟨hlen, w⟩ D hD => ?_⟩
  obtain ⟨Y, wk, hy⟩ := gv
  have hown := wfSl_ok wfo
  obtain ⟨h0, hF, ht, hi, ho⟩ := R1.h0 hD
  have Rt : Rep K io (g.tmp D (.list [])) env1 σ F1 (upd H1 D (.lst [])) := (R1.lay hD).push ⟨D, rfl, hF, ⟨[], upd_same, .nil⟩, h0, ht, ho⟩
  refine lc_it wk (fun i H => ∃ env2 F2 acc, Same F1 F2 ∧ Rep K io (g.tmp D (.list acc)) (wipeE env2 own) (wipe σ own) F2 H ∧ acc.length ≤ i ∧
      lcGo (bindT tg) (wpCs Φ cs) (fun e K => wpE Φ elt e fun r e1 => asV r e1 K) own (items.drop i) acc env2 fun ds env2 => Q (.own (.list ds)) (unwipe env1 env2 own)) ?_ ?_ ?_ ?_
  · exact ⟨env1, F1, [], Same.refl F1, Rt.wipe fun i hi => (hown i hi).2, Nat.le_refl 0, w⟩
  · rintro i H hi ⟨env2, F2, acc, m2, R2, _⟩
    exact m2.trans R2.sub
  · rintro i x H H' hi ⟨env2, F2, acc, m2, R2, hacc, w⟩ y
    obtain ⟨d, hd, hout⟩ := hy i H x H' hi (m2.trans R2.sub) y
    have hdrop : items.drop i = d :: items.drop (i + 1) := by
      rw [List.getElem?_eq_getElem hi] at hd
      cases hd
      exact List.drop_eq_getElem_cons hi
    rw [hdrop] at w
    have wf2 : wfSl (wipeE env2 own).length io tg.slots = true := by
      refine List.all_eq_true.mpr fun i hi => ?_
      have := hown i (wft i hi)
      have hl' : (wipeE env2 own).length = n := by rw [R2.len, wipe_length]; exact hl
      rw [hl']
      simpa using this
    refine bind_ok R2 (hout F2 m2 R2.sub) wf2 w fun σ3 env3 F3 off m3 R3 q => ?_
    have hw : wipe σ3 own = wipe σ own := by rw [off.wipe wft, wipe_wipe]
    refine ⟨hw, g.tmp D (.list acc), F3, env3, _, R3, q, fun b H4 F4 env4 m4 R4 q => ?_⟩
    cases b with
    | false =>
      rw [if_neg (by decide)] at q ⊢
      have R5 := R4.wipe (vs := own) fun i hi => (hown i hi).2
      rw [hw] at R5
      exact ⟨env4, F4, acc, ((m2.trans m3).trans m4), R5, by omega, q⟩
    | true =>
      rw [if_pos rfl] at q ⊢
      refine one_ R4 q fun v H5 F5 r env5 m5 R5 s5 q => ?_
      obtain ⟨dy, env6, F6, m6, R6, dn, q⟩ := asV_ok R5 s5 q
      obtain ⟨_, ⟨vs, hvs, tvs⟩, _⟩ := R6.tmp (D, .list acc) List.mem_cons_self
      refine ⟨vs, hvs, ?_, ?_⟩
      · rw [tvs.length, sizeLine_eq]
        have : items.length < 16777216 := hlen
        omega
      · have R7 := (tmp_set (d' := .list (acc ++ [dy])) (o := .lst (vs ++ [v])) R6 ⟨_, upd_same, tvs.append (.cons dn .nil)⟩).wipe (vs := own) fun i hi => (hown i hi).2
        rw [hw] at R7
        exact ⟨env6, F6, acc ++ [dy], ((((m2.trans m3).trans m4).trans m5).trans m6), R7, by simp; omega, q⟩
  · rintro H ⟨env2, F2, acc, m2, R2, hacc, w⟩
    rw [List.drop_length] at w
    obtain ⟨R3, p, e, h1, h2, h3, h4, h5⟩ := R2.pop
    cases e
    have R4 := Rep.unwipe R1 (fun i hi => (hown i hi).2) m2 R3
    refine k _ H F2 (.own (.list acc)) _ (m1.trans m2) R4 ⟨D, rfl, h1, h2, h3, h4, fun i d' hs z => ?_⟩ w
    rcases slot_unwipe hs with ⟨a, b, _, c⟩ | ⟨a, b⟩
    · cases c
    · exact h5 i d' b (by rw [wipe_out a]; exact z)
theorem PE.weakL {X : Cx} {e : Expr} {t t' : TE} (h : PE X e t) (w : ∀ σ H Q, σ.length = X.N.length → t' σ H Q → t σ H Q) : PE X e t' := ⟨fun pins s σ H Q I q => h.run pins s σ H Q I (w _ _ _ I.len q)⟩
def nmSl (N : List Str) (own : List Nat) : List (Str × Nat) := own.map fun i => (N[i]?.getD default, i)
theorem nmSl_snd (N : List Str) (own : List Nat) : (nmSl N own).map (·.2) = own := by
  unfold nmSl; rw [List.map_map]; exact (List.map_congr_left fun _ _ => rfl).trans (List.map_id own)
section
variable {X : Cx} {L : List (String × List Bool)} {Φ : Tbl} {fb : Str → Bool} {io : List Nat} {e : Expr} {pos : Pos}
abbrev blkFb (scope : Scope) : Str → Bool := fun x => scope.names.lookup x == some .cell
theorem Ctx.blk (C : Ctx X L Φ fb) {s : Shared} {H : Hp} {scope : Scope} {D : Addr} {cl : List (Str × Addr)} {fp : List Addr} (hk : scope.kind = .function) : Ctx (X.blk s H scope (compEnvC scope cl D X.env) fp) L Φ (blkFb scope) :=
  ⟨rfl, hk, fun _ h => h, C.nd, C.calm, C.hu, C.gd, C.sys, C.blt, C.fns, C.cst⟩
theorem e_lc (C : Ctx X L Φ fb) {own : List Nat} {tg : Tg} {it : It} {cs : Es} {elt : E} {etg iter eelt : Expr} {ifs : List Expr} {scope : Scope} (hi : PI X etg iter (tI X.K Φ io it)) (ns : notSet iter = true)
    (ok : blkC X.N X.env.scope scope (nmSl X.N own) = true)
    (hg : ∀ (s : Shared) (H : Hp) (D : Addr) (cl : List (Str × Addr)) (fp : List Addr), PG (X.blk s H scope (compEnvC scope cl D X.env) fp) etg (gT X.K tg))
    (ht : ∀ (s : Shared) (H : Hp) (D : Addr) (cl : List (Str × Addr)) (fp : List Addr), PTs (X.blk s H scope (compEnvC scope cl D X.env) fp) ifs (tCs X.K Φ io cs))
    (he : ∀ (s : Shared) (H : Hp) (D : Addr) (cl : List (Str × Addr)) (fp : List Addr), PE (X.blk s H scope (compEnvC scope cl D X.env) fp) eelt (tE X.K Φ io elt))
    (wfo : wfSl X.N.length io own = true) (wft : ∀ i ∈ tg.slots, i ∈ own) :
    PE X (.ListComp eelt [⟨etg, iter, ifs, 0⟩] scope pos) (tE X.K Φ io (.lc own tg it cs elt)) :=
  PE.weakL (pe_lc C.calm C.nd hi (blkOk_by ok) hg ht he fun x => folded_ok ns X.env x) fun σ H Q hl ⟨g, F, env, Q', Rp, w, k⟩ => by
    rw [nmSl_snd]
    exact lc_red hl wfo wft Rp w k
end
end Co

set_option linter.all false
/-! Co36: list comprehensions over a list of one's own. -/
namespace Co
open PySem PySem.Spec PyProof.Rows L2
theorem slot_wipeE {env : Env} {i : Nat} : ∀ {own : List Nat}, i ∉ own → slot (wipeE env own) i = slot env i
  | [], _ => rfl
  | v :: vs, h => by
    simp only [List.mem_cons, not_or] at h
    unfold wipeE
    rw [slot_set, if_neg (fun q => h.1 q.1.symm), slot_wipeE h.2]
theorem lc_redO {K : Frag} {Φ : Tbl} {io : List Nat} {g : Gh} {F H : Hp} {env : Env} {σ : L2.St} {own : List Nat} {tg : Tg} {ix : Nat} {cs : Es} {elt : E} {n : Nat} {Q : R → Env → Prop} {Qv : V → Hp → Prop} (hl : σ.length = n) (wfo : wfSl n io own = true) (wft : ∀ i ∈ tg.slots, i ∈ own) (hix : ix ∉ own)
    (Rp : Rep K io g env σ F H) (w : wpE Φ (.lcO own tg ix cs elt) env Q) (k : ∀ v H' F' r env', Same F F' → Rep K io g env' σ F' H' → RDen K g F' H' σ env' v r → Q r env' → Qv v H') :
    tLc (iList K (tVar ix)) (gT K tg) (tCs K Φ io cs) (tE K Φ io elt) own σ H Qv := by
  unfold wpE at w
  split at w
  case h_2 => exact w.elim
  case h_1 items hs =>
  obtain ⟨hlen, w⟩ := w
  obtain ⟨p, hσ, hFp, ⟨vs0, hp0, tv0⟩, _⟩ := Rp.owns _ _ hs
  refine ⟨.ref p, hσ, p, rfl, ⟨vs0, .inl (.inl hp0)⟩, fun D hD => ?_⟩
  have hown := wfSl_ok wfo
  obtain ⟨h0, hF, ht, hi, ho⟩ := Rp.h0 hD
  have Rt : Rep K io (g.tmp D (.list [])) env σ F (upd H D (.lst [])) := (Rp.lay hD).push ⟨D, rfl, hF, ⟨[], upd_same, .nil⟩, h0, ht, ho⟩
  -- the list as it stands at any time
  have at_ : ∀ {env2 : Env} {F2 H2 : Hp} {d : PyData}, Rep K io (g.tmp D d) (wipeE env2 own) (wipe σ own) F2 H2 → slot env2 ix = some (.own (.list items)) → ∃ vs, SqL K H2 p vs ∧ DenAll K F2 vs items := fun {env2 F2 H2 d} R2 e => by
    obtain ⟨p2, q1, _, ⟨vs, q2, q3⟩, _⟩ := R2.owns ix (.list items) (by rw [slot_wipeE hix]; exact e)
    rw [wipe_out hix, hσ] at q1
    cases q1
    exact ⟨vs, .inl (.inl q2), q3⟩
  refine ⟨fun j m H => m = items.length - j ∧ j ≤ items.length ∧ ∃ env2 F2 acc, Same F F2 ∧ Rep K io (g.tmp D (.list acc)) (wipeE env2 own) (wipe σ own) F2 H ∧ acc.length ≤ j ∧
      lcGoO (bindT tg) (wpCs Φ cs) (fun e K => wpE Φ elt e fun r e1 => asV r e1 K) own ix items (items.drop j) acc env2 fun ds env2 => Q (.own (.list ds)) (unwipe env env2 own), ⟨items.length, by simp, Nat.zero_le _, env, F, [], Same.refl F, Rt.wipe fun i hi => (hown i hi).2, Nat.le_refl 0, w⟩, ?_⟩
  rintro j m H2 ⟨rfl, hj, env2, F2, acc, m2, R2, hacc, w⟩
  by_cases hlt : j < items.length
  case neg =>
    have e : j = items.length := by omega
    subst e
    rw [List.drop_length] at w
    obtain ⟨hs2, w⟩ := w
    obtain ⟨vs, hv, tv⟩ := at_ R2 hs2
    refine .inl ⟨⟨vs, hv, by rw [tv.length]; exact Nat.le_refl _⟩, ?_⟩
    obtain ⟨R3, p3, e, h1, h2, h3, h4, h5⟩ := R2.pop
    cases e
    have R4 := Rep.unwipe Rp (fun i hi => (hown i hi).2) m2 R3
    refine k _ H2 F2 (.own (.list acc)) _ m2 R4 ⟨D, rfl, h1, h2, h3, h4, fun i d' hs z => ?_⟩ w
    rcases slot_unwipe hs with ⟨a, b, _, c⟩ | ⟨a, b⟩
    · cases c
    · exact h5 i d' b (by rw [wipe_out a]; exact z)
  have hdrop : items.drop j = items[j] :: items.drop (j + 1) := List.drop_eq_getElem_cons hlt
  rw [hdrop] at w
  obtain ⟨hs2, w⟩ := w
  obtain ⟨vs, hv, tv⟩ := at_ R2 hs2
  have hjv : j < vs.length := by rw [tv.length]; exact hlt
  refine .inr ⟨⟨vs, vs[j], hv, by simp [hjv]⟩, fun H' => ∃ env2 F2 acc, Same F F2 ∧ Rep K io (g.tmp D (.list acc)) (wipeE env2 own) (wipe σ own) F2 H' ∧ acc.length ≤ j + 1 ∧
      lcGoO (bindT tg) (wpCs Φ cs) (fun e K => wpE Φ elt e fun r e1 => asV r e1 K) own ix items (items.drop (j + 1)) acc env2 fun ds env2 => Q (.own (.list ds)) (unwipe env env2 own),
    fun H' h => ⟨items.length - (j + 1), by omega, rfl, hlt, h⟩, fun x H' y => ?_⟩
  obtain ⟨rfl, hx⟩ := y
  have hx := hx vs hv
  obtain ⟨d, hd, dn⟩ := tv.getV hx
  have hdj : d = items[j] := by
    rw [List.getElem?_eq_getElem hlt] at hd
    cases hd; rfl
  subst hdj
  have wf2 : wfSl (wipeE env2 own).length io tg.slots = true := by
    refine List.all_eq_true.mpr fun i hi => ?_
    have := hown i (wft i hi)
    have hl' : (wipeE env2 own).length = n := by rw [R2.len, wipe_length]; exact hl
    rw [hl']
    simpa using this
  refine bind_ok R2 (.old dn) wf2 w fun σ3 env3 F3 off m3 R3 q => ?_
  have hw : wipe σ3 own = wipe σ own := by rw [off.wipe wft, wipe_wipe]
  refine ⟨hw, g.tmp D (.list acc), F3, env3, _, R3, q, fun b H4 F4 env4 m4 R4 q => ?_⟩
  cases b with
  | false =>
    rw [if_neg (by decide)] at q ⊢
    have R5 := R4.wipe (vs := own) fun i hi => (hown i hi).2
    rw [hw] at R5
    exact ⟨env4, F4, acc, (m2.trans m3).trans m4, R5, by omega, q⟩
  | true =>
    rw [if_pos rfl] at q ⊢
    refine one_ R4 q fun v H5 F5 r env5 m5 R5 s5 q => ?_
    obtain ⟨dy, env6, F6, m6, R6, dn, q⟩ := asV_ok R5 s5 q
    obtain ⟨_, ⟨vs, hvs, tvs⟩, _⟩ := R6.tmp (D, .list acc) List.mem_cons_self
    refine ⟨vs, hvs, ?_, ?_⟩
    · rw [tvs.length, sizeLine_eq]
      have : items.length < 16777216 := hlen
      omega
    · have R7 := (tmp_set (d' := .list (acc ++ [dy])) (o := .lst (vs ++ [v])) R6 ⟨_, upd_same, tvs.append (.cons dn .nil)⟩).wipe (vs := own) fun i hi => (hown i hi).2
      rw [hw] at R7
      exact ⟨env6, F6, acc ++ [dy], (((m2.trans m3).trans m4).trans m5).trans m6, R7, by simp; omega, q⟩
section
variable {X : Cx} {L : List (String × List Bool)} {Φ : Tbl} {fb : Str → Bool} {io : List Nat} {e : Expr} {pos p2 : Pos}
theorem e_lcO (C : Ctx X L Φ fb) {own : List Nat} {tg : Tg} {ix : Nat} {x : Str} {cs : Es} {elt : E} {etg eelt : Expr} {ifs : List Expr} {scope : Scope} (hv : mVis X.N X.env.scope ix x = true)
    (ok : blkC X.N X.env.scope scope (nmSl X.N own) = true)
    (hg : ∀ (s : Shared) (H : Hp) (D : Addr) (cl : List (Str × Addr)) (fp : List Addr), PG (X.blk s H scope (compEnvC scope cl D X.env) fp) etg (gT X.K tg))
    (ht : ∀ (s : Shared) (H : Hp) (D : Addr) (cl : List (Str × Addr)) (fp : List Addr), PTs (X.blk s H scope (compEnvC scope cl D X.env) fp) ifs (tCs X.K Φ io cs))
    (he : ∀ (s : Shared) (H : Hp) (D : Addr) (cl : List (Str × Addr)) (fp : List Addr), PE (X.blk s H scope (compEnvC scope cl D X.env) fp) eelt (tE X.K Φ io elt))
    (wfo : wfSl X.N.length io own = true) (wft : ∀ i ∈ tg.slots, i ∈ own) (hix : ix ∉ own) :
    PE X (.ListComp eelt [⟨etg, .Name x p2, ifs, 0⟩] scope pos) (tE X.K Φ io (.lcO own tg ix cs elt)) :=
  PE.weakL (pe_lc C.calm C.nd (pi_list (pe_name hv)) (blkOk_by ok) hg ht he fun y => folded_ok rfl X.env y) fun σ H Q hl ⟨g, F, env, Q', Rp, w, k⟩ => by
    rw [nmSl_snd]
    exact lc_redO hl wfo wft hix Rp w k
end
end Co

set_option linter.all false
/-! Co35: list comprehensions of two clauses. -/
namespace Co
open PySem PySem.Spec PyProof.Rows L2
/-- every element of a comprehension of two clauses -/
theorem lc2_red {K : Frag} {Φ : Tbl} {io : List Nat} {g : Gh} {F H : Hp} {env : Env} {σ : L2.St} {own : List Nat} {tg tg2 : Tg} {it it2 : It} {cs cs2 : Es} {elt : E} {n : Nat} {Q : R → Env → Prop} {Qv : V → Hp → Prop} (hl : σ.length = n) (wfo : wfSl n io own = true) (wft : ∀ i ∈ tg.slots, i ∈ own) (wft2 : ∀ i ∈ tg2.slots, i ∈ own)
    (Rp : Rep K io g env σ F H) (w : wpE Φ (.lc2 own tg it cs tg2 it2 cs2 elt) env Q) (k : ∀ v H' F' r env', Same F F' → Rep K io g env' σ F' H' → RDen K g F' H' σ env' v r → Q r env' → Qv v H') :
    tLc2 (tI K Φ io it) (gT K tg) (tCs K Φ io cs) (tI K Φ io it2) (gT K tg2) (tCs K Φ io cs2) (tE K Φ io elt) own tg2.slots σ H Qv := by
  refine ⟨g, F, env, _, Rp, w, fun items J H1 F1 env1 m1 R1 gv w D hD => ?_⟩
  obtain ⟨Y, wk, hy⟩ := gv
  have hown := wfSl_ok wfo
  have wipe2 : ∀ σ2 : L2.St, L2.wipe σ2 own = L2.wipe σ own → L2.wipe (L2.wipe σ2 tg2.slots) own = L2.wipe σ own := fun σ2 e => by
    rw [← e]
    apply List.ext_getElem?
    intro j
    rw [wipe_get, wipe_get, wipe_get]
    by_cases h : j ∈ own
    · rw [if_pos h, if_pos h]
      by_cases h2 : j ∈ tg2.slots
      · rw [if_pos h2]; cases σ2[j]? <;> rfl
      · rw [if_neg h2]
    · rw [if_neg h, if_neg h, if_neg fun z => h (wft2 j z)]
  obtain ⟨h0, hF, ht, hi, ho⟩ := R1.h0 hD
  have Rt : Rep K io (g.tmp D (.list [])) env1 σ F1 (upd H1 D (.lst [])) := (R1.lay hD).push ⟨D, rfl, hF, ⟨[], upd_same, .nil⟩, h0, ht, ho⟩
  have wfE : ∀ {env2 : Env} {σ2 : L2.St} {F2 H2 : Hp} {d : PyData} {tg' : Tg}, Rep K io (g.tmp D d) env2 σ2 F2 H2 → σ2.length = n → (∀ i ∈ tg'.slots, i ∈ own) → wfSl env2.length io tg'.slots = true := fun {env2 σ2 F2 H2 d tg'} R2 hl2 wf => by
    refine List.all_eq_true.mpr fun i hi => ?_
    have := hown i (wf i hi)
    rw [R2.len, hl2]
    simpa using this
  refine ⟨fun i m H => m = items.length - i ∧ i ≤ items.length ∧ ∃ env2 F2 acc, Same F1 F2 ∧ Rep K io (g.tmp D (.list acc)) (wipeE env2 own) (wipe σ own) F2 H ∧
      lcGo2 (bindT tg) (wpCs Φ cs) (wpI Φ it2) (bindT tg2) (wpCs Φ cs2) (fun e K => wpE Φ elt e fun r e1 => asV r e1 K) own tg2.slots (items.drop i) acc env2 fun ds env2 => Q (.own (.list ds)) (unwipe env1 env2 own), ⟨items.length, by simp, Nat.zero_le _, env1, F1, [], Same.refl F1, Rt.wipe fun i hi => (hown i hi).2, w⟩, ?_⟩
  rintro i m H ⟨rfl, hi, env2, F2, acc, m2, R2, w⟩
  have sF : Same F1 H := m2.trans R2.sub
  by_cases hlt : i < items.length
  case neg =>
    have e : i = items.length := by omega
    subst e
    refine .inl ⟨wk.stops H sF, ?_⟩
    rw [List.drop_length] at w
    obtain ⟨R3, p, e, h1, h2, h3, h4, h5⟩ := R2.pop
    cases e
    have R4 := Rep.unwipe R1 (fun i hi => (hown i hi).2) m2 R3
    refine k _ H F2 (.own (.list acc)) _ (m1.trans m2) R4 ⟨D, rfl, h1, h2, h3, h4, fun i d' hs z => ?_⟩ w
    rcases slot_unwipe hs with ⟨a, b, _, c⟩ | ⟨a, b⟩
    · cases c
    · exact h5 i d' b (by rw [wipe_out a]; exact z)
  refine .inr ⟨wk.goes i H hlt sF, fun H' => ∃ env2 F2 acc, Same F1 F2 ∧ Rep K io (g.tmp D (.list acc)) (wipeE env2 own) (wipe σ own) F2 H' ∧
      lcGo2 (bindT tg) (wpCs Φ cs) (wpI Φ it2) (bindT tg2) (wpCs Φ cs2) (fun e K => wpE Φ elt e fun r e1 => asV r e1 K) own tg2.slots (items.drop (i + 1)) acc env2 fun ds env2 => Q (.own (.list ds)) (unwipe env1 env2 own),
    fun H' h => ⟨items.length - (i + 1), by omega, rfl, hlt, h⟩, fun x H' y => ?_⟩
  obtain ⟨d, hd, hout⟩ := hy i H x H' hlt sF (wk.yields i H x H' hlt sF y)
  have hdrop : items.drop i = d :: items.drop (i + 1) := by
    rw [List.getElem?_eq_getElem hlt] at hd
    cases hd
    exact List.drop_eq_getElem_cons hlt
  rw [hdrop] at w
  refine bind_ok R2 (hout F2 m2 R2.sub) (wfE R2 (by rw [wipe_length]; exact hl) wft) w fun σ3 env3 F3 off m3 R3 q => ?_
  have hw : wipe σ3 own = wipe σ own := by rw [off.wipe wft, wipe_wipe]
  have hl3 : σ3.length = n := by rw [off.1, wipe_length]; exact hl
  refine ⟨hw, g.tmp D (.list acc), F3, env3, _, R3, q, fun b H4 F4 env4 m4 R4 q => ?_⟩
  cases b with
  | false =>
    rw [if_neg (by decide)] at q ⊢
    have R5 := R4.wipe (vs := own) fun i hi => (hown i hi).2
    rw [hw] at R5
    exact ⟨env4, F4, acc, (m2.trans m3).trans m4, R5, q⟩
  | true =>
    rw [if_pos rfl] at q ⊢
    refine ⟨g.tmp D (.list acc), F4, env4, _, R4, q, fun items2 J2 H5 F5 env5 m5 R5 gv2 ⟨hz, q⟩ => ?_⟩
    obtain ⟨Y2, wk2, hy2⟩ := gv2
    have hs2 : ∀ i ∈ tg2.slots, i ∉ io := fun i hi => (hown i (wft2 i hi)).2
    have mm : Same F1 F5 := ((m2.trans m3).trans m4).trans m5
    refine ⟨fun j m H => m = items2.length - j ∧ j ≤ items2.length ∧ ∃ env6 F6 acc2, Same F5 F6 ∧ Rep K io (g.tmp D (.list acc2)) (wipeE env6 tg2.slots) (wipe σ3 tg2.slots) F6 H ∧ acc2.length ≤ acc.length + j ∧
      lcGo (bindT tg2) (wpCs Φ cs2) (fun e K => wpE Φ elt e fun r e1 => asV r e1 K) tg2.slots (items2.drop j) acc2 env6 fun acc' env4 => lcGo2 (bindT tg) (wpCs Φ cs) (wpI Φ it2) (bindT tg2) (wpCs Φ cs2) (fun e K => wpE Φ elt e fun r e1 => asV r e1 K) own tg2.slots (items.drop (i + 1)) acc' env4 fun ds env2 => Q (.own (.list ds)) (unwipe env1 env2 own),
      ⟨items2.length, by simp, Nat.zero_le _, env5, F5, acc, Same.refl F5, R5.wipe hs2, Nat.le_refl _, q⟩, ?_⟩
    rintro j m H6 ⟨rfl, hj, env6, F6, acc2, m6, R6, ha, w6⟩
    have sF6 : Same F5 H6 := m6.trans R6.sub
    by_cases hlt2 : j < items2.length
    case neg =>
      have e : j = items2.length := by omega
      subst e
      refine .inl ⟨wk2.stops H6 sF6, ?_⟩
      rw [List.drop_length] at w6
      have R7 := R6.wipe (vs := own) fun i hi => (hown i hi).2
      rw [wipe2 σ3 hw] at R7
      exact ⟨_, F6, acc2, mm.trans m6, R7, w6⟩
    refine .inr ⟨wk2.goes j H6 hlt2 sF6, fun H' => ∃ env6 F6 acc2, Same F5 F6 ∧ Rep K io (g.tmp D (.list acc2)) (wipeE env6 tg2.slots) (wipe σ3 tg2.slots) F6 H' ∧ acc2.length ≤ acc.length + (j + 1) ∧
      lcGo (bindT tg2) (wpCs Φ cs2) (fun e K => wpE Φ elt e fun r e1 => asV r e1 K) tg2.slots (items2.drop (j + 1)) acc2 env6 fun acc' env4 => lcGo2 (bindT tg) (wpCs Φ cs) (wpI Φ it2) (bindT tg2) (wpCs Φ cs2) (fun e K => wpE Φ elt e fun r e1 => asV r e1 K) own tg2.slots (items.drop (i + 1)) acc' env4 fun ds env2 => Q (.own (.list ds)) (unwipe env1 env2 own),
      fun H' h => ⟨items2.length - (j + 1), by omega, rfl, hlt2, h⟩, fun x2 H7 y2 => ?_⟩
    obtain ⟨d2, hd2, hout2⟩ := hy2 j H6 x2 H7 hlt2 sF6 (wk2.yields j H6 x2 H7 hlt2 sF6 y2)
    have hdrop2 : items2.drop j = d2 :: items2.drop (j + 1) := by
      rw [List.getElem?_eq_getElem hlt2] at hd2
      cases hd2
      exact List.drop_eq_getElem_cons hlt2
    rw [hdrop2] at w6
    refine bind_ok R6 (hout2 F6 m6 R6.sub) (wfE R6 (by rw [wipe_length]; exact hl3) wft2) w6 fun σ8 env8 F8 off8 m8 R8 q8 => ?_
    have hw8 : wipe σ8 tg2.slots = wipe σ3 tg2.slots := by rw [off8.wipe fun i hi => hi, wipe_wipe]
    refine ⟨hw8, g.tmp D (.list acc2), F8, env8, _, R8, q8, fun b H9 F9 env9 m9 R9 q9 => ?_⟩
    cases b with
    | false =>
      rw [if_neg (by decide)] at q9 ⊢
      have Ra := R9.wipe (vs := tg2.slots) hs2
      rw [hw8] at Ra
      exact ⟨env9, F9, acc2, (m6.trans m8).trans m9, Ra, by omega, q9⟩
    | true =>
      rw [if_pos rfl] at q9 ⊢
      refine one_ R9 q9 fun v Ha Fa r enva ma Ra sa qa => ?_
      obtain ⟨dy, envb, Fb, mb, Rb, dn, qb⟩ := asV_ok Ra sa qa
      obtain ⟨_, ⟨vs, hvs, tvs⟩, _⟩ := Rb.tmp (D, .list acc2) List.mem_cons_self
      refine ⟨vs, hvs, ?_, ?_⟩
      · rw [tvs.length, sizeLine_eq]
        have : acc.length + items2.length ≤ 16777216 := hz
        omega
      · have Rc := (tmp_set (d' := .list (acc2 ++ [dy])) (o := .lst (vs ++ [v])) Rb ⟨_, upd_same, tvs.append (.cons dn .nil)⟩).wipe (vs := tg2.slots) hs2
        rw [hw8] at Rc
        exact ⟨envb, Fb, acc2 ++ [dy], (((m6.trans m8).trans m9).trans ma).trans mb, Rc, by simp; omega, qb⟩
section
variable {X : Cx} {L : List (String × List Bool)} {Φ : Tbl} {fb : Str → Bool} {io : List Nat} {e : Expr} {pos : Pos}
theorem e_lc2 (C : Ctx X L Φ fb) {own : List Nat} {tg tg2 : Tg} {it it2 : It} {cs cs2 : Es} {elt : E} {etg iter eelt etg2 iter2 : Expr} {ifs ifs2 : List Expr} {scope : Scope} (hi : PI X etg iter (tI X.K Φ io it)) (ns : notSet iter = true) (ns2 : notSet iter2 = true)
    (ok : blkC X.N X.env.scope scope (nmSl X.N own) = true)
    (hg : ∀ (s : Shared) (H : Hp) (D : Addr) (cl : List (Str × Addr)) (fp : List Addr), PG (X.blk s H scope (compEnvC scope cl D X.env) fp) etg (gT X.K tg))
    (ht : ∀ (s : Shared) (H : Hp) (D : Addr) (cl : List (Str × Addr)) (fp : List Addr), PTs (X.blk s H scope (compEnvC scope cl D X.env) fp) ifs (tCs X.K Φ io cs))
    (hi2 : ∀ (s : Shared) (H : Hp) (D : Addr) (cl : List (Str × Addr)) (fp : List Addr), PI (X.blk s H scope (compEnvC scope cl D X.env) fp) etg2 iter2 (tI X.K Φ io it2))
    (hg2 : ∀ (s : Shared) (H : Hp) (D : Addr) (cl : List (Str × Addr)) (fp : List Addr), PG (X.blk s H scope (compEnvC scope cl D X.env) fp) etg2 (gT X.K tg2))
    (ht2 : ∀ (s : Shared) (H : Hp) (D : Addr) (cl : List (Str × Addr)) (fp : List Addr), PTs (X.blk s H scope (compEnvC scope cl D X.env) fp) ifs2 (tCs X.K Φ io cs2))
    (he : ∀ (s : Shared) (H : Hp) (D : Addr) (cl : List (Str × Addr)) (fp : List Addr), PE (X.blk s H scope (compEnvC scope cl D X.env) fp) eelt (tE X.K Φ io elt))
    (wfo : wfSl X.N.length io own = true) (wft : ∀ i ∈ tg.slots, i ∈ own) (wft2 : ∀ i ∈ tg2.slots, i ∈ own) :
    PE X (.ListComp eelt [⟨etg, iter, ifs, 0⟩, ⟨etg2, iter2, ifs2, 0⟩] scope pos) (tE X.K Φ io (.lc2 own tg it cs tg2 it2 cs2 elt)) :=
  PE.weakL (pe_lc2 (vs1 := tg2.slots) C.calm C.nd hi (blkOk_by ok) (fun i hi => by rw [nmSl_snd]; exact wft2 i hi) hg ht hi2 hg2 ht2 he (fun x => folded_ok ns X.env x) fun env x => folded_ok ns2 env x) fun σ H Q hl ⟨g, F, env, Q', Rp, w, k⟩ => by
    rw [nmSl_snd]
    exact lc2_red hl wfo wft wft2 Rp w k
end
end Co

set_option linter.all false
/-! Co29: a dict display of two pairs, its keys whole numbers. -/
namespace Co
open PySem PySem.Spec PyProof.Rows L2
section
variable {X : Cx} {Φ : Tbl} {io : List Nat} {a b : E} {e1 e2 : Expr} {pos p1 p2 : Pos}
theorem StDen.still' {K : Frag} {F : Hp} {σ : L2.St} {v : V} {r : R} (h : StDen K F σ v r) : StDen K F σ v r.still := by cases r <;> exact h
theorem e_dct2 {k1 k2 : Int} {j1 j2 : Nat} (hne : k1 ≠ k2) (ha : PE X e1 (tE X.K Φ io a)) (hb : PE X e2 (tE X.K Φ io b)) :
    PE X (.Dict [some (.Constant (.int k1) j1 p1), some (.Constant (.int k2) j2 p2)] [e1, e2] pos) (tE X.K Φ io (.dct (.cons (.cst (.int k1)) (.cons a (.cons (.cst (.int k2)) (.cons b .nil)))))) :=
  PE.weak (pe_disp (pps_cons pe_int ha (pps_cons pe_int hb pps_nil)) rfl rfl (by simp) (by simp)) fun σ H Q ⟨g, F, env, Q', Rp, w, k⟩ p n => by
    obtain ⟨h0, hF, ht, hi, ho⟩ := Rp.h0 n
    have Rt : Rep X.K io (g.tmp p (.dict [])) env σ F (upd H p (.dK [])) := (Rp.lay n).push ⟨p, rfl, hF, ⟨[], [], upd_same, .nil, rfl⟩, h0, ht, ho⟩
    refine two_ (Qv := fun v1 v2 H2 => H2 p = some (.dK []) ∧ ∃ kvs : List (Key × V), [(V.int k1, v1), (V.int k2, v2)] = kvs.map (fun kv => (kV kv.1, kv.2)) ∧ kvs.length ≤ 15 ∧ Q (.ref p) (upd H2 p (.dK (mergeK [] kvs)))) Rt w fun v1 v2 H' F' r1 r2 env' m R' s1 s2 q => ?_
    have q' : asVs [.val (.int k1), r1.still, .val (.int k2), r2.still] env' (fun ds env2 => dctD ds fun kvs => Q' (.own (.dict kvs)) env2) := q
    have i1 : StDen X.K F' σ (V.int k1) (.val (.int k1)) := Den.int _
    have i2 : StDen X.K F' σ (V.int k2) (.val (.int k2)) := Den.int _
    obtain ⟨ds, env3, F3, m3, R3, dn, q3⟩ := asVs_ok R' (vs := [V.int k1, v1, V.int k2, v2]) (.cons i1 (.cons s1.still' (.cons i2 (.cons s2.still' .nil)))) q'
    cases dn with
    | cons z1 dn => cases dn with
      | cons z2 dn => cases dn with
        | cons z3 dn => cases dn with
          | cons z4 dn =>
            cases dn
            cases z1
            cases z3
            rename_i d1 d2
            have e2 : PyData.eqv (.int k1) (.int k2) = false := by simp [PyData.eqv, hne]
            obtain ⟨_, _, _, q4⟩ := q3
            obtain ⟨_, p', e, f1, f2, _⟩ := R3.pop
            cases e
            obtain ⟨kv, ds, h1, h2, h3⟩ := f2
            have hkv : kv = [] := by
              cases kv with
              | nil => rfl
              | cons x kv =>
                cases h2
                cases h3
            subst hkv
            refine ⟨h1, [(.inl k1, v1), (.inl k2, v2)], rfl, by simp, ?_⟩
            have hne2 : ¬ (Sum.inl k1 : Key) = Sum.inl k2 := fun e => hne (Sum.inl.inj e)
            have em : mergeK [] [((Sum.inl k1 : Key), v1), (Sum.inl k2, v2)] = [(Sum.inl k1, v1), (Sum.inl k2, v2)] := by simp [mergeK, L2.putK, hne2]
            have ed : Co.putK (Co.putK [] (.int k1) d1) (.int k2) d2 = [(.int k1, d1), (.int k2, d2)] := by simp [Co.putK, e2]
            rw [em]
            rw [ed] at q4
            have R4 := tmp_set (d' := .dict [(.int k1, d1), (.int k2, d2)]) (o := .dK [(Sum.inl k1, v1), (Sum.inl k2, v2)]) R3 ⟨_, [d1, d2], upd_same, .cons z2 (.cons z4 .nil), rfl⟩
            obtain ⟨R5, rd⟩ := R4.pop
            exact k _ _ F3 (.own (.dict _)) env3 (m.trans m3) R5 rd q4
end
end Co

set_option linter.all false
/-! Co30: dicts with tuples as keys: a display of one pair, compared with an empty dict. -/
namespace Co
open PySem PySem.Spec PyProof.Rows L2
section
variable {prog : Program} {w : World} {A : Around} {E : Value → Shared → Prop} {s : Shared}
theorem same_empty {nm : String} {a b : Addr} {oa ob : Obj} {es : Array DictEntry} {ep ep' : Nat} {Q : Bool → Shared → Prop} (ha : (a == sysModules) = false) (hb : (b == sysModules) = false)
    (hoa : s.heap.get? a = some oa) (hda : oa.data = .dict es ep) (hob : s.heap.get? b = some ob) (hdb : ob.data = .dict #[] ep') (h : Q (es.size == 0) s) :
    wpAny (model prog w) A (Builtin.Dict.samePairs nm a b) Q E s := by
  unfold Builtin.Dict.samePairs Builtin.Dict.showsAll
  rw [if_neg (show ¬ (a == sysModules) = true by rw [ha]; exact Bool.false_ne_true), if_neg (show ¬ (b == sysModules) = true by rw [hb]; exact Bool.false_ne_true)]
  refine wpAny_bind (wpAny_pure (wpAny_bind (wpAny_pure ?_)))
  refine wpAny_bind (wpAny_dictEntries hoa hda ?_)
  dsimp only
  refine wpAny_bind (wpAny_dictEntries hob hdb ?_)
  by_cases hsz : es.size = (#[] : Array DictEntry).size
  case neg =>
    rw [if_pos (by simpa using hsz)]
    have hbf : (es.size == 0) = false := by simpa using hsz
    rw [hbf] at h
    exact wpAny_bind (wpAny_rule (wpAny_pure h))
  case pos =>
    have h0 : es.size = 0 := by simpa using hsz
    have h' : Q true s := by simpa [h0] using h
    rw [if_neg (by rw [hsz]; simp)]
    refine wpAny_bind (wpAny_dictEpoch hoa hda ?_)
    refine wpAny_bind ?_
    rw [Std.Legacy.Range.forIn_eq_forIn_range']
    simp only [Std.Legacy.Range.size, Nat.sub_zero, Nat.add_sub_cancel, Nat.div_one, h0, List.range'_zero, List.forIn_nil]
    exact wpAny_pure (wpAny_pure h')
theorem ne_empty {a b : Addr} {oa ob : Obj} {es : Array DictEntry} {ep ep' : Nat} {Q : Value → Shared → Prop} (ha : (a == sysModules) = false) (hb : (b == sysModules) = false)
    (ta : s.TypeIs (.ref a) "dict") (tb : s.TypeIs (.ref b) "dict") (hoa : s.heap.get? a = some oa) (hda : oa.data = .dict es ep) (hob : s.heap.get? b = some ob) (hdb : ob.data = .dict #[] ep') (hu : A.units < cLine) (h : Q (.bool (!(es.size == 0))) s) :
    wpAny (model prog w) A (compareOp .NotEq (.ref a) (.ref b)) Q E s := by
  refine wpAny_richCompare_same_room (op := .NotEq) ta tb PySem.F.slot_dict_ne (wpAny_call_entry PySem.F.slot_dict_ne ta PySem.F.entry_dict_ne ?_ (PySem.F.args_dict_ne_2 _ _)) hu
  show wpAny _ _ (Builtin.Dict.dictSlotArgs "__ne__" ⟨[.ref a, .ref b], []⟩ >>= _) _ _ s
  refine wpAny_bind ?_
  unfold Builtin.Dict.dictSlotArgs
  refine wpAny_bind (wpAny_notOrdered_dict ta ?_)
  show wpAny _ _ (pure (Value.ref a, Value.ref b)) _ _ s
  refine wpAny_pure ?_
  refine wpAny_bind (wpAny_isInstance (T := "dict") tb PySem.F.sub_dict_dict ?_)
  simp only [Bool.not_true, Bool.false_eq_true, if_false]
  refine wpAny_bind (wpAny_pure (wpAny_bind (wpAny_pure ?_)))
  refine wpAny_bind (same_empty ha hb hoa hda hob hdb ?_)
  refine wpAny_pure ⟨_, rfl, ?_, ?_⟩
  · exact fun x => nomatch x
  · simpa using h
end
section
variable {X : Cx}
theorem op_ne_dT0 (hu : X.A.units < cLine) : OpR X (compareOp .NotEq) (fun x y H Q => ∃ (a b : Addr) (kvs : List (List Key × V)), x = .ref a ∧ y = .ref b ∧ H a = some (.dT kvs) ∧ H b = some (.dK []) ∧ Q (.bl (!kvs.isEmpty)) H) := by
  intro pins s σ H x y v u Q I rx ry h
  obtain ⟨a, b, kvs, rfl, rfl, ea, eb, q⟩ := h
  obtain rfl : v = Value.ref a := rx
  obtain rfl : u = Value.ref b := ry
  obtain ⟨_, ya, xs, rel, dd⟩ := dt_of I.hok ea
  have ta := dd.typeIs
  obtain ⟨oa, es, ep, hoa, h2, h3, h4, _, h5⟩ := dd
  obtain ⟨_, yb, vb, rb, db⟩ := (show ObjOk X.prog X.w H s.heap b (.dK []) from I.hok b _ eb)
  cases rb
  have tb := db.typeIs
  obtain ⟨ob, es', ep', hob, _, hdb, _, hpb, _⟩ := db
  have he' : es' = #[] := by
    have := hpb.length
    simpa using this
  subst he'
  refine ne_empty ya yb ta tb hoa h3 hob hdb hu (fin_bl I q ?_)
  have hl : kvs.length = es.size := by
    have e1 := Paired.length rel
    have e2 := congrArg List.length h4
    rw [List.length_map, Array.length_toList] at e2
    omega
  cases kvs with
  | nil => simp at hl; simp [← hl]
  | cons x r => simp at hl; simp [← hl]
end
section
variable {X : Cx} {k v : Expr} {tk tv : TE} {pos : Pos}
/-- {k: v}, k a tuple of ints and texts -/
def tDispT1 (tk tv : TE) : TE := fun σ H Q => ∀ p, H p = none → tk σ (upd H p (.dT [])) fun x H1 => tv σ H1 fun y H2 => H2 p = some (.dT []) ∧ ∃ (ks : List Key) (b : Addr), x = .ref b ∧ H2 b = some (.tup (ks.map kV)) ∧ Q (.ref p) (upd H2 p (.dT [(ks, y)]))
theorem pe_dispT1 (hu : X.A.units + 1 < cLine) (hk : PE X k tk) (hv : PE X v tv) : PE X (.Dict [some k] [v] pos) (tDispT1 tk tv) := by
  refine ⟨fun pins s σ H Q I q => ?_⟩
  have hn := I.hok.fresh (Nat.le_refl s.heap.objs.size)
  have I1 := I.laid (a := s.heap.objs.size) (o := .dT []) (h' := s.heap.push { cls := .type "dict", data := .dict #[] }) (t' := s.toks) (fun _ _ q => Heap.get?_push_of_some _ q) (Nat.le_refl _) (dt_empty s.heap I.big)
  rw [arm_eval_Dict, zip_pairTrees [some k] [v] X.env pos rfl rfl, dictDisplay_pairs (pairTrees [some k] [v] X.env pos) (by simp [pairTrees]) (by simp [pairTrees])]
  refine wpAny_bind (wpAny_standAt (wpAny_bind (wpAny_subDictH (knd := tupleKind (mixKind X.prog X.w)) (show X.A.units < cLine by omega) (by simp [pairTrees]) ?_)))
  refine pairTrees_cons_walk (thn (hk.run pins _ σ _ _ I1 (q _ hn)) fun u s1 ⟨x, H1, I1', rx, q1⟩ => thn (hv.run pins s1 σ H1 _ I1' q1) fun w2 s2 ⟨y, H2, I2, ry, q2⟩ => pairTrees_nil_walk ?_)
  obtain ⟨e, ks, b, ex, eb, q3⟩ := q2
  subst ex
  cases (show u = Value.ref b from rx)
  obtain ⟨z, hd, xs, rel, dd⟩ := dt_of I2.hok e
  cases rel
  refine ⟨[(ks, b, w2)], ⟨rfl, rfl, key_of I2.hok eb, trivial⟩, dd, fun h' tk' dd' hs => wpAny_pure ⟨.ref s.heap.objs.size, _, ?_, rfl, q3⟩⟩
  have rel : KT H2 [(ks, y)] [(ks, b, w2)] := .cons ⟨rfl, eb, ry⟩ .nil
  have est : storedAllH ([] : List (List Key × Addr × Value)) [(ks, b, w2)] = [(ks, b, w2)] := rfl
  rw [est] at dd'
  obtain ⟨q, es, ep, hq, h2, h3, h4, _, h5⟩ := dd'
  refine d_write I2 (by rw [e]; exact True.intro) hs ⟨q, hq⟩ ⟨by simp [sizeLine_eq], hd, _, rel.keeps fun c ys ec => ?_, q, es, ep, hq, h2, h3, h4, h5⟩
  rw [upd_ne (ne_of ec e (fun z => nomatch z))]
  exact ec
end
end Co

set_option linter.all false
/-! Co15: several values stored at once. -/
namespace Co
open PySem PySem.Spec PyProof.Rows L2

/-- what an expression handed back, a name being told by its slot alone -/
def PDen (K : Frag) (g : Gh) (F H : Hp) (σ : L2.St) (env : Env) (v : V) : R → Prop
  | .pl i => σ[i]? = some (some v)
  | r => RDen K g F H σ env v r
def ownA : List V → List R → List Addr
  | .ref p :: vs, .own _ :: rs => p :: ownA vs rs
  | _ :: vs, _ :: rs => ownA vs rs
  | _, _ => []
section
variable {K : Frag} {F F' H H' : Hp} {io : List Nat} {g : Gh} {env env' : Env} {σ : L2.St}
theorem RDen.pd {v : V} {r : R} (h : RDen K g F H σ env v r) : PDen K g F H σ env v r := by
  cases r with
  | pl i => exact h.1
  | val d => exact h
  | own d => exact h
/-- the ghost of some results -/
def Gh.tmps' : Gh → List V → List R → Gh
  | g, .ref p :: vs, .own d :: rs => (g.tmp p d).tmps' vs rs
  | g, _ :: vs, _ :: rs => g.tmps' vs rs
  | g, _, _ => g
def tA' (K : Frag) (Φ : Tbl) (io : List Nat) (es : Es) : TA := fun σ H Qs => ∃ (g : Gh) (F : Hp) (env : Env) (Q : List R → Env → Prop), Rep K io g env σ F H ∧ wpEs' Φ es env Q ∧
  ∀ vs H' F' rs env', vs.length = es.len → Same F F' → Rep K io (g.tmps' vs rs) env' σ F' H' → Paired (fun v r => match r with | .own _ => ∃ p, v = .ref p | r => StDen K F' σ v r) vs rs → Q rs env' → Qs vs H'
theorem pdrop {X : Cx} {e : Expr} {es : List Expr} {a : E} {cs : Es} {Φ : Tbl} (he : PE X e (tE X.K Φ io a)) (hs : PA X es (tA' X.K Φ io cs)) (n : notStar e = true) : PA X (e :: es) (tA' X.K Φ io (.cons a cs)) :=
  PA.weak (pa_cons he hs (star_cons n es X.env)) fun σ H Q ⟨g, F, env, Q', Rp, w, k⟩ => ⟨g, F, env, _, Rp, w, fun v H1 F1 r env1 m1 R1 d q => by
    cases r with
    | own dd =>
      have d' := d
      obtain ⟨p, ev, _⟩ := d'
      subst ev
      refine ⟨g.tmp p dd, F1, env1, _, R1.push d, q, fun vs H2 F2 rs env2 l m2 R2 s2 q2 => ?_⟩
      exact k (.ref p :: vs) H2 F2 (.own dd :: rs) env2 (by simp [l, Es.len]) (m1.trans m2) R2 (.cons ⟨p, rfl⟩ s2) q2
    | val dd =>
      refine ⟨g, F1, env1, _, R1, q, fun vs H2 F2 rs env2 l m2 R2 s2 q2 => ?_⟩
      exact k (v :: vs) H2 F2 (.val dd :: rs) env2 (by simp [l, Es.len]) (m1.trans m2) (by cases v <;> exact R2) (.cons (Den.mono m2 d) s2) q2
    | pl i =>
      refine ⟨g, F1, env1, _, R1, q, fun vs H2 F2 rs env2 l m2 R2 s2 q2 => ?_⟩
      exact k (v :: vs) H2 F2 (.pl i :: rs) env2 (by simp [l, Es.len]) (m1.trans m2) (by cases v <;> exact R2) (.cons d.1 s2) q2⟩
theorem pdnil {X : Cx} {Φ : Tbl} : PA X [] (tA' X.K Φ io .nil) := PA.weak pa_nil fun σ H Q ⟨g, F, env, Q', Rp, w, k⟩ => k [] H F [] env rfl (Same.refl F) Rp .nil w
/-- all the temporaries come out again -/
theorem tmps_pop : ∀ {vs : List V} {rs : List R} {g : Gh}, Rep K io (g.tmps' vs rs) env σ F H → Paired (fun v r => match r with | .own _ => ∃ p, v = .ref p | r => StDen K F σ v r) vs rs →
    Rep K io g env σ F H ∧ Paired (PDen K g F H σ env) vs rs ∧ (ownA vs rs).Nodup ∧ (∀ p ∈ ownA vs rs, ∀ t ∈ g.tmps, t.1 ≠ p)
  | [], rs, g, R, P => by cases P; exact ⟨R, .nil, List.nodup_nil, fun p hp => absurd hp (by simp [ownA])⟩
  | v :: vs, rs, g, R, P => by
    cases P with
    | @cons _ r _ rs h t =>
      cases r with
      | own d =>
        obtain ⟨p, rfl⟩ := h
        obtain ⟨R1, P1, nd, nt⟩ := tmps_pop (g := g.tmp p d) R t
        obtain ⟨R2, d2⟩ := R1.pop
        refine ⟨R2, .cons d2 (Paired.mapP P1 fun v r z => ?_), ?_, fun q hq t' ht' => ?_⟩
        · cases r with
          | val d => exact z
          | pl i => exact z
          | own d =>
            obtain ⟨q, e, a, b, c, dd, ee⟩ := z
            exact ⟨q, e, a, b, c, fun t ht => dd t (List.mem_cons_of_mem _ ht), ee⟩
        · show (p :: ownA vs rs).Nodup
          rw [List.nodup_cons]
          exact ⟨fun z => nt p z (p, d) List.mem_cons_self rfl, nd⟩
        · rcases List.mem_cons.mp (show q ∈ p :: ownA vs rs from hq) with rfl | hq
          · obtain ⟨p', e, _, _, _, tt, _⟩ := d2
            cases e
            exact tt t' ht'
          · exact nt q hq t' (List.mem_cons_of_mem _ ht')
      | val d =>
        obtain ⟨R1, P1, nd, nt⟩ := tmps_pop (g := g) (vs := vs) (rs := rs) (by cases v <;> exact R) t
        have e : ownA (v :: vs) (.val d :: rs) = ownA vs rs := by cases v <;> rfl
        exact ⟨R1, .cons h P1, by rw [e]; exact nd, by rw [e]; exact nt⟩
      | pl i =>
        obtain ⟨R1, P1, nd, nt⟩ := tmps_pop (g := g) (vs := vs) (rs := rs) (by cases v <;> exact R) t
        have e : ownA (v :: vs) (.pl i :: rs) = ownA vs rs := by cases v <;> rfl
        exact ⟨R1, .cons h P1, by rw [e]; exact nd, by rw [e]; exact nt⟩
def slA : List V → List Sl → List Addr
  | .ref p :: vs, .own _ :: rs => p :: slA vs rs
  | _ :: vs, _ :: rs => slA vs rs
  | _, _ => []
/-- asS for a list of results -/
theorem asSs_ok : ∀ {vs : List V} {rs : List R} {env : Env} {P : List Sl → Env → Prop}, Rep K io g env σ F H → Paired (PDen K g F H σ env) vs rs → (ownA vs rs).Nodup → asSs rs env P →
    ∃ ss env', Rep K io g env' σ F H ∧ Paired (fun v s => SDen K g F H σ env' v s ∧ ∀ d, s ≠ .io d) vs ss ∧ (slA vs ss).Nodup ∧ env'.length = env.length ∧ P ss env' ∧
      (∀ i d, slot env' i = some (.own d) → slot env i = some (.own d)) ∧ (∀ p ∈ slA vs ss, p ∈ ownA vs rs ∨ ∃ i d, slot env i = some (.own d) ∧ σ[i]? = some (some (.ref p)))
  | [], rs, env, P, R, h, nd, e => by
    cases h
    exact ⟨[], env, R, .nil, List.nodup_nil, rfl, e, fun _ _ h => h, fun p hp => absurd hp (by simp [slA])⟩
  | v :: vs, rs, env, P, R, h, nd, e => by
    cases h with
    | @cons _ r _ rs h t =>
      have step : ∃ s env1, Rep K io g env1 σ F H ∧ SDen K g F H σ env1 v s ∧ (∀ d, s ≠ .io d) ∧ env1.length = env.length ∧ asSs rs env1 (fun ds env2 => P (s :: ds) env2) ∧ (∀ i d, slot env1 i = some (.own d) → slot env i = some (.own d)) ∧
          (∀ d, s = .own d → (r = .own d) ∨ ∃ i, r = .pl i ∧ slot env i = some (.own d) ∧ slot env1 i = none) := by
        unfold asSs asS at e
        cases r with
        | val d => exact ⟨.val d, env, R, h, (fun _ z => nomatch z), rfl, e, fun _ _ h => h, fun d z => nomatch z⟩
        | own d => exact ⟨.own d, env, R, h, (fun _ z => nomatch z), rfl, e, fun _ _ h => h, fun d' z => by cases z; exact .inl rfl⟩
        | pl i =>
          simp only at e
          cases q : slot env i with
          | none => rw [q] at e; exact e.elim
          | some s =>
            rw [q] at e
            cases s with
            | val d =>
              have := asS_ok (P := fun s _ => s = .val d ∧ True) R (show RDen K g F H σ env v (.pl i) from ⟨h, by rw [q]; rfl⟩) (by unfold asS; simp [q])
              obtain ⟨s, env1, R1, sd, ni, hl, es, _⟩ := this
              subst es
              obtain ⟨v', a, c⟩ := R.vals i _ q
              have hs : σ[i]? = some (some v) := h
              rw [hs] at a; cases a
              exact ⟨.val d, env, R, c, (fun _ z => nomatch z), rfl, e, fun _ _ h => h, fun d z => nomatch z⟩
            | own d =>
              have hi := slot_lt q
              have := asS_ok (P := fun s env1 => s = .own d ∧ env1 = env.set i none) R (show RDen K g F H σ env v (.pl i) from ⟨h, by rw [q]; rfl⟩) (by unfold asS; simp [q])
              obtain ⟨s, env1, R1, sd, ni, hl, es, ee⟩ := this
              subst es ee
              refine ⟨.own d, _, R1, sd, ni, hl, e, fun j d' z => ?_, fun d' z => by cases z; exact .inr ⟨i, rfl, q, by rw [slot_set' hi, if_pos rfl]⟩⟩
              rw [slot_set' hi] at z
              by_cases ej : i = j
              · rw [if_pos ej] at z; cases z
              · rw [if_neg ej] at z; exact z
            | io d => exact e.elim
      obtain ⟨s, env1, R1, sd, ni, hl, e1, sub, src⟩ := step
      have t1 : Paired (PDen K g F H σ env1) vs rs := Paired.mapP t fun v r z => by
        cases r with
        | val d => exact z
        | pl i => exact z
        | own d =>
          obtain ⟨q, e, a, b, c, dd, ee⟩ := z
          exact ⟨q, e, a, b, c, dd, fun i d' hh => ee i d' (sub i d' hh)⟩
      have ndt : (ownA vs rs).Nodup := by
        cases r with
        | own d =>
          cases v with
          | ref p => exact (List.nodup_cons.mp nd).2
          | _ => exact nd
        | val d => cases v <;> exact nd
        | pl i => cases v <;> exact nd
      obtain ⟨ss, env2, R2, P2, nd2, hl2, q2, sub2, src2⟩ := asSs_ok R1 t1 ndt e1
      refine ⟨s :: ss, env2, R2, .cons ⟨?_, ni⟩ P2, ?_, hl2.trans hl, q2, fun i d hh => sub i d (sub2 i d hh), ?_⟩
      · cases s with
        | val d => exact sd
        | io d => exact sd
        | own d =>
          obtain ⟨q, e, a, b, c, dd, ee⟩ := sd
          exact ⟨q, e, a, b, c, dd, fun i d' hh => ee i d' (sub2 i d' hh)⟩
      · cases s with
        | val d => cases v <;> exact nd2
        | io d => cases v <;> exact nd2
        | own d =>
          obtain ⟨q, e, a, b, c, dd, ee⟩ := sd
          cases e
          show (q :: slA vs ss).Nodup
          rw [List.nodup_cons]
          refine ⟨fun hq => ?_, nd2⟩
          rcases src2 q hq with hq | ⟨i, d', h1, h2⟩
          · rcases src d rfl with rfl | ⟨i, rfl, h1, h2⟩
            · exact (List.nodup_cons.mp nd).1 hq
            · -- a temporary of the rest is not a name's own
              have key : ∀ {vs : List V} {rs : List Co.R}, Paired (PDen K g F H σ env) vs rs → q ∈ ownA vs rs → False := by
                intro vs rs P hm
                induction P with
                | nil => simp [ownA] at hm
                | @cons v r _ _ z _ ih =>
                  cases r with
                  | own dx =>
                    obtain ⟨p', e', _, _, _, _, eee⟩ := z
                    subst e'
                    rcases List.mem_cons.mp (show q ∈ p' :: ownA _ _ from hm) with rfl | hm
                    · exact eee i d h1 h
                    · exact ih hm
                  | val dx => exact ih (by cases v <;> exact hm)
                  | pl j => exact ih (by cases v <;> exact hm)
              exact key t hq
          · exact ee i d' h1 h2
      · intro p hp
        cases s with
        | own d =>
          obtain ⟨q, e, a, b, c, dd, ee⟩ := sd
          cases e
          rcases List.mem_cons.mp (show p ∈ q :: slA vs ss from hp) with rfl | hp
          · rcases src d rfl with rfl | ⟨i, rfl, h1, h2⟩
            · exact .inl List.mem_cons_self
            · exact .inr ⟨i, d, h1, h⟩
          · rcases src2 p hp with z | ⟨i, d', h1, h2⟩
            · refine .inl ?_
              cases r with
              | own dx => exact List.mem_cons_of_mem _ z
              | val dx => exact z
              | pl j => exact z
            · exact .inr ⟨i, d', sub i d' h1, h2⟩
        | val d =>
          have hp' : p ∈ slA vs ss := by cases v <;> exact hp
          rcases src2 p hp' with z | ⟨i, d', h1, h2⟩
          · refine .inl ?_
            cases r with
            | own dx => cases v <;> first | exact List.mem_cons_of_mem _ z | exact z
            | val dx => cases v <;> exact z
            | pl j => cases v <;> exact z
          · exact .inr ⟨i, d', sub i d' h1, h2⟩
        | io d => exact absurd rfl (ni d)
/-- .. stored in their slots -/
theorem setMany_ok {Q : L2.St → Hp → Prop} : ∀ {is : List Nat} {vs : List V} {ss : List Sl} {env : Env} {σ : L2.St}, Rep K io g env σ F H → Paired (fun v s => SDen K g F H σ env v s ∧ ∀ d, s ≠ .io d) vs ss → (slA vs ss).Nodup → is.Nodup → ss.length = is.length → wfSl env.length io is = true →
    (∀ σ', OffSl is σ σ' → Rep K io g (setMany env is ss) σ' F H → Q σ' H) → gNs is vs σ H Q
  | [], vs, ss, env, σ, R, P, nd, ni, hl, wf, k => by
    have : ss = [] := by simpa using hl
    subst this
    cases P
    exact ⟨rfl, k σ (OffSl.refl [] σ) R⟩
  | i :: is, vs, ss, env, σ, R, P, nd, ni, hl, wf, k => by
    cases P with
    | nil => cases hl
    | @cons v s vs ss h t =>
      have w := wfSl_ok wf i List.mem_cons_self
      have wf' : wfSl (env.set i (some s)).length io is = true := by
        unfold wfSl at wf ⊢
        rw [List.all_cons, Bool.and_eq_true] at wf
        rw [List.length_set]; exact wf.2
      have R1 := R.storeSl w.1 w.2 h.1 h.2
      have hiσ : i < σ.length := by rw [← R.len]; exact w.1
      have ndt : (slA vs ss).Nodup := by
        cases s with
        | own d =>
          obtain ⟨q, e, _⟩ := h.1
          cases e
          exact (List.nodup_cons.mp nd).2
        | val d => cases v <;> exact nd
        | io d => exact absurd rfl (h.2 d)
      have t1 : Paired (fun v' s' => SDen K g F H (σ.set i (some v)) (env.set i (some s)) v' s' ∧ ∀ d, s' ≠ .io d) vs ss := by
        have aux : ∀ {ws : List V} {zs : List Sl}, Paired (fun v s => SDen K g F H σ env v s ∧ ∀ d, s ≠ .io d) ws zs → (∀ p, s.r = .own s.d → v = .ref p → p ∉ slA ws zs) →
            Paired (fun v' s' => SDen K g F H (σ.set i (some v)) (env.set i (some s)) v' s' ∧ ∀ d, s' ≠ .io d) ws zs := by
          intro ws zs P hn
          induction P with
          | nil => exact .nil
          | @cons v' s' ws zs z tt ih =>
            refine .cons ⟨?_, z.2⟩ (ih fun p e1 e2 hm => hn p e1 e2 ?_)
            · cases s' with
              | val d => exact z.1
              | io d => exact absurd rfl (z.2 d)
              | own d =>
                obtain ⟨q, e, a, b, c, dd, ee⟩ := z.1
                refine ⟨q, e, a, b, c, dd, fun j d' hj hz => ?_⟩
                rw [slot_set' w.1] at hj
                rw [get_set hiσ] at hz
                by_cases ej : i = j
                · rw [if_pos ej] at hj hz
                  cases hj
                  cases hz
                  subst e
                  exact hn q rfl rfl List.mem_cons_self
                · rw [if_neg ej] at hj hz
                  exact ee j d' hj hz
            · cases s' with
              | own d =>
                obtain ⟨q, e, _⟩ := z.1
                subst e
                exact List.mem_cons_of_mem _ hm
              | val d => cases v' <;> exact hm
              | io d => cases v' <;> exact hm
        refine aux t fun p e1 e2 hm => ?_
        subst e2
        cases s with
        | own d => exact (List.nodup_cons.mp nd).1 hm
        | val d => cases e1
        | io d => cases e1
      refine ⟨v, vs, rfl, setMany_ok R1 t1 ndt (List.nodup_cons.mp ni).2 (by simpa using hl) wf' fun σ' off R' => k σ' off.set R'⟩
end
end Co

set_option linter.all false
/-! Co16: the statements. -/
namespace Co
open PySem PySem.Spec PyProof.Rows L2

structure EndsOk (K : Frag) (io : List Nat) (g : Gh) (F : Hp) (De : Co.Ends) (D : L2.Ends) : Prop where
  nx : ∀ env σ F' H, Same F F' → Rep K io g env σ F' H → De.nx env → D.nx σ H
  rt : ∀ s env σ F' H v, Same F F' → Rep K io g env σ F' H → SDen K g F' H σ env v s → (∀ d, s ≠ .io d) → De.rt s env → D.rt v H
  bk : ∀ env σ F' H, Same F F' → Rep K io g env σ F' H → De.bk env → D.bk σ H
  ct : ∀ env σ F' H, Same F F' → Rep K io g env σ F' H → De.ct env → D.ct σ H
theorem EndsOk.mono {K : Frag} {io : List Nat} {g : Gh} {F F1 : Hp} {De : Co.Ends} {D : L2.Ends} (E : EndsOk K io g F De D) (m : Same F F1) : EndsOk K io g F1 De D :=
  ⟨fun env σ F' H m1 => E.nx env σ F' H (m.trans m1), fun s env σ F' H v m1 => E.rt s env σ F' H v (m.trans m1), fun env σ F' H m1 => E.bk env σ F' H (m.trans m1), fun env σ F' H m1 => E.ct env σ F' H (m.trans m1)⟩
def tS (K : Frag) (Φ : Tbl) (io : List Nat) (s : S) : TS := fun D σ H => ∃ (g : Gh) (F : Hp) (env : Env) (De : Co.Ends), Rep K io g env σ F H ∧ wpS Φ s env De ∧ EndsOk K io g F De D
theorem PS.weakL {X : Cx} {e : Stmt} {t t' : TS} (h : PS X e t) (w : ∀ D σ H, σ.length = X.N.length → t' D σ H → t D σ H) : PS X e t' := ⟨fun pins s σ H D I q => h.run pins s σ H D I (w _ _ _ I.len q)⟩
section
variable {X : Cx} {L : List (String × List Bool)} {Φ : Tbl} {fb : Str → Bool} {io : List Nat} {e e1 e2 e3 iter etg : Expr} {es : List Expr} {a b c : E} {cs : Es} {pos p p2 p3 : Pos} {st : Stmt} {sts rest body els : List Stmt} {s s1 s2 : S} {i : Nat} {x : Str} {tg : Tg} {it : It}
theorem s_nil : PSs X [] (tS X.K Φ io .skip) := PSs.weak pss_nil fun D σ H ⟨g, F, env, De, Rp, w, E⟩ => E.nx env σ F H (Same.refl F) Rp w
theorem s_pass : PS X (.Pass pos) (tS X.K Φ io .skip) := PS.weak ps_pass fun D σ H ⟨g, F, env, De, Rp, w, E⟩ => E.nx env σ F H (Same.refl F) Rp w
theorem s_doc {y : Str} {j : Nat} : PS X (.Expr (.Constant (.str y) j p) pos) (tS X.K Φ io .skip) := PS.weak ps_doc fun D σ H ⟨g, F, env, De, Rp, w, E⟩ => E.nx env σ F H (Same.refl F) Rp w
theorem s_cons (h1 : PS X st (tS X.K Φ io s1)) (h2 : PSs X rest (tS X.K Φ io s2)) : PSs X (st :: rest) (tS X.K Φ io (.seq s1 s2)) :=
  PSs.weak (pss_cons h1 h2) fun D σ H ⟨g, F, env, De, Rp, w, E⟩ => ⟨g, F, env, _, Rp, w, fun env1 σ1 F1 H1 m R1 q => ⟨g, F1, env1, De, R1, q, E.mono m⟩, E.rt, E.bk, E.ct⟩
theorem s_expr (he : PE X e (tE X.K Φ io a)) (n : notLc e = true) : PS X (.Expr e pos) (tS X.K Φ io (.expr a)) :=
  PS.weak (ps_expr he (swap_no n none pos.line X.env)) fun D σ H ⟨g, F, env, De, Rp, w, E⟩ => ⟨g, F, env, _, Rp, w, fun v H' F' r env' m R' d q => E.nx env' σ F' H' m R' q⟩
theorem s_brk : PS X (.Break pos) (tS X.K Φ io .brk) := PS.weak ps_break fun D σ H ⟨g, F, env, De, Rp, w, E⟩ => E.bk env σ F H (Same.refl F) Rp w
theorem s_cont : PS X (.Continue pos) (tS X.K Φ io .cont) := PS.weak ps_continue fun D σ H ⟨g, F, env, De, Rp, w, E⟩ => E.ct env σ F H (Same.refl F) Rp w
theorem s_ret (he : PE X e (tE X.K Φ io a)) : PS X (.Return (some e) pos) (tS X.K Φ io (.ret a)) :=
  PS.weak (ps_ret he) fun D σ H ⟨g, F, env, De, Rp, w, E⟩ => ⟨g, F, env, _, Rp, w, fun v H' F' r env' m R' d q => by
    obtain ⟨s, env2, R2, sd, ni, _, q⟩ := asS_ok R' d q
    exact E.rt s env2 σ F' H' v m R2 sd ni q⟩
theorem s_retn : PS X (.Return none pos) (tS X.K Φ io .retn) :=
  PS.weak ps_retN fun D σ H ⟨g, F, env, De, Rp, w, E⟩ => E.rt (.val .none) env σ F H .non (Same.refl F) Rp Den.non (fun _ z => nomatch z) w
theorem s_if (hc : PT X e (tT X.K Φ io c)) (ha : PSs X body (tS X.K Φ io s1)) (hb : PSs X els (tS X.K Φ io s2)) : PS X (.If e body els pos) (tS X.K Φ io (.ifs c s1 s2)) :=
  PS.weak (ps_if hc ha hb) fun D σ H ⟨g, F, env, De, Rp, w, E⟩ => ⟨g, F, env, _, Rp, w, fun t H' F' env' m R' q => by
    cases t with
    | true => exact ⟨g, F', env', De, R', q, E.mono m⟩
    | false => exact ⟨g, F', env', De, R', q, E.mono m⟩⟩
/-! ### names -/
theorem asg_fin {g : Gh} {F F' H' : Hp} {env' : Env} {σ : L2.St} {De : Co.Ends} {D : L2.Ends} {v : V} {r : R} (wf : wfSl X.N.length io [i] = true) (hl : σ.length = X.N.length) (E : EndsOk X.K io g F De D) (m : Same F F') (R' : Rep X.K io g env' σ F' H') (d : RDen X.K g F' H' σ env' v r)
    (q : asS r env' fun s env2 => De.nx (env2.set i (some s))) : D.nx (σ.set i (some v)) H' := by
  obtain ⟨s, env2, R2, sd, ni, _, q⟩ := asS_ok R' d q
  obtain ⟨w1, w2⟩ := wfSl_ok wf i List.mem_cons_self
  exact E.nx _ _ F' H' m (R2.storeSl (by rw [R2.len, hl]; exact w1) w2 sd ni) q
theorem s_asg (C : Ctx X L Φ fb) (he : PE X e (tE X.K Φ io a)) (h : mSt X.N X.env.scope fb i x = true) (hs : swapsWith e (some (.Name x p)) pos.line X.env = pure false) (wf : wfSl X.N.length io [i] = true) :
    PS X (.Assign [.Name x p] e pos) (tS X.K Φ io (.asg i a)) := by
  obtain ⟨h1, h2, h3⟩ := mSt_ok C h
  exact PS.weakL (ps_set C.nd h1 h2 he hs h3) fun D σ H hl ⟨g, F, env, De, Rp, w, E⟩ => ⟨g, F, env, _, Rp, w, fun v H' F' r env' m R' d q => asg_fin wf hl E m R' d q⟩
theorem s_asgLc (C : Ctx X L Φ fb) {own : List Nat} {elt : E} {eelt : Expr} {ifs : List Expr} {scope : Scope} (hy : X.N[i]? = some x) (hyl : X.env.scope.names.lookup x = some .local)
    (hsw : swapsWith (.ListComp eelt [⟨etg, iter, ifs, 0⟩] scope p2) (some (.Name x p)) pos.line X.env = pure true) (hi : PI X etg iter (tI X.K Φ io it)) (ns : notSet iter = true)
    (ok : blkC X.N X.env.scope scope (nmSl X.N own) = true)
    (hg : ∀ (s : Shared) (H : Hp) (D : Addr) (cl : List (Str × Addr)) (fp : List Addr), PG (X.blk s H scope (compEnvC scope cl D X.env) fp) etg (gT X.K tg))
    (ht : ∀ (s : Shared) (H : Hp) (D : Addr) (cl : List (Str × Addr)) (fp : List Addr), PTs (X.blk s H scope (compEnvC scope cl D X.env) fp) ifs (tCs X.K Φ io cs))
    (he : ∀ (s : Shared) (H : Hp) (D : Addr) (cl : List (Str × Addr)) (fp : List Addr), PE (X.blk s H scope (compEnvC scope cl D X.env) fp) eelt (tE X.K Φ io elt))
    (wfo : wfSl X.N.length io own = true) (wft : ∀ i ∈ tg.slots, i ∈ own) (wf : wfSl X.N.length io [i] = true) :
    PS X (.Assign [.Name x p] (.ListComp eelt [⟨etg, iter, ifs, 0⟩] scope p2) pos) (tS X.K Φ io (.asg i (.lc own tg it cs elt))) :=
  PS.weakL (ps_setLc C.calm C.nd hy hyl hsw hi (blkOk_by ok) hg ht he fun x => folded_ok ns X.env x) fun D σ H hl ⟨g, F, env, De, Rp, w, E⟩ => by
    show tLc _ _ _ _ _ σ H fun x H1 => gName i x σ H1 D.nx
    rw [nmSl_snd]
    exact lc_red hl wfo wft Rp w fun v H' F' r env' m R' d q => asg_fin wf hl E m R' d q
def notTup : Expr → Bool
  | .Tuple .. => false
  | _ => true
theorem swapT_no {ts : List Expr} {k : Nat} : swapsWithSole [.Tuple ts k p] e pos.line X.env = pure false := by cases e <;> rfl
theorem swapped_no {ts : List Expr} {k : Nat} (h : notTup e = true) : swappedStores [.Tuple ts k p] e X.env = pure none := by
  unfold swappedStores
  cases e <;> first | rfl | (simp [notTup] at h)
theorem s_unpack (C : Ctx X L Φ fb) {is : List Nat} {ts : List Expr} {k : Nat} (he : PE X e (tE X.K Φ io a)) (nt : notTup e = true) (h : mSts X.N X.env.scope fb is ts = true) (wf : wfSl X.N.length io is = true) :
    PS X (.Assign [.Tuple ts k p] e pos) (tS X.K Φ io (.unpack is a)) :=
  PS.weakL (ps_asg he (pg_T C (tg := .tp is) (e := .Tuple ts k p) h) swapT_no (swapped_no nt) rfl) fun D σ H hl ⟨g, F, env, De, Rp, w, E⟩ => one_ Rp w fun v H' F' r env' m R' s q => by
    obtain ⟨d, vw, q⟩ := pk_view R' s q
    split at q
    case h_2 => exact q.elim
    case h_1 ds =>
      obtain ⟨a', xs, rfl, sq, t⟩ := vw
      refine ⟨a', xs, rfl, same_sqT R'.sub sq, by rw [t.length]; exact q.1, ?_⟩
      exact stores_ok (P := De.nx) R' t q.1 (by rw [R'.len, hl]; exact wf) q.2 fun σ' env2 off R2 q => E.nx env2 σ' F' H' m R2 q
/-! ### several at once -/
theorem par_red {g : Gh} {F H : Hp} {env : Env} {σ : L2.St} {De : Co.Ends} {D : L2.Ends} {is : List Nat} {Qs : List V → Hp → Prop} (hl : σ.length = X.N.length) (nd : is.Nodup) (wf : wfSl X.N.length io is = true)
    (Rp : Rep X.K io g env σ F H) (w : wpS Φ (.par is cs) env De) (E : EndsOk X.K io g F De D)
    (k : ∀ vs H', vs.length = is.length → vs.length = cs.len → gNs is vs σ H' D.nx → (∀ p xs, H' p = none → gNs is vs σ (upd H' p (.tup xs)) D.nx) → Qs vs H') : tA' X.K Φ io cs σ H Qs :=
  ⟨g, F, env, _, Rp, w, fun vs H1 F1 rs env1 hlen m1 R1 P q => by
    obtain ⟨R2, P2, nd2, _⟩ := tmps_pop R1 P
    obtain ⟨ss, env2, R3, P3, nd3, hl3, q3, _⟩ := asSs_ok R2 P2 nd2 q
    have hls : ss.length = is.length := q3.1
    have hvs : vs.length = ss.length := by
      have aux : ∀ {G : V → Sl → Prop} {a : List V} {b : List Sl}, Paired G a b → a.length = b.length := fun P => by
        induction P with
        | nil => rfl
        | cons _ _ ih => simp [ih]
      exact aux P3
    have wf' : wfSl env2.length io is = true := by rw [R3.len, hl]; exact wf
    refine k vs H1 (hvs.trans hls) hlen (setMany_ok R3 P3 nd3 nd hls wf' fun σ' off R' => E.nx _ σ' F1 H1 m1 R' q3.2) fun p xs hp => ?_
    have R4 := R3.lay (o := .tup xs) hp
    have P4 : Paired (fun v s => SDen X.K g F1 (upd H1 p (.tup xs)) σ env2 v s ∧ ∀ d, s ≠ .io d) vs ss := Paired.mapP P3 fun v s z => ⟨by
      cases s with
      | val d => exact z.1
      | io d => exact z.1
      | own d =>
        obtain ⟨q, e, a, b, c, dd, ee⟩ := z.1
        obtain ⟨o, ho, _⟩ := b.there
        exact ⟨q, e, a, b.mono (Same.refl F1) (upd_ne (ne_of_none ho hp)), c, dd, ee⟩, z.2⟩
    exact setMany_ok R4 P4 nd3 nd hls wf' fun σ' off R' => E.nx _ σ' F1 _ m1 R' q3.2⟩
theorem s_par2 (C : Ctx X L Φ fb) {i j : Nat} {x y : Str} {k k2 : Nat} (ha : PA X [e1, e2] (tA' X.K Φ io cs)) (hx : mSt X.N X.env.scope fb i x = true) (hy : mSt X.N X.env.scope fb j y = true) (lx : X.env.scope.names.lookup x = some .local) (ly : X.env.scope.names.lookup y = some .local)
    (hw : swappedStores [.Tuple [.Name x p, .Name y p2] k p3] (.Tuple [e1, e2] k2 pos) X.env = pure (some [x, y])) (hij : i ≠ j) (wf : wfSl X.N.length io [i, j] = true) {pos' : Pos} :
    PS X (.Assign [.Tuple [.Name x p, .Name y p2] k p3] (.Tuple [e1, e2] k2 pos) pos') (tS X.K Φ io (.par [i, j] cs)) :=
  PS.weakL (ps_par C.calm C.nd (mSt_ok C hx).1 (mSt_ok C hy).1 hij lx ly ha hw rfl) fun D σ H hl ⟨g, F, env, De, Rp, w, E⟩ => par_red hl (by simp [hij]) wf Rp w E fun vs H' h1 _ h2 _ => by
    obtain ⟨v, r, e1, v2, r2, e2, e3, h⟩ := h2
    subst e1 e2 e3
    exact ⟨v, v2, rfl, h⟩
theorem s_par3 (C : Ctx X L Φ fb) {i j l : Nat} {x y z : Str} {k k2 : Nat} {p4 : Pos} (ha : PA X [e1, e2, e3] (tA' X.K Φ io cs)) (hx : mSt X.N X.env.scope fb i x = true) (hy : mSt X.N X.env.scope fb j y = true) (hz : mSt X.N X.env.scope fb l z = true)
    (lx : X.env.scope.names.lookup x = some .local) (ly : X.env.scope.names.lookup y = some .local) (lz : X.env.scope.names.lookup z = some .local)
    (hw : swappedStores [.Tuple [.Name x p, .Name y p2, .Name z p4] k p3] (.Tuple [e1, e2, e3] k2 pos) X.env = pure (some [x, y, z])) (hij : i ≠ j) (hil : i ≠ l) (hjl : j ≠ l) (wf : wfSl X.N.length io [i, j, l] = true) {pos' : Pos} :
    PS X (.Assign [.Tuple [.Name x p, .Name y p2, .Name z p4] k p3] (.Tuple [e1, e2, e3] k2 pos) pos') (tS X.K Φ io (.par [i, j, l] cs)) :=
  PS.weakL (ps_par3 C.calm C.nd (mSt_ok C hx).1 (mSt_ok C hy).1 (mSt_ok C hz).1 hij hil hjl lx ly lz ha hw rfl) fun D σ H hl ⟨g, F, env, De, Rp, w, E⟩ => par_red hl (by simp [hij, hil, hjl]) wf Rp w E fun vs H' h1 _ h2 _ => by
    obtain ⟨v, r, e1, v2, r2, e2, v3, r3, e3, e4, h⟩ := h2
    subst e1 e2 e3 e4
    exact ⟨v, v2, v3, rfl, h⟩
theorem s_parN (C : Ctx X L Φ fb) {is : List Nat} {ts : List Expr} {k k2 : Nat} {pos' : Pos} (ha : PA X es (tA' X.K Φ io cs)) (h : mSts X.N X.env.scope fb is ts = true) (hw : swappedStores [.Tuple ts k p] (.Tuple es k2 p2) X.env = pure none) (nd : is.Nodup) (wf : wfSl X.N.length io is = true) (hl' : cs.len ≤ 1000) :
    PS X (.Assign [.Tuple ts k p] (.Tuple es k2 p2) pos') (tS X.K Φ io (.par is cs)) :=
  PS.weakL (ps_asg (pe_tup ha) (pg_T C (tg := .tp is) (e := .Tuple ts k p) h) rfl hw rfl) fun D σ H hl ⟨g, F, env, De, Rp, w, E⟩ => par_red hl nd wf Rp w E fun vs H' h1 h3 _ h2 =>
    ⟨by rw [h3, sizeLine_eq]; omega, fun q hq => ⟨q, vs, rfl, .inl (.inl upd_same), h1, h2 q vs hq⟩⟩
/-! ### items -/
def rPut : TSet := fun o i v H Q => rSetL o i v H Q ∨ rSetD o i v H Q
theorem set_put (hu : X.A.units + 1 < cLine) : PSet X rPut := fun pins s σ H o i v ov iv u Q I ro ri rv h => h.elim (set_list pins s σ H o i v ov iv u Q I ro ri rv) (set_dict hu pins s σ H o i v ov iv u Q I ro ri rv)
theorem assign_sub {o i : Expr} (n : notSlice i = true) (v : Value) : assign (.Subscript o i pos) X.env v = (do
      let ov ← holding [v] (eval o X.env)
      let iv ← holding [v, ov] (eval i X.env)
      standAt pos
      holding [v, ov, iv] (setItem ov iv v)
      release [v, ov, iv] []) := by
  cases i <;> first | rfl | (simp [notSlice] at n)
theorem s_put (C : Ctx X L Φ fb) (hv : mVis X.N X.env.scope i x = true) (hk : PE X e1 (tE X.K Φ io a)) (he : PE X e2 (tE X.K Φ io b)) (n : notSlice e1 = true) :
    PS X (.Assign [.Subscript (.Name x p) e1 p2] e2 pos) (tS X.K Φ io (.put i a b)) :=
  PS.weak (ps_asg he (pg_sub (pe_name hv) hk (set_put (Nat.lt_of_le_of_lt (by omega) C.hu)) (assign_sub n)) (by cases e2 <;> rfl) rfl rfl) fun D σ H ⟨g, F, env, De, Rp, w, E⟩ => one_ Rp w fun v H1 F1 r env1 m1 R1 s1 q => by
    obtain ⟨d, env2, F2, m2, R2, dn, q⟩ := asV_ok R1 s1 q
    obtain ⟨hsl, q⟩ := q
    obtain ⟨d0, hd0⟩ := Option.isSome_iff_exists.mp hsl
    obtain ⟨p0, ho, _⟩ := R2.mine hd0
    refine ⟨.ref p0, ho, one_ R2 q fun v3 H3 F3 r3 env3 m3 R3 s3 q => ?_⟩
    obtain ⟨d3, w3, q⟩ := pk_view R3 s3 q
    split at q
    case h_1 ds j hd =>
      obtain ⟨n', e1, q⟩ := q
      obtain ⟨p', g1, g2, ⟨vs, g3, g4⟩, _⟩ := R3.mine hd
      rw [ho] at g1; cases g1
      cases w3
      refine .inl ⟨_, vs, j, n', rfl, rfl, g3, by rw [g4.length]; exact e1, ?_⟩
      exact E.nx _ σ F3 _ ((m1.trans m2).trans m3) (R3.setC (d := .list (ds.set n' d)) hd ho ⟨_, upd_same, (g4.set (dn.mono m3) n')⟩) q
    case h_2 kvs y hd =>
      obtain ⟨k1, k2, q⟩ := q
      obtain ⟨p', g1, g2, ⟨kv, ds, g3, g4, g5⟩, _⟩ := R3.mine hd
      rw [ho] at g1; cases g1
      obtain ⟨key, rfl⟩ := isKey_of k1
      have ev : v3 = kV key := by cases key <;> (cases w3; rfl)
      subst ev g5
      obtain ⟨ds', t', ep⟩ := put_dct (k := key) (dn.mono m3) g4
      refine .inr ⟨_, _, rfl, DPut.k g3 ?_, ?_⟩
      · have hl := g4.length
        rw [List.length_map] at hl
        rw [sizeLine_eq]
        have : (dctOf kv ds).length = kv.length := by simp [dctOf, hl]
        rw [this] at k2
        exact k2
      · exact E.nx _ σ F3 _ ((m1.trans m2).trans m3) (R3.setC (d := .dict (putK (dctOf kv ds) (keyD key) d)) hd ho ⟨_, ds', upd_same, t', ep⟩) q
    case h_3 => exact q.elim
/-! ### name op= e -/
theorem aug_red {g : Gh} {F H : Hp} {env : Env} {σ : L2.St} {De : Co.Ends} {D : L2.Ends} {f : Int → Int → Int} (hl : σ.length = X.N.length) (wf : wfSl X.N.length io [i] = true) (Rp : Rep X.K io g env σ F H) (E : EndsOk X.K io g F De D)
    (w0 : (slot env i).isSome = true) (w : wpE Φ a env fun r env1 => pk r env1 fun y => ∃ n k, slot env1 i = some (.val (.int n)) ∧ y = .int k ∧ De.nx (env1.set i (some (.val (.int (f n k)))))) : tAug i (tE X.K Φ io a) (ipI f) D σ H := by
  obtain ⟨v, hv⟩ := slot_val Rp w0
  refine ⟨v, hv, one_ Rp w fun v2 H' F' r env' m R' s q => ?_⟩
  obtain ⟨d, vw, n, k, hs, rfl, q⟩ := pk_view R' s q
  obtain ⟨w1, w2⟩ := wfSl_ok wf i List.mem_cons_self
  obtain ⟨v', a, dn⟩ := R'.vals i _ hs
  rw [hv] at a; cases a
  cases dn
  cases vw
  exact ⟨n, k, rfl, rfl, E.nx _ _ F' H' m (R'.storeVal (by rw [R'.len, hl]; exact w1) w2 (.int _)) q⟩
theorem pk_mono {r : R} {env : Env} {P Q : PyData → Prop} (h : ∀ d, P d → Q d) (q : pk r env P) : pk r env Q := by
  unfold pk at q ⊢
  split at q
  · exact h _ q
  · exact q
end
/-- one of the results is all that wpE asks -/
def MonoE (Φ : Tbl) (a : E) : Prop := ∀ env (Q Q' : R → Env → Prop), (∀ r e, Q r e → Q' r e) → wpE Φ a env Q → wpE Φ a env Q'
section
variable {X : Cx} {L : List (String × List Bool)} {Φ : Tbl} {fb : Str → Bool} {io : List Nat} {e e1 e2 e3 iter etg : Expr} {es : List Expr} {a b c : E} {cs : Es} {pos p p2 p3 : Pos} {st : Stmt} {sts rest body els : List Stmt} {s s1 s2 : S} {i : Nat} {x : Str} {tg : Tg} {it : It}
theorem s_augAdd (C : Ctx X L Φ fb) (he : PE X e (tE X.K Φ io a)) (h : mSt X.N X.env.scope fb i x = true) (wf : wfSl X.N.length io [i] = true) : PS X (.AugAssign (.Name x p) .Add e pos) (tS X.K Φ io (.aug i .add a)) := by
  obtain ⟨h1, h2, h3⟩ := mSt_ok C h
  exact PS.weakL (ps_aug C.nd h1 h2 he ip_add h3) fun D σ H hl ⟨g, F, env, De, Rp, ⟨w0, w⟩, E⟩ => aug_red hl wf Rp E w0 (by exact w)
theorem s_augSub (C : Ctx X L Φ fb) (he : PE X e (tE X.K Φ io a)) (h : mSt X.N X.env.scope fb i x = true) (wf : wfSl X.N.length io [i] = true) : PS X (.AugAssign (.Name x p) .Sub e pos) (tS X.K Φ io (.aug i .sub a)) := by
  obtain ⟨h1, h2, h3⟩ := mSt_ok C h
  exact PS.weakL (ps_aug C.nd h1 h2 he ip_sub h3) fun D σ H hl ⟨g, F, env, De, Rp, ⟨w0, w⟩, E⟩ => aug_red hl wf Rp E w0 (by exact w)
def tLen (n : Nat) (t : TS) : TS := fun D σ H => t ⟨fun σ' H' => σ'.length = n → D.nx σ' H', D.rt, fun σ' H' => σ'.length = n → D.bk σ' H', fun σ' H' => σ'.length = n → D.ct σ' H'⟩ σ H
theorem PSs.lens {t : TS} (h : PSs X body t) : PSs X body (tLen X.N.length t) :=
  ⟨fun pins s σ H D I q => thn (h.run pins s σ H _ I q) fun fl s1 q => by
    cases fl with
    | next => obtain ⟨σ', H', I', q⟩ := q; exact ⟨σ', H', I', q I'.len⟩
    | brk => obtain ⟨σ', H', I', q⟩ := q; exact ⟨σ', H', I', q I'.len⟩
    | cont => obtain ⟨σ', H', I', q⟩ := q; exact ⟨σ', H', I', q I'.len⟩
    | ret u => exact q⟩
/-! ### loops -/
theorem s_while (C : Ctx X L Φ fb) (hc : PT X e (tT X.K Φ io c)) (hb : PSs X body (tS X.K Φ io s)) : PS X (.While e body [] pos) (tS X.K Φ io (.whl c s)) :=
  PS.weak (ps_while (by rw [C.xe]; exact PassesOwn.never) hc hb) fun D σ H ⟨g, F, env, De, Rp, ⟨W, ⟨m0, w0⟩, turn⟩, E⟩ =>
    ⟨fun n σ' H' => ∃ env' F', Same F F' ∧ Rep X.K io g env' σ' F' H' ∧ W n env', ⟨m0, env, F, Same.refl F, Rp, w0⟩, fun n σ1 H1 ⟨env1, F1, m1, R1, w1⟩ =>
      ⟨g, F1, env1, _, R1, turn n env1 w1, fun t H2 F2 env2 m2 R2 q => by
        cases t with
        | false => exact E.nx env2 σ1 F2 H2 (m1.trans m2) R2 q
        | true =>
          refine ⟨fun σ' H' => ∃ env' F', Same F F' ∧ Rep X.K io g env' σ' F' H' ∧ ∃ m', m' < n ∧ W m' env', fun σ' H' ⟨env', F', m', R', k, hk, w'⟩ => ⟨k, hk, env', F', m', R', w'⟩, ?_⟩
          have mm := m1.trans m2
          exact ⟨g, F2, env2, _, R2, q, fun env3 σ3 F3 H3 m3 R3 q3 => ⟨env3, F3, mm.trans m3, R3, q3⟩, (E.mono mm).rt, (E.mono mm).nx, fun env3 σ3 F3 H3 m3 R3 q3 => ⟨env3, F3, mm.trans m3, R3, q3⟩⟩⟩⟩
theorem s_for (C : Ctx X L Φ fb) (hi : PI X etg iter (tI X.K Φ io it)) (ns : notSet iter = true) (hg : PG X etg (gT X.K tg)) (hb : PSs X body (tS X.K Φ io s)) (wf : wfSl X.N.length io tg.slots = true) :
    PS X (.For etg iter body [] pos) (tS X.K Φ io (.for tg it s)) :=
  PS.weakL (ps_for (by rw [C.xe]; exact PassesOwn.never) C.calm hi hg (PSs.lens hb) fun x => folded_ok ns X.env x) fun D σ H hl ⟨g, F, env, De, Rp, w, E⟩ => by
    refine ⟨g, F, env, _, Rp, w, fun items J H1 F1 env1 m1 R1 gv w => ?_⟩
    obtain ⟨Y, wk, hy⟩ := gv
    refine for_it (g := gT X.K tg) (tb := tLen X.N.length (tS X.K Φ io s)) (D := D) wk (fun i σ' H => ∃ env2 F2, Same F1 F2 ∧ Rep X.K io g env2 σ' F2 H ∧ σ'.length = X.N.length ∧ forGo (bindT tg) (wpS Φ s) (items.drop i) env2 De) ?_ ?_ ?_ ?_
    · exact ⟨env1, F1, Same.refl F1, R1, hl, w⟩
    · rintro i σ' H hi ⟨env2, F2, m2, R2, _⟩
      exact m2.trans R2.sub
    · rintro i x σ' H H' hi ⟨env2, F2, m2, R2, hl2, w⟩ y
      obtain ⟨d, hd, hout⟩ := hy i H x H' hi (m2.trans R2.sub) y
      have hdrop : items.drop i = d :: items.drop (i + 1) := by
        rw [List.getElem?_eq_getElem hi] at hd
        cases hd
        exact List.drop_eq_getElem_cons hi
      rw [hdrop] at w
      refine bind_ok R2 (hout F2 m2 R2.sub) (by rw [R2.len, hl2]; exact wf) w fun σ3 env3 F3 off m3 R3 q => ?_
      have mm := (m1.trans m2).trans m3
      refine ⟨g, F3, env3, _, R3, q, fun env4 σ4 F4 H4 m4 R4 q4 hl4 => ?_, (E.mono mm).rt, fun env4 σ4 F4 H4 m4 R4 q4 _ => E.nx env4 σ4 F4 H4 (mm.trans m4) R4 q4, fun env4 σ4 F4 H4 m4 R4 q4 hl4 => ?_⟩
      · exact ⟨env4, F4, (m2.trans m3).trans m4, R4, hl4, q4⟩
      · exact ⟨env4, F4, (m2.trans m3).trans m4, R4, hl4, q4⟩
    · rintro σ' H ⟨env2, F2, m2, R2, _, w⟩
      rw [List.drop_length] at w
      exact E.nx env2 σ' F2 H (m1.trans m2) R2 w
end
end Co

set_option linter.all false
/-! Co17: a text's expression against one of the little language, decided; and that it is sound. -/
namespace Co
open PySem PySem.Spec PyProof.Rows L2

def isTupE : Expr → Bool
  | .Tuple .. => true
  | _ => false
def s_ (x : String) : Str := Str.ofString x
mutual
def mE (L : List (String × List Bool)) (N : List Str) (io : List Nat) : Scope → (Str → Bool) → E → Expr → Bool
  | sc, fb, .var i, e => match e with
    | .Name x _ => mVis N sc i x
    | _ => false
  | sc, fb, .cst d, e => match e with
    | .Constant k _ _ => mC d k
    | _ => false
  | sc, fb, .tup cs, e => match e with
    | .Tuple es _ _ => mEs L N io sc fb cs es && decide (cs.len ≤ 1000)
    | _ => false
  | sc, fb, .lst cs, e => match e with
    | .List es _ => mEs L N io sc fb cs es && decide (cs.len ≤ 1000)
    | _ => false
  | sc, fb, .dct cs, e => match cs, e with
    | .nil, .Dict [] [] _ => true
    | .cons (.cst (.int k1)) (.cons a (.cons (.cst (.int k2)) (.cons b .nil))), .Dict [some (.Constant (.int i1) _ _), some (.Constant (.int i2) _ _)] [e1, e2] _ =>
      decide (k1 = i1) && decide (k2 = i2) && decide (k1 ≠ k2) && mE L N io sc fb a e1 && mE L N io sc fb b e2
    | _, _ => false
  | sc, fb, .bin op a b, e => match e with
    | .BinOp e1 o e2 _ => decide (o = opOf op) && mE L N io sc fb a e1 && mE L N io sc fb b e2
    | _ => false
  | sc, fb, .lrep cs a, e => match e with
    | .BinOp (.List es _) .Mult e2 _ => mEs L N io sc fb cs es && decide (cs.len ≤ 1000) && mE L N io sc fb a e2
    | _ => false
  | sc, fb, .glb f n, e => match e with
    | .Name x _ => decide ((f, List.replicate (100 + n) false) ∈ L) && decide (x = s_ f) && gl sc x && !(x == s_ "__debug__")
    | _ => false
  | sc, fb, .rgT a, e => match e with
    | .Call (.Name x _) [.Call (.Name y _) [e1] [] _] [] _ => decide (x = s_ "tuple") && gl sc x && decide (y = s_ "range") && gl sc y && notStar e1 && mE L N io sc fb a e1
    | _ => false
  | sc, fb, .rg1 a, e => match e with
    | .Call (.Name x _) [.Call (.Name y _) [e1] [] _] [] _ => decide (x = s_ "list") && gl sc x && decide (y = s_ "range") && gl sc y && notStar e1 && mE L N io sc fb a e1
    | _ => false
  | sc, fb, .rg2 a b, e => match e with
    | .Call (.Name x _) [.Call (.Name y _) [e1, e2] [] _] [] _ => decide (x = s_ "list") && gl sc x && decide (y = s_ "range") && gl sc y && notStar e1 && notStar e2 && mE L N io sc fb a e1 && mE L N io sc fb b e2
    | _ => false
  | sc, fb, .orep x k, e => match e with
    | .BinOp e1 .Mult e2 _ => mE L N io sc fb x e1 && mE L N io sc fb k e2
    | _ => false
  | sc, fb, .neg a, e => match e with
    | .UnaryOp .USub e1 _ => mE L N io sc fb a e1
    | _ => false
  | sc, fb, .not a, e => match e with
    | .UnaryOp .Not e1 _ => mE L N io sc fb a e1
    | _ => false
  | sc, fb, .cmp op a b, e => match e with
    | .Compare e1 [o] [e2] _ => decide (o = cmpOf op) && notSet e2 && mE L N io sc fb a e1 && mE L N io sc fb b e2
    | _ => false
  | sc, fb, .isn a, e => match e with
    | .Compare e1 [.Is] [.Constant .none _ _] _ => mE L N io sc fb a e1
    | _ => false
  | sc, fb, .notn a, e => match e with
    | .Compare e1 [.IsNot] [.Constant .none _ _] _ => mE L N io sc fb a e1
    | _ => false
  | sc, fb, .chain o1 o2 a b c, e => match e with
    | .Compare e1 [p1, p2] [e2, e3] _ => decide (p1 = cmpOf o1) && decide (p2 = cmpOf o2) && notSet e3 && mE L N io sc fb a e1 && mE L N io sc fb b e2 && mE L N io sc fb c e3
    | _ => false
  | sc, fb, .and a b, e => match e with
    | .BoolOp .And [e1, e2] _ => mE L N io sc fb a e1 && mE L N io sc fb b e2
    | .BoolOp .And (e1 :: e2 :: e3 :: es) pos => mE L N io sc fb a e1 && mE L N io sc fb b (.BoolOp .And (e2 :: e3 :: es) pos)
    | _ => false
  | sc, fb, .or a b, e => match e with
    | .BoolOp .Or [e1, e2] _ => mE L N io sc fb a e1 && mE L N io sc fb b e2
    | .BoolOp .Or (e1 :: e2 :: e3 :: es) pos => mE L N io sc fb a e1 && mE L N io sc fb b (.BoolOp .Or (e2 :: e3 :: es) pos)
    | _ => false
  | sc, fb, .ite c a b, e => match e with
    | .IfExp e1 e2 e3 _ => mE L N io sc fb c e1 && mE L N io sc fb a e2 && mE L N io sc fb b e3
    | _ => false
  | sc, fb, .idx a i, e => match e with
    | .Subscript e1 e2 _ => notSlice e2 && mE L N io sc fb a e1 && mE L N io sc fb i e2
    | _ => false
  | sc, fb, .slo a i, e => match e with
    | .Subscript e1 (.Slice (some e2) none none _) _ => mE L N io sc fb a e1 && mE L N io sc fb i e2
    | _ => false
  | sc, fb, .shi a i, e => match e with
    | .Subscript e1 (.Slice none (some e2) none _) _ => mE L N io sc fb a e1 && mE L N io sc fb i e2
    | _ => false
  | sc, fb, .slh a i j, e => match e with
    | .Subscript e1 (.Slice (some e2) (some e3) none _) _ => mE L N io sc fb a e1 && mE L N io sc fb i e2 && mE L N io sc fb j e3
    | _ => false
  | sc, fb, .rev a, e => match e with
    | .Subscript e1 (.Slice none none (some (.UnaryOp .USub (.Constant (.int 1) _ _) _)) _) _ => mE L N io sc fb a e1
    | _ => false
  | sc, fb, .call f sig cs, e => match e with
    | .Call (.Name x _) (e1 :: es) [] _ => decide ((f, sig) ∈ L) && decide (sig.length < 100) && decide (x = s_ f) && gl sc x && !(x == s_ "__debug__") && (e1 :: es).all notStar && mEs L N io sc fb cs (e1 :: es)
    | _ => false
  | sc, fb, .b1 f a, e => (match e with
    | .Call (.Name x _) [e1] [] _ => decide (f ≠ .lenset) && decide (f ≠ .sortset) && decide (x = s_ (b1Name f)) && gl sc x && notStar e1 && mE L N io sc fb a e1
    | _ => false) || (match e with
    | .Call (.Name x _) [.Call (.Name y _) [e1] [] _] [] _ => decide (y = s_ "set") && gl sc y && notStar e1 && gl sc x && mE L N io sc fb a e1 && (decide (f = .lenset) && decide (x = s_ "len") || decide (f = .sortset) && decide (x = s_ "sorted"))
    | _ => false)
  | sc, fb, .b2 f a b, e => match e with
    | .Call (.Name x _) [e1, e2] [] _ => decide (x = s_ (b2Name f)) && gl sc x && notStar e1 && notStar e2 && mE L N io sc fb a e1 && mE L N io sc fb b e2
    | _ => false
  | sc, fb, .isi a ts, e => match e with
    | .Call (.Name x _) [e1, .Name y _] [] _ => decide (x = s_ "isinstance") && gl sc x && notStar e1 && (match ts with | [t] => decide (y = s_ (tyS t)) && gl sc y | _ => false) && mE L N io sc fb a e1
    | .Call (.Name x _) [e1, .Tuple es _ _] [] _ => decide (x = s_ "isinstance") && gl sc x && notStar e1 && mTys sc ts es && decide (ts.length ≤ 1000) && mE L N io sc fb a e1
    | _ => false
  | sc, fb, .index a b, e => false
  | sc, fb, .get1 a k, e => false
  | sc, fb, .get2 a k x, e => false
  | sc, fb, .append i a, e => match e with
    | .Call (.Attribute (.Name x _) m apos) [e1] [] cpos => decide (m = s_ "append") && mVis N sc i x && notStar e1 && (apos.endLine == cpos.line) && mE L N io sc fb a e1
    | _ => false
  | sc, fb, .extend i a, e => match e with
    | .Call (.Attribute (.Name x _) m apos) [e1] [] cpos => decide (m = s_ "extend") && mVis N sc i x && notStar e1 && (apos.endLine == cpos.line) && mE L N io sc fb a e1
    | _ => false
  | sc, fb, .pop i, e => match e with
    | .Call (.Attribute (.Name x _) m apos) [] [] cpos => decide (m = s_ "pop") && mVis N sc i x && (apos.endLine == cpos.line)
    | _ => false
  | sc, fb, .popat i a, e => match e with
    | .Call (.Attribute (.Name x _) m apos) [e1] [] cpos => decide (m = s_ "pop") && mVis N sc i x && notStar e1 && (apos.endLine == cpos.line) && mE L N io sc fb a e1
    | _ => false
  | sc, fb, .lc own tg it cs elt, e => match e with
    | .ListComp eelt [⟨etg, iter, ifs, 0⟩] scope _ => blkC N sc scope (nmSl N own) && wfSl N.length io own && decide (∀ i ∈ tg.slots, i ∈ own) && notSet iter &&
        mI L N io sc fb it iter (isTupE etg) && mTg N (relS scope sc) (blkFb scope) tg etg && mCs L N io (relS scope sc) (blkFb scope) cs ifs && mE L N io (relS scope sc) (blkFb scope) elt eelt
    | _ => false
  | sc, fb, .appx a, e => match e with
    | .Call (.Attribute (.Call (.Name x px) (e1 :: es) ks q) m apos) [.Constant .none _ _] [] cpos => decide (m = s_ "append") && (apos.endLine == cpos.line) && mE L N io sc fb a (.Call (.Name x px) (e1 :: es) ks q)
    | _ => false
  | sc, fb, .lcO own tg ix cs elt, e => match e with
    | .ListComp eelt [⟨etg, .Name x _, ifs, 0⟩] scope _ => blkC N sc scope (nmSl N own) && wfSl N.length io own && decide (∀ i ∈ tg.slots, i ∈ own) && decide (ix ∉ own) && mVis N sc ix x &&
        mTg N (relS scope sc) (blkFb scope) tg etg && mCs L N io (relS scope sc) (blkFb scope) cs ifs && mE L N io (relS scope sc) (blkFb scope) elt eelt
    | _ => false
  | sc, fb, .lc2 own tg it cs tg2 it2 cs2 elt, e => match e with
    | .ListComp eelt [⟨etg, iter, ifs, 0⟩, ⟨etg2, iter2, ifs2, 0⟩] scope _ => blkC N sc scope (nmSl N own) && wfSl N.length io own && decide (∀ i ∈ tg.slots, i ∈ own) && decide (∀ i ∈ tg2.slots, i ∈ own) && notSet iter && notSet iter2 &&
        mI L N io sc fb it iter (isTupE etg) && mTg N (relS scope sc) (blkFb scope) tg etg && mCs L N io (relS scope sc) (blkFb scope) cs ifs &&
        mI L N io (relS scope sc) (blkFb scope) it2 iter2 (isTupE etg2) && mTg N (relS scope sc) (blkFb scope) tg2 etg2 && mCs L N io (relS scope sc) (blkFb scope) cs2 ifs2 && mE L N io (relS scope sc) (blkFb scope) elt eelt
    | _ => false
def mEs (L : List (String × List Bool)) (N : List Str) (io : List Nat) : Scope → (Str → Bool) → Es → List Expr → Bool
  | sc, fb, .nil, es => match es with
    | [] => true
    | _ => false
  | sc, fb, .cons a cs, es => match es with
    | e :: es => notStar e && mE L N io sc fb a e && mEs L N io sc fb cs es
    | _ => false
def mCs (L : List (String × List Bool)) (N : List Str) (io : List Nat) : Scope → (Str → Bool) → Es → List Expr → Bool
  | sc, fb, .nil, es => match es with
    | [] => true
    | _ => false
  | sc, fb, .cons a cs, es => match es with
    | [e] => mE L N io sc fb a e
    | _ => false
def mI (L : List (String × List Bool)) (N : List Str) (io : List Nat) : Scope → (Str → Bool) → It → Expr → Bool → Bool
  | sc, fb, .of a, e, t => mE L N io sc fb a e
  | sc, fb, .range1 a, e, t => match e with
    | .Call (.Name x _) [e1] [] _ => decide (x = s_ "range") && gl sc x && notStar e1 && mE L N io sc fb a e1
    | _ => false
  | sc, fb, .range2 a b, e, t => match e with
    | .Call (.Name x _) [e1, e2] [] _ => decide (x = s_ "range") && gl sc x && notStar e1 && notStar e2 && mE L N io sc fb a e1 && mE L N io sc fb b e2
    | _ => false
  | sc, fb, .range3 a b c, e, t => match e with
    | .Call (.Name x _) [e1, e2, e3] [] _ => decide (x = s_ "range") && gl sc x && notStar e1 && notStar e2 && notStar e3 && mE L N io sc fb a e1 && mE L N io sc fb b e2 && mE L N io sc fb c e3
    | _ => false
  | sc, fb, .enum a, e, t => match e with
    | .Call (.Name x _) [e1] [] _ => t && decide (x = s_ "enumerate") && gl sc x && notStar e1 && mE L N io sc fb a e1
    | _ => false
  | sc, fb, .zip2 st a b, e, t => match e with
    | .Call (.Name x _) [e1, e2] [] _ => t && !st && decide (x = s_ "zip") && gl sc x && notStar e1 && notStar e2 && mE L N io sc fb a e1 && mE L N io sc fb b e2
    | .Call (.Name x _) [e1, e2] [⟨some k, .Constant (.bool b1) _ _, _⟩] _ => t && decide (b1 = st) && decide (k = s_ "strict") && decide (x = s_ "zip") && gl sc x && notStar e1 && notStar e2 && mE L N io sc fb a e1 && mE L N io sc fb b e2
    | _ => false
  | sc, fb, .zip3 st a b c, e, t => match e with
    | .Call (.Name x _) [e1, e2, e3] [] _ => t && !st && decide (x = s_ "zip") && gl sc x && notStar e1 && notStar e2 && notStar e3 && mE L N io sc fb a e1 && mE L N io sc fb b e2 && mE L N io sc fb c e3
    | .Call (.Name x _) [e1, e2, e3] [⟨some k, .Constant (.bool b1) _ _, _⟩] _ => t && !st && decide (b1 = false) && decide (k = s_ "strict") && decide (x = s_ "zip") && gl sc x && notStar e1 && notStar e2 && notStar e3 && mE L N io sc fb a e1 && mE L N io sc fb b e2 && mE L N io sc fb c e3
    | _ => false
end

/-- as a value, as a test -/
def isBoolE : Expr → Bool
  | .BoolOp .. => true
  | _ => false
structure Snd (X : Cx) (Φ : Tbl) (io : List Nat) (a : E) (e : Expr) : Prop where
  pe : PE X e (tE X.K Φ io a)
  pt : PT X e (tT X.K Φ io a)
  pw : isBoolE e = true → PW X e (tT X.K Φ io a)
section
variable {X : Cx} {L : List (String × List Bool)} {Φ : Tbl} {io : List Nat}
theorem Snd.plain {a : E} {e : Expr} (h : PE X e (tE X.K Φ io a)) (hp : plainT e = true) : Snd X Φ io a e :=
  ⟨h, t_plain h hp, fun z => by cases e <;> first | exact Bool.noConfusion z | exact Bool.noConfusion hp⟩
theorem pts_nilC : PTs X [] (tCs X.K Φ io .nil) := ⟨fun pins s σ H Q I ⟨g, F, env, P, Rp, w, k⟩ => pts_nil.run pins s σ H Q I (k true H F env (Same.refl F) Rp w)⟩
theorem pts_oneC {a : E} {cs : Es} {e : Expr} (h : PT X e (tT X.K Φ io a)) : PTs X [e] (tCs X.K Φ io (.cons a cs)) :=
  ⟨fun pins s σ H Q I ⟨g, F, env, P, Rp, w, k⟩ => (pts_one h).run pins s σ H Q I ⟨g, F, env, P, Rp, w, k⟩⟩
theorem t_ite {a b c : E} {e1 e2 e3 : Expr} {pos : Pos} (hc : PT X e1 (tT X.K Φ io c)) (ha : PT X e2 (tT X.K Φ io a)) (hb : PT X e3 (tT X.K Φ io b)) : PT X (.IfExp e1 e2 e3 pos) (tT X.K Φ io (.ite c a b)) := by
  refine ⟨fun pins s σ H Q I ⟨g, F, env, Q', Rp, w, k⟩ => ?_⟩
  have h : tT X.K Φ io c σ H fun t H1 => if t = true then tT X.K Φ io a σ H1 Q else tT X.K Φ io b σ H1 Q := ⟨g, F, env, _, Rp, w, fun t H' F' env' m R' q => by
    cases t with
    | true => exact ⟨g, F', env', Q', R', q, fun v H2 F2 env2 m2 R2 q => k v H2 F2 env2 (m.trans m2) R2 q⟩
    | false => exact ⟨g, F', env', Q', R', q, fun v H2 F2 env2 m2 R2 q => k v H2 F2 env2 (m.trans m2) R2 q⟩⟩
  show wpAny _ _ (do if ← isTrue e1 X.env (eval e1 X.env) then isTrue e2 X.env (eval e2 X.env) else isTrue e3 X.env (eval e3 X.env)) _ _ s
  refine wpAny_bind (thn (hc.run pins s σ H _ I h) fun t s1 ⟨H1, I1, q1⟩ => ?_)
  cases t with
  | true => exact ha.run pins s1 σ H1 Q I1 q1
  | false => exact hb.run pins s1 σ H1 Q I1 q1
end
theorem cmp_not (h : Bool) : (!h) = true → h = false := by cases h <;> simp

mutual
theorem sndE {L : List (String × List Bool)} {Φ : Tbl} {N : List Str} {io : List Nat} : ∀ (a : E) (e : Expr) (X : Cx) (fb : Str → Bool), Ctx X L Φ fb → X.N = N → mE L N io X.env.scope fb a e = true → Snd X Φ io a e
  | .var i, e, X, fb, C, hN, h => by
    unfold mE at h
    subst hN
    split at h
    · exact .plain (e_var h) rfl
    · cases h
  | .cst d, e, X, fb, C, hN, h => by
    unfold mE at h
    split at h
    · exact .plain (e_cst h) rfl
    · cases h
  | .tup cs, e, X, fb, C, hN, h => by
    unfold mE at h
    split at h
    · simp only [Bool.and_eq_true, decide_eq_true_eq] at h
      exact .plain (e_tup (sndEs cs _ X fb C hN h.1).1 h.2) rfl
    · cases h
  | .lst cs, e, X, fb, C, hN, h => by
    unfold mE at h
    split at h
    · simp only [Bool.and_eq_true, decide_eq_true_eq] at h
      exact .plain (e_lst (sndEs cs _ X fb C hN h.1).1 h.2) rfl
    · cases h
  | .dct cs, e, X, fb, C, hN, h => by
    unfold mE at h
    split at h
    · exact .plain e_dct0 rfl
    · simp only [Bool.and_eq_true, decide_eq_true_eq] at h
      obtain ⟨⟨⟨⟨rfl, rfl⟩, h3⟩, h4⟩, h5⟩ := h
      exact .plain (e_dct2 h3 (sndE _ _ X fb C hN h4).pe (sndE _ _ X fb C hN h5).pe) rfl
    · cases h
  | .bin op a b, e, X, fb, C, hN, h => by
    unfold mE at h
    split at h
    · simp only [Bool.and_eq_true, decide_eq_true_eq] at h
      obtain ⟨⟨rfl, h1⟩, h2⟩ := h
      exact .plain (e_bin (sndE a _ X fb C hN h1).pe (sndE b _ X fb C hN h2).pe) rfl
    · cases h
  | .lrep cs a, e, X, fb, C, hN, h => by
    unfold mE at h
    split at h
    · simp only [Bool.and_eq_true, decide_eq_true_eq] at h
      exact .plain (e_lrep (sndEs cs _ X fb C hN h.1.1).1 h.1.2 (sndE a _ X fb C hN h.2).pe) rfl
    · cases h
  | .glb f n, e, X, fb, C, hN, h => by
    unfold mE at h
    split at h
    · simp only [Bool.and_eq_true, decide_eq_true_eq] at h
      obtain ⟨⟨⟨h1, h2⟩, h3⟩, h4⟩ := h
      exact .plain (e_glb C h1 h2 h3 (cmp_not _ h4)) rfl
    · cases h
  | .rgT a, e, X, fb, C, hN, h => by
    unfold mE at h
    split at h
    · simp only [Bool.and_eq_true, decide_eq_true_eq] at h
      obtain ⟨⟨⟨⟨⟨rfl, h1⟩, rfl⟩, h2⟩, h3⟩, h4⟩ := h
      exact .plain (e_rgT C h1 h2 (sndE a _ X fb C hN h4).pe h3) rfl
    · cases h
  | .rg1 a, e, X, fb, C, hN, h => by
    unfold mE at h
    split at h
    · simp only [Bool.and_eq_true, decide_eq_true_eq] at h
      obtain ⟨⟨⟨⟨⟨rfl, h1⟩, rfl⟩, h2⟩, h3⟩, h4⟩ := h
      exact .plain (e_rg1 C h1 h2 (sndE a _ X fb C hN h4).pe h3) rfl
    · cases h
  | .rg2 a b, e, X, fb, C, hN, h => by
    unfold mE at h
    split at h
    · simp only [Bool.and_eq_true, decide_eq_true_eq] at h
      obtain ⟨⟨⟨⟨⟨⟨⟨rfl, h1⟩, rfl⟩, h2⟩, h3⟩, h4⟩, h5⟩, h6⟩ := h
      exact .plain (e_rg2 C h1 h2 (sndE a _ X fb C hN h5).pe (sndE b _ X fb C hN h6).pe h3 h4) rfl
    · cases h
  | .orep x k, e, X, fb, C, hN, h => by
    unfold mE at h
    split at h
    · simp only [Bool.and_eq_true] at h
      exact .plain (e_orep (sndE x _ X fb C hN h.1).pe (sndE k _ X fb C hN h.2).pe) rfl
    · cases h
  | .neg a, e, X, fb, C, hN, h => by
    unfold mE at h
    split at h
    · exact .plain (e_neg (sndE a _ X fb C hN h).pe) rfl
    · cases h
  | .not a, e, X, fb, C, hN, h => by
    unfold mE at h
    split at h
    · have i := sndE a _ X fb C hN h
      exact ⟨e_not i.pe, t_not i.pt, fun z => nomatch z⟩
    · cases h
  | .cmp op a b, e, X, fb, C, hN, h => by
    unfold mE at h
    split at h
    · simp only [Bool.and_eq_true, decide_eq_true_eq] at h
      obtain ⟨⟨⟨rfl, h0⟩, h1⟩, h2⟩ := h
      have i1 := (sndE a _ X fb C hN h1).pe
      have i2 := (sndE b _ X fb C hN h2).pe
      have hu : X.A.units + 66 < cLine := Nat.lt_of_le_of_lt (by omega) C.hu
      exact ⟨e_cmp hu i1 i2 h0, t_cmp hu i1 i2 h0, fun z => nomatch z⟩
    · cases h
  | .isn a, e, X, fb, C, hN, h => by
    unfold mE at h
    split at h
    · have i := (sndE a _ X fb C hN h).pe
      exact ⟨e_isn i, t_isn i, fun z => nomatch z⟩
    · cases h
  | .notn a, e, X, fb, C, hN, h => by
    unfold mE at h
    split at h
    · have i := (sndE a _ X fb C hN h).pe
      exact ⟨e_notn i, t_notn i, fun z => nomatch z⟩
    · cases h
  | .chain o1 o2 a b c, e, X, fb, C, hN, h => by
    unfold mE at h
    split at h
    · simp only [Bool.and_eq_true, decide_eq_true_eq] at h
      obtain ⟨⟨⟨⟨⟨rfl, rfl⟩, h0⟩, h1⟩, h2⟩, h3⟩ := h
      have i1 := (sndE a _ X fb C hN h1).pe
      have i2 := (sndE b _ X fb C hN h2).pe
      have i3 := (sndE c _ X fb C hN h3).pe
      have hu : X.A.units + 66 < cLine := Nat.lt_of_le_of_lt (by omega) C.hu
      exact ⟨e_chain hu i1 i2 i3 h0, t_chain hu i1 i2 i3 h0, fun z => nomatch z⟩
    · cases h
  | .and a b, e, X, fb, C, hN, h => by
    unfold mE at h
    split at h
    · simp only [Bool.and_eq_true] at h
      have i1 := sndE a _ X fb C hN h.1
      have i2 := sndE b _ X fb C hN h.2
      have w := w_and (pos := ‹Pos›) i1.pt (pw_and1 i2.pt)
      exact ⟨e_and i1.pe (pe_one i2.pe), w.pt, fun _ => w⟩
    · simp only [Bool.and_eq_true] at h
      have i1 := sndE a _ X fb C hN h.1
      have i2 := sndE b _ X fb C hN h.2
      have w := w_and i1.pt (i2.pw rfl)
      exact ⟨e_and i1.pe i2.pe, w.pt, fun _ => w⟩
    · cases h
  | .or a b, e, X, fb, C, hN, h => by
    unfold mE at h
    split at h
    · simp only [Bool.and_eq_true] at h
      have i1 := sndE a _ X fb C hN h.1
      have i2 := sndE b _ X fb C hN h.2
      have w := w_or (pos := ‹Pos›) i1.pt (pw_or1 i2.pt)
      exact ⟨e_or i1.pe (pe_one i2.pe), w.pt, fun _ => w⟩
    · simp only [Bool.and_eq_true] at h
      have i1 := sndE a _ X fb C hN h.1
      have i2 := sndE b _ X fb C hN h.2
      have w := w_or i1.pt (i2.pw rfl)
      exact ⟨e_or i1.pe i2.pe, w.pt, fun _ => w⟩
    · cases h
  | .ite c a b, e, X, fb, C, hN, h => by
    unfold mE at h
    split at h
    · simp only [Bool.and_eq_true] at h
      have i1 := sndE c _ X fb C hN h.1.1
      have i2 := sndE a _ X fb C hN h.1.2
      have i3 := sndE b _ X fb C hN h.2
      exact ⟨e_ite i1.pt i2.pe i3.pe, t_ite i1.pt i2.pt i3.pt, fun z => nomatch z⟩
    · cases h
  | .idx a i, e, X, fb, C, hN, h => by
    unfold mE at h
    split at h
    · simp only [Bool.and_eq_true] at h
      exact .plain (e_idx (Nat.lt_of_le_of_lt (by omega) C.hu) (sndE a _ X fb C hN h.1.2).pe (sndE i _ X fb C hN h.2).pe h.1.1) rfl
    · cases h
  | .slo a i, e, X, fb, C, hN, h => by
    unfold mE at h
    split at h
    · simp only [Bool.and_eq_true] at h
      exact .plain (e_slo (sndE a _ X fb C hN h.1).pe (sndE i _ X fb C hN h.2).pe) rfl
    · cases h
  | .shi a i, e, X, fb, C, hN, h => by
    unfold mE at h
    split at h
    · simp only [Bool.and_eq_true] at h
      exact .plain (e_shi (sndE a _ X fb C hN h.1).pe (sndE i _ X fb C hN h.2).pe) rfl
    · cases h
  | .slh a i j, e, X, fb, C, hN, h => by
    unfold mE at h
    split at h
    · simp only [Bool.and_eq_true] at h
      exact .plain (e_slh (sndE a _ X fb C hN h.1.1).pe (sndE i _ X fb C hN h.1.2).pe (sndE j _ X fb C hN h.2).pe) rfl
    · cases h
  | .rev a, e, X, fb, C, hN, h => by
    unfold mE at h
    split at h
    · exact .plain (e_rev (sndE a _ X fb C hN h).pe) rfl
    · cases h
  | .call f sig cs, e, X, fb, C, hN, h => by
    unfold mE at h
    split at h
    · simp only [Bool.and_eq_true, decide_eq_true_eq] at h
      obtain ⟨⟨⟨⟨⟨⟨h1, h7⟩, h2⟩, h3⟩, h4⟩, h5⟩, h6⟩ := h
      exact .plain (e_call C h1 h7 h2 h3 (cmp_not _ h4) h5 (sndEs cs _ X fb C hN h6).1) rfl
    · cases h
  | .b1 f a, e, X, fb, C, hN, h => by
    unfold mE at h
    rw [Bool.or_eq_true] at h
    rcases h with h | h
    · split at h
      · simp only [Bool.and_eq_true, decide_eq_true_eq] at h
        obtain ⟨⟨⟨⟨⟨h1, h2⟩, rfl⟩, h4⟩, h5⟩, h6⟩ := h
        exact .plain (e_b1 C h1 h2 h4 (sndE a _ X fb C hN h6).pe h5) rfl
      · cases h
    · split at h
      · simp only [Bool.and_eq_true, Bool.or_eq_true, decide_eq_true_eq] at h
        obtain ⟨⟨⟨⟨⟨rfl, h2⟩, h3⟩, h4⟩, h5⟩, h6⟩ := h
        rcases h6 with ⟨rfl, rfl⟩ | ⟨rfl, rfl⟩
        · exact .plain (e_lenset C h4 h2 (sndE a _ X fb C hN h5).pe h3) rfl
        · exact .plain (e_sortset C h4 h2 (sndE a _ X fb C hN h5).pe h3) rfl
      · cases h
  | .b2 f a b, e, X, fb, C, hN, h => by
    unfold mE at h
    split at h
    · simp only [Bool.and_eq_true, decide_eq_true_eq] at h
      obtain ⟨⟨⟨⟨⟨rfl, h2⟩, h3⟩, h4⟩, h5⟩, h6⟩ := h
      exact .plain (e_b2 C h2 (sndE a _ X fb C hN h5).pe (sndE b _ X fb C hN h6).pe h3 h4) rfl
    · cases h
  | .isi a ts, e, X, fb, C, hN, h => by
    unfold mE at h
    split at h
    · simp only [Bool.and_eq_true, decide_eq_true_eq] at h
      obtain ⟨⟨⟨⟨rfl, h2⟩, h3⟩, h4⟩, h5⟩ := h
      split at h4
      · simp only [Bool.and_eq_true, decide_eq_true_eq] at h4
        obtain ⟨rfl, h4⟩ := h4
        exact .plain (e_isi1 C h2 h4 (sndE a _ X fb C hN h5).pe h3) rfl
      · cases h4
    · simp only [Bool.and_eq_true, decide_eq_true_eq] at h
      obtain ⟨⟨⟨⟨⟨rfl, h2⟩, h3⟩, h4⟩, h5⟩, h6⟩ := h
      exact .plain (e_isi C h2 h4 h5 (sndE a _ X fb C hN h6).pe h3) rfl
    · cases h
  | .index a b, e, X, fb, C, hN, h => by
    unfold mE at h
    cases h
  | .get1 a b, e, X, fb, C, hN, h => by
    unfold mE at h
    cases h
  | .get2 a b c, e, X, fb, C, hN, h => by
    unfold mE at h
    cases h
  | .append i a, e, X, fb, C, hN, h => by
    unfold mE at h
    split at h
    · simp only [Bool.and_eq_true, decide_eq_true_eq] at h
      obtain ⟨⟨⟨⟨rfl, h2⟩, h3⟩, h4⟩, h5⟩ := h
      exact .plain (e_append (by rw [hN]; exact h2) (sndE a _ X fb C hN h5).pe h3 h4) rfl
    · cases h
  | .extend i a, e, X, fb, C, hN, h => by
    unfold mE at h
    split at h
    · simp only [Bool.and_eq_true, decide_eq_true_eq] at h
      obtain ⟨⟨⟨⟨rfl, h2⟩, h3⟩, h4⟩, h5⟩ := h
      exact .plain (e_extend (by rw [hN]; exact h2) (sndE a _ X fb C hN h5).pe h3 h4) rfl
    · cases h
  | .pop i, e, X, fb, C, hN, h => by
    unfold mE at h
    split at h
    · simp only [Bool.and_eq_true, decide_eq_true_eq] at h
      obtain ⟨⟨rfl, h2⟩, h4⟩ := h
      exact .plain (e_pop (by rw [hN]; exact h2) h4) rfl
    · cases h
  | .popat i a, e, X, fb, C, hN, h => by
    unfold mE at h
    split at h
    · simp only [Bool.and_eq_true, decide_eq_true_eq] at h
      obtain ⟨⟨⟨⟨rfl, h2⟩, h3⟩, h4⟩, h5⟩ := h
      exact .plain (e_popat (by rw [hN]; exact h2) (sndE a _ X fb C hN h5).pe h3 h4) rfl
    · cases h
  | .lc own tg it cs elt, e, X, fb, C, hN, h => by
    unfold mE at h
    split at h
    · simp only [Bool.and_eq_true, decide_eq_true_eq] at h
      obtain ⟨⟨⟨⟨⟨⟨⟨h1, h2⟩, h3⟩, h4⟩, h5⟩, h6⟩, h7⟩, h8⟩ := h
      subst hN
      have hk := (blkOk_by h1).kind
      have CB : ∀ (s : Shared) (H : Hp) (D : Addr) (cl : List (Str × Addr)) (fp : List Addr), Ctx (X.blk s H _ (compEnvC _ cl D X.env) fp) L Φ _ := fun s H D cl fp => C.blk hk
      exact .plain (e_lc C (sndI it _ X fb _ _ C rfl rfl h5) h4 h1 (fun s H D cl fp => pg_T (CB s H D cl fp) h6) (fun s H D cl fp => sndCs cs _ _ _ (CB s H D cl fp) rfl h7)
        (fun s H D cl fp => (sndE elt _ _ _ (CB s H D cl fp) rfl h8).pe) h2 h3) rfl
    · cases h
  | .appx a, e, X, fb, C, hN, h => by
    unfold mE at h
    split at h
    · simp only [Bool.and_eq_true, decide_eq_true_eq] at h
      obtain ⟨⟨rfl, h2⟩, h3⟩ := h
      exact .plain (e_appx (sndE a _ X fb C hN h3).pe rfl h2) rfl
    · cases h
  | .lcO own tg ix cs elt, e, X, fb, C, hN, h => by
    unfold mE at h
    split at h
    · simp only [Bool.and_eq_true, decide_eq_true_eq] at h
      obtain ⟨⟨⟨⟨⟨⟨⟨h1, h2⟩, h3⟩, h4⟩, h5⟩, h6⟩, h7⟩, h8⟩ := h
      subst hN
      have hk := (blkOk_by h1).kind
      have CB : ∀ (s : Shared) (H : Hp) (D : Addr) (cl : List (Str × Addr)) (fp : List Addr), Ctx (X.blk s H _ (compEnvC _ cl D X.env) fp) L Φ _ := fun s H D cl fp => C.blk hk
      exact .plain (e_lcO C h5 h1 (fun s H D cl fp => pg_T (CB s H D cl fp) h6) (fun s H D cl fp => sndCs cs _ _ _ (CB s H D cl fp) rfl h7)
        (fun s H D cl fp => (sndE elt _ _ _ (CB s H D cl fp) rfl h8).pe) h2 h3 h4) rfl
    · cases h
  | .lc2 own tg it cs tg2 it2 cs2 elt, e, X, fb, C, hN, h => by
    unfold mE at h
    split at h
    · simp only [Bool.and_eq_true, decide_eq_true_eq] at h
      obtain ⟨⟨⟨⟨⟨⟨⟨⟨⟨⟨⟨⟨h1, h2⟩, h3⟩, h3'⟩, h4⟩, h4'⟩, h5⟩, h6⟩, h7⟩, h8⟩, h9⟩, h10⟩, h11⟩ := h
      subst hN
      have hk := (blkOk_by h1).kind
      have CB : ∀ (s : Shared) (H : Hp) (D : Addr) (cl : List (Str × Addr)) (fp : List Addr), Ctx (X.blk s H _ (compEnvC _ cl D X.env) fp) L Φ _ := fun s H D cl fp => C.blk hk
      exact .plain (e_lc2 C (sndI it _ X fb _ _ C rfl rfl h5) h4 h4' h1 (fun s H D cl fp => pg_T (CB s H D cl fp) h6) (fun s H D cl fp => sndCs cs _ _ _ (CB s H D cl fp) rfl h7)
        (fun s H D cl fp => sndI it2 _ _ _ _ _ (CB s H D cl fp) rfl rfl h8) (fun s H D cl fp => pg_T (CB s H D cl fp) h9) (fun s H D cl fp => sndCs cs2 _ _ _ (CB s H D cl fp) rfl h10)
        (fun s H D cl fp => (sndE elt _ _ _ (CB s H D cl fp) rfl h11).pe) h2 h3 h3') rfl
    · cases h
theorem sndEs {L : List (String × List Bool)} {Φ : Tbl} {N : List Str} {io : List Nat} : ∀ (cs : Es) (es : List Expr) (X : Cx) (fb : Str → Bool), Ctx X L Φ fb → X.N = N → mEs L N io X.env.scope fb cs es = true → PA X es (tA X.K Φ io cs) ∧ PA X es (tA' X.K Φ io cs)
  | .nil, es, X, fb, C, hN, h => by
    unfold mEs at h
    split at h
    · exact ⟨pa_nilC, pdnil⟩
    · cases h
  | .cons a cs, es, X, fb, C, hN, h => by
    unfold mEs at h
    split at h
    · simp only [Bool.and_eq_true] at h
      have i1 := (sndE a _ X fb C hN h.1.2).pe
      have i2 := sndEs cs _ X fb C hN h.2
      exact ⟨pa_consC i1 i2.1 h.1.1, pdrop i1 i2.2 h.1.1⟩
    · cases h
theorem sndCs {L : List (String × List Bool)} {Φ : Tbl} {N : List Str} {io : List Nat} : ∀ (cs : Es) (es : List Expr) (X : Cx) (fb : Str → Bool), Ctx X L Φ fb → X.N = N → mCs L N io X.env.scope fb cs es = true → PTs X es (tCs X.K Φ io cs)
  | .nil, es, X, fb, C, hN, h => by
    unfold mCs at h
    split at h
    · exact pts_nilC
    · cases h
  | .cons a cs, es, X, fb, C, hN, h => by
    unfold mCs at h
    split at h
    · exact pts_oneC (sndE a _ X fb C hN h).pt
    · cases h
theorem sndI {L : List (String × List Bool)} {Φ : Tbl} {N : List Str} {io : List Nat} : ∀ (it : It) (e : Expr) (X : Cx) (fb : Str → Bool) (tg : Expr) (t : Bool), Ctx X L Φ fb → X.N = N → isTupE tg = t → mI L N io X.env.scope fb it e t = true → PI X tg e (tI X.K Φ io it)
  | .of a, e, X, fb, tg, t, C, hN, ht, h => by
    unfold mI at h
    exact i_of (sndE a _ X fb C hN h).pe
  | .range1 a, e, X, fb, tg, t, C, hN, ht, h => by
    unfold mI at h
    split at h
    · simp only [Bool.and_eq_true, decide_eq_true_eq] at h
      obtain ⟨⟨⟨rfl, h2⟩, h3⟩, h4⟩ := h
      exact i_range1 C h2 (sndE a _ X fb C hN h4).pe h3
    · cases h
  | .range2 a b, e, X, fb, tg, t, C, hN, ht, h => by
    unfold mI at h
    split at h
    · simp only [Bool.and_eq_true, decide_eq_true_eq] at h
      obtain ⟨⟨⟨⟨⟨rfl, h2⟩, h3⟩, h4⟩, h5⟩, h6⟩ := h
      exact i_range2 C h2 (sndE a _ X fb C hN h5).pe (sndE b _ X fb C hN h6).pe h3 h4
    · cases h
  | .range3 a b c, e, X, fb, tg, t, C, hN, ht, h => by
    unfold mI at h
    split at h
    · simp only [Bool.and_eq_true, decide_eq_true_eq] at h
      obtain ⟨⟨⟨⟨⟨⟨⟨rfl, h2⟩, h3⟩, h4⟩, h5⟩, h6⟩, h7⟩, h8⟩ := h
      exact i_range3 C h2 (sndE a _ X fb C hN h6).pe (sndE b _ X fb C hN h7).pe (sndE c _ X fb C hN h8).pe h3 h4 h5
    · cases h
  | .enum a, e, X, fb, tg, t, C, hN, ht, h => by
    unfold mI at h
    split at h
    · simp only [Bool.and_eq_true, decide_eq_true_eq] at h
      obtain ⟨⟨⟨⟨h0, rfl⟩, h2⟩, h3⟩, h4⟩ := h
      subst ht
      have i1 := (sndE a _ X fb C hN h4).pe
      cases tg <;> first | exact Bool.noConfusion h0 | exact i_enum C h2 i1 h3
    · cases h
  | .zip2 st a b, e, X, fb, tg, t, C, hN, ht, h => by
    unfold mI at h
    split at h
    · simp only [Bool.and_eq_true, decide_eq_true_eq] at h
      obtain ⟨⟨⟨⟨⟨⟨⟨h0, h1⟩, rfl⟩, h2⟩, h3⟩, h4⟩, h5⟩, h6⟩ := h
      subst ht
      have e0 : st = false := cmp_not _ h1
      subst e0
      have i1 := (sndE a _ X fb C hN h5).pe
      have i2 := (sndE b _ X fb C hN h6).pe
      cases tg <;> first | exact Bool.noConfusion h0 | exact i_zip2 C h2 i1 i2 h3 h4
    · simp only [Bool.and_eq_true, decide_eq_true_eq] at h
      obtain ⟨⟨⟨⟨⟨⟨⟨⟨h0, rfl⟩, rfl⟩, rfl⟩, h2⟩, h3⟩, h4⟩, h5⟩, h6⟩ := h
      subst ht
      have i1 := (sndE a _ X fb C hN h5).pe
      have i2 := (sndE b _ X fb C hN h6).pe
      cases tg <;> first | exact Bool.noConfusion h0 | exact i_zip2K (zturn _ _) C h2 i1 i2 h3 h4
    · cases h
  | .zip3 st a b c, e, X, fb, tg, t, C, hN, ht, h => by
    unfold mI at h
    split at h
    · simp only [Bool.and_eq_true, decide_eq_true_eq] at h
      obtain ⟨⟨⟨⟨⟨⟨⟨⟨⟨h0, h1⟩, rfl⟩, h2⟩, h3⟩, h4⟩, h5⟩, h6⟩, h7⟩, h8⟩ := h
      subst ht
      have e0 : st = false := cmp_not _ h1
      subst e0
      have i1 := (sndE a _ X fb C hN h6).pe
      have i2 := (sndE b _ X fb C hN h7).pe
      have i3 := (sndE c _ X fb C hN h8).pe
      cases tg <;> first | exact Bool.noConfusion h0 | exact i_zip3 C h2 i1 i2 i3 h3 h4 h5
    · simp only [Bool.and_eq_true, decide_eq_true_eq] at h
      obtain ⟨⟨⟨⟨⟨⟨⟨⟨⟨⟨⟨h0, h1⟩, rfl⟩, rfl⟩, rfl⟩, h2⟩, h3⟩, h4⟩, h5⟩, h6⟩, h7⟩, h8⟩ := h
      subst ht
      have e0 : st = false := cmp_not _ h1
      subst e0
      have i1 := (sndE a _ X fb C hN h6).pe
      have i2 := (sndE b _ X fb C hN h7).pe
      have i3 := (sndE c _ X fb C hN h8).pe
      cases tg <;> first | exact Bool.noConfusion h0 | exact i_zip3K C h2 i1 i2 i3 h3 h4 h5
    · cases h
end
end Co

set_option linter.all false
/-! Co18: statements, decided and sound. -/
namespace Co
open PySem PySem.Spec PyProof.Rows L2

def isStarE : Expr → Bool
  | .Starred .. => true
  | _ => false
def nmOf (sc : Scope) (line : Nat) : Expr → Option Str
  | .Name id pos => if sc.names.lookup id == some .local && pos.line == line then some id else none
  | _ => none
/-- how a tuple's values are stored: swapped (the names), in order, or not told -/
def swq (sc : Scope) (ts vs : List Expr) : Option (Option (List Str)) :=
  if !(ts.length == 2 || ts.length == 3) || vs.length != ts.length then some none
  else if vs.any isStarE then some none
  else if (ts.filterMap (nmOf sc ((ts.head?.map (·.pos.line)).getD 0))).length != ts.length || (ts.filterMap (nmOf sc ((ts.head?.map (·.pos.line)).getD 0))).eraseDups.length != (ts.filterMap (nmOf sc ((ts.head?.map (·.pos.line)).getD 0))).length then some none
  else if vs.all (foldedForSure 8) then some none
  else if vs.all (constantsAlone 8) then none
  else some (some (ts.filterMap (nmOf sc ((ts.head?.map (·.pos.line)).getD 0))))
theorem block_fn {env : PySem.Env} (hk : env.scope.kind = .function) : env.blockKind = .function := by
  unfold PySem.Env.blockKind; rw [hk]; rfl
theorem swq_ok {env : PySem.Env} (hk : env.scope.kind = .function) {ts vs : List Expr} {k k2 : Nat} {p p2 : Pos} {r : Option (List Str)} (h : swq env.scope ts vs = some r) : swappedStores [.Tuple ts k p] (.Tuple vs k2 p2) env = pure r := by
  have hb := block_fn hk
  unfold swq at h
  unfold swappedStores
  simp only [hb]
  generalize hnm : (ts.filterMap (nmOf env.scope ((ts.head?.map (·.pos.line)).getD 0))) = nm at h
  have goal : (if (!(ts.length == 2 || ts.length == 3) || vs.length != ts.length || ScopeKind.function != ScopeKind.function) = true then (pure none : Sem (Option (List Str)))
      else if vs.any isStarE = true then pure none
      else if (nm.length != ts.length || nm.eraseDups.length != nm.length) = true then pure none
      else if vs.all (foldedForSure 8) = true then pure none
      else if vs.all (constantsAlone 8) = true then (do let _ : Unit ← unsupported "assign.tuple-of-constant-expressions:order-of-the-stores"; pure (some nm))
      else pure (some nm)) = pure r := by
    have e0 : (ScopeKind.function != ScopeKind.function) = false := by decide
    rw [e0, Bool.or_false]
    split at h
    · cases h; rw [if_pos (by assumption)]
    · rw [if_neg (by assumption)]
      split at h
      · cases h; rw [if_pos (by assumption)]
      · rw [if_neg (by assumption)]
        split at h
        · cases h; rw [if_pos (by assumption)]
        · rw [if_neg (by assumption)]
          split at h
          · cases h; rw [if_pos (by assumption)]
          · rw [if_neg (by assumption)]
            split at h
            · cases h
            · cases h; rw [if_neg (by assumption)]
  rw [← goal, ← hnm]
  rfl

theorem swap_sub {e : Expr} {o i : Expr} {p : Pos} {n : Nat} {env : PySem.Env} : swapsWith e (some (.Subscript o i p)) n env = pure false := by cases e <;> rfl
theorem swap_tup {e : Expr} {ts : List Expr} {k : Nat} {p : Pos} {n : Nat} {env : PySem.Env} : swapsWith e (some (.Tuple ts k p)) n env = pure false := by cases e <;> rfl
/-- a comprehension's list goes to the name at once -/
def swB (sc scope : Scope) (t : Str) (tp pos : Pos) : Bool := sc.names.lookup t == some .local && tp.line == pos.line && !(scope.names.any fun (n, k) => n == t && (k == .local || k == .cell))
theorem swB_ok {env : PySem.Env} (hk : env.scope.kind = .function) {elt : Expr} {gs : List Comprehension} {scope : Scope} {pos py : Pos} {y : Str} {l : Nat} : swapsWith (.ListComp elt gs scope pos) (some (.Name y py)) l env = pure (swB env.scope scope y py pos) := by
  have hb := block_fn hk
  unfold swapsWith
  simp only [hb]
  rfl
def lcScope : Expr → Option (Scope × Pos)
  | .ListComp _ _ s p => some (s, p)
  | _ => none
def notComp : Expr → Bool
  | .SetComp .. | .DictComp .. => false
  | _ => true
def mPar (sc : Scope) (is : List Nat) (ts vs : List Expr) : Bool := match swq sc ts vs with
  | none => false
  | some none => true
  | some (some names) => match ts, is with
    | [.Name x _, .Name y _], [_, _] => decide (names = [x, y]) && decide (sc.names.lookup x = some .local) && decide (sc.names.lookup y = some .local) && decide (vs.length = 2)
    | [.Name x _, .Name y _, .Name z _], [_, _, _] => decide (names = [x, y, z]) && decide (sc.names.lookup x = some .local) && decide (sc.names.lookup y = some .local) && decide (sc.names.lookup z = some .local) && decide (vs.length = 3)
    | _, _ => false
mutual
def mS (L : List (String × List Bool)) (N : List Str) (io : List Nat) (sc : Scope) (fb : Str → Bool) : S → Stmt → Bool
  | .skip, st => match st with
    | .Pass _ => true
    | .Expr (.Constant (.str _) _ _) _ => true
    | _ => false
  | .seq a b, st => false
  | .expr a, st => match st with
    | .Expr e _ => notLc e && mE L N io sc fb a e
    | _ => false
  | .asg i a, st => match st with
    | .Assign [.Name x p] e _ => mSt N sc fb i x && wfSl N.length io [i] && notComp e && mE L N io sc fb a e
    | _ => false
  | .unpack is a, st => match st with
    | .Assign [.Tuple ts _ _] e _ => notTup e && mSts N sc fb is ts && wfSl N.length io is && mE L N io sc fb a e
    | _ => false
  | .par is cs, st => match st with
    | .Assign [.Tuple ts _ _] (.Tuple vs _ _) _ => mSts N sc fb is ts && mPar sc is ts vs && wfSl N.length io is && decide is.Nodup && decide (cs.len ≤ 1000) && mEs L N io sc fb cs vs
    | _ => false
  | .put i k a, st => match st with
    | .Assign [.Subscript (.Name x _) e1 _] e2 _ => mVis N sc i x && notSlice e1 && mE L N io sc fb k e1 && mE L N io sc fb a e2
    | _ => false
  | .aug i op a, st => match st with
    | .AugAssign (.Name x _) o e _ => mSt N sc fb i x && wfSl N.length io [i] && (match op, o with | .add, .Add => true | .sub, .Sub => true | _, _ => false) && mE L N io sc fb a e
    | _ => false
  | .ifs c a b, st => match st with
    | .If e body els _ => mE L N io sc fb c e && mSs L N io sc fb a body && mSs L N io sc fb b els
    | _ => false
  | .for tg it a, st => match st with
    | .For etg iter body [] _ => mTg N sc fb tg etg && wfSl N.length io tg.slots && notSet iter && mI L N io sc fb it iter (isTupE etg) && mSs L N io sc fb a body
    | _ => false
  | .whl c a, st => match st with
    | .While e body [] _ => mE L N io sc fb c e && mSs L N io sc fb a body
    | _ => false
  | .ret a, st => match st with
    | .Return (some e) _ => mE L N io sc fb a e
    | _ => false
  | .retn, st => match st with
    | .Return none _ => true
    | _ => false
  | .brk, st => match st with
    | .Break _ => true
    | _ => false
  | .cont, st => match st with
    | .Continue _ => true
    | _ => false
def mSs (L : List (String × List Bool)) (N : List Str) (io : List Nat) (sc : Scope) (fb : Str → Bool) : S → List Stmt → Bool
  | .skip, sts => match sts with
    | [] => true
    | _ => false
  | .seq a b, sts => match sts with
    | st :: rest => mS L N io sc fb a st && mSs L N io sc fb b rest
    | _ => false
  | _, _ => false
end
section
variable {X : Cx} {L : List (String × List Bool)} {Φ : Tbl} {fb : Str → Bool} {io : List Nat} {pos p p2 : Pos} {i : Nat} {x : Str}
theorem s_asgLcO (C : Ctx X L Φ fb) {own : List Nat} {tg : Tg} {ix : Nat} {y : Str} {cs : Es} {elt : E} {etg eelt : Expr} {ifs : List Expr} {scope : Scope} {p3 : Pos} (hy : X.N[i]? = some x) (hyl : X.env.scope.names.lookup x = some .local)
    (hsw : swapsWith (.ListComp eelt [⟨etg, .Name y p3, ifs, 0⟩] scope p2) (some (.Name x p)) pos.line X.env = pure true) (hv : mVis X.N X.env.scope ix y = true)
    (ok : blkC X.N X.env.scope scope (nmSl X.N own) = true)
    (hg : ∀ (s : Shared) (H : Hp) (D : Addr) (cl : List (Str × Addr)) (fp : List Addr), PG (X.blk s H scope (compEnvC scope cl D X.env) fp) etg (gT X.K tg))
    (ht : ∀ (s : Shared) (H : Hp) (D : Addr) (cl : List (Str × Addr)) (fp : List Addr), PTs (X.blk s H scope (compEnvC scope cl D X.env) fp) ifs (tCs X.K Φ io cs))
    (he : ∀ (s : Shared) (H : Hp) (D : Addr) (cl : List (Str × Addr)) (fp : List Addr), PE (X.blk s H scope (compEnvC scope cl D X.env) fp) eelt (tE X.K Φ io elt))
    (wfo : wfSl X.N.length io own = true) (wft : ∀ i ∈ tg.slots, i ∈ own) (hix : ix ∉ own) (wf : wfSl X.N.length io [i] = true) :
    PS X (.Assign [.Name x p] (.ListComp eelt [⟨etg, .Name y p3, ifs, 0⟩] scope p2) pos) (tS X.K Φ io (.asg i (.lcO own tg ix cs elt))) :=
  PS.weakL (ps_setLc C.calm C.nd hy hyl hsw (pi_list (pe_name hv)) (blkOk_by ok) hg ht he fun z => folded_ok rfl X.env z) fun D σ H hl ⟨g, F, env, De, Rp, w, E⟩ => by
    show tLc _ _ _ _ _ σ H fun x H1 => gName i x σ H1 D.nx
    rw [nmSl_snd]
    exact lc_redO hl wfo wft hix Rp w fun v H' F' r env' m R' d q => asg_fin wf hl E m R' d q
theorem s_asgLc2 (C : Ctx X L Φ fb) {own : List Nat} {tg tg2 : Tg} {it it2 : It} {cs cs2 : Es} {elt : E} {etg iter eelt etg2 iter2 : Expr} {ifs ifs2 : List Expr} {scope : Scope} (hy : X.N[i]? = some x) (hyl : X.env.scope.names.lookup x = some .local)
    (hsw : swapsWith (.ListComp eelt [⟨etg, iter, ifs, 0⟩, ⟨etg2, iter2, ifs2, 0⟩] scope p2) (some (.Name x p)) pos.line X.env = pure true) (hi : PI X etg iter (tI X.K Φ io it)) (ns : notSet iter = true) (ns2 : notSet iter2 = true)
    (ok : blkC X.N X.env.scope scope (nmSl X.N own) = true)
    (hg : ∀ (s : Shared) (H : Hp) (D : Addr) (cl : List (Str × Addr)) (fp : List Addr), PG (X.blk s H scope (compEnvC scope cl D X.env) fp) etg (gT X.K tg))
    (ht : ∀ (s : Shared) (H : Hp) (D : Addr) (cl : List (Str × Addr)) (fp : List Addr), PTs (X.blk s H scope (compEnvC scope cl D X.env) fp) ifs (tCs X.K Φ io cs))
    (hi2 : ∀ (s : Shared) (H : Hp) (D : Addr) (cl : List (Str × Addr)) (fp : List Addr), PI (X.blk s H scope (compEnvC scope cl D X.env) fp) etg2 iter2 (tI X.K Φ io it2))
    (hg2 : ∀ (s : Shared) (H : Hp) (D : Addr) (cl : List (Str × Addr)) (fp : List Addr), PG (X.blk s H scope (compEnvC scope cl D X.env) fp) etg2 (gT X.K tg2))
    (ht2 : ∀ (s : Shared) (H : Hp) (D : Addr) (cl : List (Str × Addr)) (fp : List Addr), PTs (X.blk s H scope (compEnvC scope cl D X.env) fp) ifs2 (tCs X.K Φ io cs2))
    (he : ∀ (s : Shared) (H : Hp) (D : Addr) (cl : List (Str × Addr)) (fp : List Addr), PE (X.blk s H scope (compEnvC scope cl D X.env) fp) eelt (tE X.K Φ io elt))
    (wfo : wfSl X.N.length io own = true) (wft : ∀ i ∈ tg.slots, i ∈ own) (wft2 : ∀ i ∈ tg2.slots, i ∈ own) (wf : wfSl X.N.length io [i] = true) :
    PS X (.Assign [.Name x p] (.ListComp eelt [⟨etg, iter, ifs, 0⟩, ⟨etg2, iter2, ifs2, 0⟩] scope p2) pos) (tS X.K Φ io (.asg i (.lc2 own tg it cs tg2 it2 cs2 elt))) :=
  PS.weakL (ps_setLc2 (vs1 := tg2.slots) C.calm C.nd hy hyl hsw hi (blkOk_by ok) (fun i hi => by rw [nmSl_snd]; exact wft2 i hi) hg ht hi2 hg2 ht2 he (fun x => folded_ok ns X.env x) fun env x => folded_ok ns2 env x) fun D σ H hl ⟨g, F, env, De, Rp, w, E⟩ => by
    show tLc2 _ _ _ _ _ _ _ _ _ σ H fun x H1 => gName i x σ H1 D.nx
    rw [nmSl_snd]
    exact lc2_red hl wfo wft wft2 Rp w fun v H' F' r env' m R' d q => asg_fin wf hl E m R' d q
end
theorem snd_asg {L : List (String × List Bool)} {Φ : Tbl} {N : List Str} {io : List Nat} {a : E} {e : Expr} {X : Cx} {fb : Str → Bool} {i : Nat} {x : Str} {p pos : Pos} (C : Ctx X L Φ fb) (hN : X.N = N) (h1 : mSt N X.env.scope fb i x = true) (h2 : wfSl N.length io [i] = true) (h3 : notComp e = true)
    (h : mE L N io X.env.scope fb a e = true) : PS X (.Assign [.Name x p] e pos) (tS X.K Φ io (.asg i a)) := by
  have he := (sndE a e X fb C hN h).pe
  subst hN
  by_cases n : notLc e = true
  · exact s_asg C he h1 (swap_no n _ _ _) h2
  · cases e <;> first | exact absurd rfl n | exact Bool.noConfusion h3 | skip
    rename_i eelt gens scope p2
    cases hs : swB X.env.scope scope x p p2 with
    | false => exact s_asg C he h1 (by rw [swB_ok C.kind, hs]) h2
    | true =>
      cases a with
      | lc own tg it cs elt =>
        have hx := hs
        unfold swB at hx
        simp only [Bool.and_eq_true] at hx
        have hl : X.env.scope.names.lookup x = some .local := by simpa using hx.1.1
        unfold mE at h
        split at h
        case h_2 => cases h
        case h_1 heq =>
          cases heq
          simp only [Bool.and_eq_true, decide_eq_true_eq] at h
          obtain ⟨⟨⟨⟨⟨⟨⟨g1, g2⟩, g3⟩, g4⟩, g5⟩, g6⟩, g7⟩, g8⟩ := h
          have hk := (blkOk_by g1).kind
          have CB : ∀ (s : Shared) (H : Hp) (D : Addr) (cl : List (Str × Addr)) (fp : List Addr), Ctx (X.blk s H _ (compEnvC _ cl D X.env) fp) L Φ _ := fun s H D cl fp => C.blk hk
          exact s_asgLc C (mSt_ok C h1).1 hl (by rw [swB_ok C.kind, hs]) (sndI it _ X fb _ _ C rfl rfl g5) g4 g1 (fun s H D cl fp => pg_T (CB s H D cl fp) g6) (fun s H D cl fp => sndCs cs _ _ _ (CB s H D cl fp) rfl g7)
            (fun s H D cl fp => (sndE elt _ _ _ (CB s H D cl fp) rfl g8).pe) g2 g3 h2
      | lcO own tg ix cs elt =>
        have hx := hs
        unfold swB at hx
        simp only [Bool.and_eq_true] at hx
        have hl : X.env.scope.names.lookup x = some .local := by simpa using hx.1.1
        unfold mE at h
        split at h
        case h_2 => cases h
        case h_1 heq =>
          cases heq
          simp only [Bool.and_eq_true, decide_eq_true_eq] at h
          obtain ⟨⟨⟨⟨⟨⟨⟨g1, g2⟩, g3⟩, g4⟩, g5⟩, g6⟩, g7⟩, g8⟩ := h
          have hk := (blkOk_by g1).kind
          have CB : ∀ (s : Shared) (H : Hp) (D : Addr) (cl : List (Str × Addr)) (fp : List Addr), Ctx (X.blk s H _ (compEnvC _ cl D X.env) fp) L Φ _ := fun s H D cl fp => C.blk hk
          exact s_asgLcO C (mSt_ok C h1).1 hl (by rw [swB_ok C.kind, hs]) g5 g1 (fun s H D cl fp => pg_T (CB s H D cl fp) g6) (fun s H D cl fp => sndCs cs _ _ _ (CB s H D cl fp) rfl g7)
            (fun s H D cl fp => (sndE elt _ _ _ (CB s H D cl fp) rfl g8).pe) g2 g3 g4 h2
      | lc2 own tg it cs tg2 it2 cs2 elt =>
        have hx := hs
        unfold swB at hx
        simp only [Bool.and_eq_true] at hx
        have hl : X.env.scope.names.lookup x = some .local := by simpa using hx.1.1
        unfold mE at h
        split at h
        case h_2 => cases h
        case h_1 heq =>
          cases heq
          simp only [Bool.and_eq_true, decide_eq_true_eq] at h
          obtain ⟨⟨⟨⟨⟨⟨⟨⟨⟨⟨⟨⟨g1, g2⟩, g3⟩, g3'⟩, g4⟩, g4'⟩, g5⟩, g6⟩, g7⟩, g8⟩, g9⟩, g10⟩, g11⟩ := h
          have hk := (blkOk_by g1).kind
          have CB : ∀ (s : Shared) (H : Hp) (D : Addr) (cl : List (Str × Addr)) (fp : List Addr), Ctx (X.blk s H _ (compEnvC _ cl D X.env) fp) L Φ _ := fun s H D cl fp => C.blk hk
          exact s_asgLc2 C (mSt_ok C h1).1 hl (by rw [swB_ok C.kind, hs]) (sndI it _ X fb _ _ C rfl rfl g5) g4 g4' g1 (fun s H D cl fp => pg_T (CB s H D cl fp) g6) (fun s H D cl fp => sndCs cs _ _ _ (CB s H D cl fp) rfl g7)
            (fun s H D cl fp => sndI it2 _ _ _ _ _ (CB s H D cl fp) rfl rfl g8) (fun s H D cl fp => pg_T (CB s H D cl fp) g9) (fun s H D cl fp => sndCs cs2 _ _ _ (CB s H D cl fp) rfl g10)
            (fun s H D cl fp => (sndE elt _ _ _ (CB s H D cl fp) rfl g11).pe) g2 g3 g3' h2
      | dct cs => cases cs <;> (unfold mE at h; simp at h)
      | _ => unfold mE at h; simp at h
theorem snd_par {L : List (String × List Bool)} {Φ : Tbl} {N : List Str} {io : List Nat} {cs : Es} {ts vs : List Expr} {X : Cx} {fb : Str → Bool} {is : List Nat} {k k2 : Nat} {p p2 pos : Pos} (C : Ctx X L Φ fb) (hN : X.N = N) (h1 : mSts N X.env.scope fb is ts = true) (h2 : mPar X.env.scope is ts vs = true)
    (h3 : wfSl N.length io is = true) (h4 : is.Nodup) (h5 : cs.len ≤ 1000) (h : mEs L N io X.env.scope fb cs vs = true) : PS X (.Assign [.Tuple ts k p] (.Tuple vs k2 p2) pos) (tS X.K Φ io (.par is cs)) := by
  have he := (sndEs cs vs X fb C hN h).2
  subst hN
  unfold mPar at h2
  split at h2
  · cases h2
  · exact s_parN C he h1 (swq_ok C.kind (by assumption)) h4 h3 h5
  · rename_i names hq
    split at h2
    · rename_i x px y py i j
      simp only [Bool.and_eq_true, decide_eq_true_eq] at h2
      obtain ⟨⟨⟨rfl, l1⟩, l2⟩, l3⟩ := h2
      simp only [mSts, Bool.and_eq_true] at h1
      match vs, l3 with
      | [v1, v2], _ => exact s_par2 C he h1.1 h1.2.1 l1 l2 (swq_ok C.kind hq) (by simpa using h4) h3
    · rename_i x px y py z pz i j l
      simp only [Bool.and_eq_true, decide_eq_true_eq] at h2
      obtain ⟨⟨⟨⟨rfl, l1⟩, l2⟩, l3⟩, l4⟩ := h2
      simp only [mSts, Bool.and_eq_true] at h1
      have nd : (i ≠ j ∧ i ≠ l) ∧ j ≠ l := by simpa using h4
      match vs, l4 with
      | [v1, v2, v3], _ => exact s_par3 C he h1.1 h1.2.1 h1.2.2.1 l1 l2 l3 (swq_ok C.kind hq) nd.1.1 nd.1.2 nd.2 h3
    · cases h2
mutual
theorem sndS {L : List (String × List Bool)} {Φ : Tbl} {N : List Str} {io : List Nat} {X : Cx} {fb : Str → Bool} (C : Ctx X L Φ fb) (hN : X.N = N) : ∀ (a : S) (st : Stmt), mS L N io X.env.scope fb a st = true → PS X st (tS X.K Φ io a)
  | .skip, st, h => by
    unfold mS at h
    split at h
    · exact s_pass
    · exact s_doc
    · cases h
  | .seq a b, st, h => by
    unfold mS at h
    cases h
  | .expr a, st, h => by
    unfold mS at h
    split at h
    · simp only [Bool.and_eq_true] at h
      exact s_expr (sndE a _ X fb C hN h.2).pe h.1
    · cases h
  | .asg i a, st, h => by
    unfold mS at h
    split at h
    · simp only [Bool.and_eq_true] at h
      exact snd_asg C hN h.1.1.1 h.1.1.2 h.1.2 h.2
    · cases h
  | .unpack is a, st, h => by
    unfold mS at h
    split at h
    · simp only [Bool.and_eq_true] at h
      subst hN
      exact s_unpack C (sndE a _ X fb C rfl h.2).pe h.1.1.1 h.1.1.2 h.1.2
    · cases h
  | .par is cs, st, h => by
    unfold mS at h
    split at h
    · simp only [Bool.and_eq_true, decide_eq_true_eq] at h
      obtain ⟨⟨⟨⟨⟨h1, h2⟩, h3⟩, h4⟩, h5⟩, h6⟩ := h
      exact snd_par C hN h1 h2 h3 h4 h5 h6
    · cases h
  | .put i k a, st, h => by
    unfold mS at h
    split at h
    · simp only [Bool.and_eq_true] at h
      obtain ⟨⟨⟨h1, h2⟩, h3⟩, h4⟩ := h
      exact s_put C (by rw [hN]; exact h1) (sndE k _ X fb C hN h3).pe (sndE a _ X fb C hN h4).pe h2
    · cases h
  | .aug i op a, st, h => by
    unfold mS at h
    split at h
    · simp only [Bool.and_eq_true] at h
      obtain ⟨⟨⟨h1, h2⟩, h3⟩, h4⟩ := h
      have he := (sndE a _ X fb C hN h4).pe
      subst hN
      split at h3
      · exact s_augAdd C he h1 h2
      · exact s_augSub C he h1 h2
      · cases h3
    · cases h
  | .ifs c a b, st, h => by
    unfold mS at h
    split at h
    · simp only [Bool.and_eq_true] at h
      exact s_if (sndE c _ X fb C hN h.1.1).pt (sndSs C hN a _ h.1.2) (sndSs C hN b _ h.2)
    · cases h
  | .for tg it a, st, h => by
    unfold mS at h
    split at h
    · simp only [Bool.and_eq_true] at h
      obtain ⟨⟨⟨⟨h1, h2⟩, h3⟩, h4⟩, h5⟩ := h
      have hb := sndSs C hN a _ h5
      have hi := sndI it _ X fb _ _ C hN rfl h4
      subst hN
      exact s_for C hi h3 (pg_T C h1) hb h2
    · cases h
  | .whl c a, st, h => by
    unfold mS at h
    split at h
    · simp only [Bool.and_eq_true] at h
      exact s_while C (sndE c _ X fb C hN h.1).pt (sndSs C hN a _ h.2)
    · cases h
  | .ret a, st, h => by
    unfold mS at h
    split at h
    · exact s_ret (sndE a _ X fb C hN h).pe
    · cases h
  | .retn, st, h => by
    unfold mS at h
    split at h
    · exact s_retn
    · cases h
  | .brk, st, h => by
    unfold mS at h
    split at h
    · exact s_brk
    · cases h
  | .cont, st, h => by
    unfold mS at h
    split at h
    · exact s_cont
    · cases h
theorem sndSs {L : List (String × List Bool)} {Φ : Tbl} {N : List Str} {io : List Nat} {X : Cx} {fb : Str → Bool} (C : Ctx X L Φ fb) (hN : X.N = N) : ∀ (a : S) (sts : List Stmt), mSs L N io X.env.scope fb a sts = true → PSs X sts (tS X.K Φ io a)
  | .skip, sts, h => by
    unfold mSs at h
    split at h
    · exact s_nil
    · cases h
  | .seq a b, sts, h => by
    unfold mSs at h
    split at h
    · simp only [Bool.and_eq_true] at h
      exact s_cons (sndS C hN a _ h.1) (sndSs C hN b _ h.2)
    · cases h
  | .expr .., sts, h | .asg .., sts, h | .unpack .., sts, h | .par .., sts, h | .put .., sts, h | .aug .., sts, h | .ifs .., sts, h | .for .., sts, h | .whl .., sts, h | .ret .., sts, h | .retn, sts, h | .brk, sts, h | .cont, sts, h => by
    unfold mSs at h
    cases h
end
end Co

set_option linter.all false
/-! Co19: a def of the text keeps the promise that its body's weakest precondition makes. -/
namespace Co
open PySem PySem.Spec PyProof.Rows L2

def startE (n : Nat) : List Bool → List PyData → Env
  | b :: sg, d :: ds => some (if b = true then .io d else .val d) :: startE (n - 1) sg ds
  | _, _ => List.replicate n none
def ioOf (k : Nat) : List Bool → List Nat
  | [] => []
  | true :: sg => k :: ioOf (k + 1) sg
  | false :: sg => ioOf (k + 1) sg
def newsOf (env : Env) (io : List Nat) : List PyData := io.filterMap fun i => slC (slot env i)
def endsOf (io : List Nat) (Q : Sl → List PyData → Prop) : Co.Ends := { nx := fun e => Q (.val .none) (newsOf e io), rt := fun s e => Q s (newsOf e io), bk := fun _ => False, ct := fun _ => False }
/-- a body keeps a promise, the callees keeping theirs -/
def Impl (Φ : Tbl) (sig : List Bool) (n : Nat) (body : S) (sp : Spec) : Prop := ∀ ds Q, sp ds Q → ds.length = sig.length → wpS Φ body (startE n sig ds) (endsOf (ioOf 0 sig) Q)

def insOf (k : Nat) : List Bool → List V → List (Nat × Addr)
  | true :: sg, .ref p :: vs => (k, p) :: insOf (k + 1) sg vs
  | _ :: sg, _ :: vs => insOf (k + 1) sg vs
  | _, _ => []
section
variable {K : Frag} {F H : Hp}
theorem insOf_snd : ∀ {sig : List Bool} {vs : List V} {k : Nat}, (insOf k sig vs).map (·.2) = inAddr sig vs
  | [], vs, k => rfl
  | b :: sig, [], k => by cases b <;> rfl
  | b :: sig, v :: vs, k => by
    cases b <;> cases v <;> first | exact insOf_snd (sig := sig) (vs := vs) (k := k + 1) | exact congrArg _ (insOf_snd (sig := sig) (vs := vs) (k := k + 1))
theorem insOf_fst : ∀ {sig : List Bool} {vs : List V} {ds : List PyData} {k : Nat}, argsD K F H sig vs ds → (insOf k sig vs).map (·.1) = ioOf k sig
  | [], [], [], k, h => rfl
  | [], [], d :: ds, k, h => h.elim
  | [], v :: vs, ds, k, h => by cases ds <;> exact h.elim
  | b :: sig, [], ds, k, h => by cases b <;> cases ds <;> exact h.elim
  | b :: sig, v :: vs, [], k, h => by cases b <;> exact h.elim
  | true :: sig, v :: vs, d :: ds, k, h => by
    obtain ⟨⟨p, rfl, _⟩, h⟩ := h
    exact congrArg _ (insOf_fst (k := k + 1) h)
  | false :: sig, v :: vs, d :: ds, k, h => by
    have := insOf_fst (k := k + 1) h.2
    cases v <;> exact this
theorem ins_mem : ∀ {sig : List Bool} {vs : List V} {k : Nat} {q : Nat × Addr}, q ∈ insOf k sig vs → ∃ j, q.1 = k + j ∧ sig[j]? = some true ∧ vs[j]? = some (.ref q.2)
  | [], vs, k, q, h => by cases vs <;> exact absurd h (by simp [insOf])
  | b :: sig, [], k, q, h => by cases b <;> exact absurd h (by simp [insOf])
  | b :: sig, v :: vs, k, q, h => by
    have recr : ∀ {q}, q ∈ insOf (k + 1) sig vs → ∃ j, q.1 = k + j ∧ (b :: sig)[j]? = some true ∧ (v :: vs)[j]? = some (.ref q.2) := fun {q} h => by
      obtain ⟨j, a, b', c⟩ := ins_mem h
      exact ⟨j + 1, by omega, by simpa using b', by simpa using c⟩
    cases b with
    | false => cases v <;> exact recr h
    | true =>
      cases v with
      | ref p =>
        rcases List.mem_cons.mp (show q ∈ (k, p) :: insOf (k + 1) sig vs from h) with rfl | h
        · exact ⟨0, rfl, rfl, rfl⟩
        · exact recr h
      | _ => exact recr h
theorem mem_ins : ∀ {sig : List Bool} {vs : List V} {k j : Nat} {p : Addr}, sig[j]? = some true → vs[j]? = some (.ref p) → (k + j, p) ∈ insOf k sig vs
  | [], vs, k, j, p, h, _ => by simp at h
  | b :: sig, [], k, j, p, _, h => by simp at h
  | b :: sig, v :: vs, k, 0, p, h1, h2 => by
    simp at h1 h2
    subst h1 h2
    exact List.mem_cons_self
  | b :: sig, v :: vs, k, j + 1, p, h1, h2 => by
    have := mem_ins (k := k + 1) (j := j) (p := p) (sig := sig) (vs := vs) (by simpa using h1) (by simpa using h2)
    have e : k + 1 + j = k + (j + 1) := by omega
    rw [e] at this
    cases b <;> cases v <;> first | exact this | exact List.mem_cons_of_mem _ this
theorem args_len : ∀ {sig : List Bool} {vs : List V} {ds : List PyData}, argsD K F H sig vs ds → vs.length = sig.length ∧ ds.length = sig.length
  | [], [], [], h => ⟨rfl, rfl⟩
  | [], [], d :: ds, h => h.elim
  | [], v :: vs, ds, h => by cases ds <;> exact h.elim
  | b :: sig, [], ds, h => by cases b <;> cases ds <;> exact h.elim
  | b :: sig, v :: vs, [], h => by cases b <;> exact h.elim
  | true :: sig, v :: vs, d :: ds, h => by obtain ⟨a, b⟩ := args_len h.2; simp [a, b]
  | false :: sig, v :: vs, d :: ds, h => by obtain ⟨a, b⟩ := args_len h.2; simp [a, b]
/-- what stands at a parameter -/
theorem arg_at : ∀ {sig : List Bool} {vs : List V} {ds : List PyData} {n i : Nat} {s : Sl}, argsD K F H sig vs ds → slot (startE n sig ds) i = some s →
    ∃ v d, vs[i]? = some v ∧ ((sig[i]? = some false ∧ s = .val d ∧ Den K F v d) ∨ (sig[i]? = some true ∧ s = .io d ∧ ∃ p, v = .ref p ∧ F p = none ∧ OwnAt K F H p d))
  | [], [], [], n, i, s, h, e => by
    unfold startE slot at e
    rw [List.getElem?_replicate] at e
    split at e <;> cases e
  | [], [], d :: ds, n, i, s, h, e => h.elim
  | [], v :: vs, ds, n, i, s, h, e => by cases ds <;> exact h.elim
  | b :: sig, [], ds, n, i, s, h, e => by cases b <;> cases ds <;> exact h.elim
  | b :: sig, v :: vs, [], n, i, s, h, e => by cases b <;> exact h.elim
  | b :: sig, v :: vs, d :: ds, n, 0, s, h, e => by
    cases b with
    | true =>
      cases e
      exact ⟨v, d, rfl, .inr ⟨rfl, rfl, h.1⟩⟩
    | false =>
      cases e
      exact ⟨v, d, rfl, .inl ⟨rfl, rfl, h.1⟩⟩
  | b :: sig, v :: vs, d :: ds, n, i + 1, s, h, e => by
    have h' : argsD K F H sig vs ds := by cases b <;> exact h.2
    obtain ⟨v', d', a, c⟩ := arg_at (n := n - 1) (i := i) (s := s) h' (by unfold startE slot at e; simpa [slot] using e)
    exact ⟨v', d', by simpa using a, by simpa using c⟩
theorem startE_len : ∀ {sig : List Bool} {ds : List PyData} {n : Nat}, ds.length = sig.length → sig.length ≤ n → (startE n sig ds).length = n
  | [], ds, n, h, l => by unfold startE; simp
  | b :: sig, [], n, h, l => by cases h
  | b :: sig, d :: ds, n, h, l => by
    unfold startE
    have := startE_len (sig := sig) (ds := ds) (n := n - 1) (by simpa using h) (by simp at l; omega)
    rw [List.length_cons, this]
    simp at l; omega
theorem io_at : ∀ {sig : List Bool} {ds : List PyData} {n j : Nat}, ds.length = sig.length → sig[j]? = some true → ∃ d, slot (startE n sig ds) j = some (.io d)
  | [], ds, n, j, h, e => by simp at e
  | b :: sig, [], n, j, h, e => by cases h
  | b :: sig, d :: ds, n, 0, h, e => by
    simp at e; subst e
    exact ⟨d, rfl⟩
  | b :: sig, d :: ds, n, j + 1, h, e => by
    obtain ⟨d', q⟩ := io_at (n := n - 1) (j := j) (sig := sig) (ds := ds) (by simpa using h) (by simpa using e)
    exact ⟨d', by unfold startE slot; simpa [slot] using q⟩
theorem start_at {N : List Str} {vs : List V} {i : Nat} {v : V} (h : vs[i]? = some v) : (L2.start N vs)[i]? = some (some v) := by
  unfold L2.start
  have hi : i < vs.length := (List.getElem?_eq_some_iff.mp h).1
  rw [List.getElem?_append_left (by simpa using hi), List.getElem?_map, h]; rfl
/-- the state at a def's entry -/
theorem rep_start {N : List Str} {sig : List Bool} {vs : List V} {ds : List PyData} (hN : sig.length ≤ N.length) (m : Same F H) (h : argsD K F H sig vs ds) (nd : (inAddr sig vs).Nodup) :
    Rep K (ioOf 0 sig) ⟨H, F, insOf 0 sig vs, []⟩ (startE N.length sig ds) (L2.start N vs) F H := by
  obtain ⟨l1, l2⟩ := args_len h
  refine ⟨m, Same.refl F, fun b o e _ => e, fun b o _ e => e, ?_, fun i d q => ?_, fun i d q => ?_, fun i j d e p q => ?_, fun i d q => ?_, fun q hq => ?_, insOf_fst h, by show ((insOf 0 sig vs).map (·.2)).Nodup; rw [insOf_snd]; exact nd, fun t ht => absurd ht (by simp), List.nodup_nil⟩
  · rw [startE_len l2 hN]
    unfold L2.start
    simp [l1]; omega
  · obtain ⟨v, d', a, ⟨_, e, dn⟩ | ⟨_, e, _⟩⟩ := arg_at h q
    · cases e; exact ⟨v, start_at a, dn⟩
    · cases e
  · obtain ⟨v, d', a, ⟨_, e, dn⟩ | ⟨_, e, _⟩⟩ := arg_at h q <;> cases e
  · obtain ⟨v, d', a, ⟨_, e, dn⟩ | ⟨_, e, _⟩⟩ := arg_at h q <;> cases e
  · obtain ⟨v, d', a, ⟨_, e, dn⟩ | ⟨s, e, p, rfl, n, o⟩⟩ := arg_at h q
    · cases e
    · cases e
      have := mem_ins (k := 0) s a
      rw [Nat.zero_add] at this
      exact ⟨p, this, n, o⟩
  · obtain ⟨j, e1, e2, e3⟩ := ins_mem (show q ∈ insOf 0 sig vs from hq)
    rw [Nat.zero_add] at e1
    rw [e1]
    obtain ⟨d, hd⟩ := io_at (n := N.length) l2 e2
    refine ⟨start_at e3, ⟨d, hd⟩, ?_⟩
    obtain ⟨v, d', a, ⟨_, e, dn⟩ | ⟨s, e, p, rfl, n, o⟩⟩ := arg_at h hd
    · cases e
    · rw [e3] at a
      cases a
      obtain ⟨oo, ho, _⟩ := o.there
      exact ⟨oo, ho⟩
theorem news_ok {io : List Nat} {g : Gh} {env : Env} {σ : L2.St} (R : Rep K io g env σ F H) : newsD K F H (g.ins.map (·.2)) (newsOf env io) := by
  rw [← R.insI]
  have key : ∀ l : List (Nat × Addr), (∀ q ∈ l, q ∈ g.ins) → newsD K F H (l.map (·.2)) (newsOf env (l.map (·.1))) := by
    intro l hl
    induction l with
    | nil => exact trivial
    | cons q l ih =>
      have hq := hl q List.mem_cons_self
      obtain ⟨a, ⟨d, b⟩, _⟩ := R.ins q hq
      obtain ⟨p, hp, n, o⟩ := R.ios _ _ b
      have e1 := (R.ins _ hp).1
      rw [a] at e1
      have e3 : q.2 = p := by injection (Option.some.inj (Option.some.inj e1))
      have e2 : newsOf env ((q :: l).map (·.1)) = d :: newsOf env (l.map (·.1)) := by
        show List.filterMap _ (q.1 :: l.map (·.1)) = _
        rw [List.filterMap_cons, b]; rfl
      rw [e2]
      subst e3
      exact ⟨⟨n, o⟩, ih fun q hq => hl q (List.mem_cons_of_mem _ hq)⟩
  exact key g.ins fun _ h => h
end
/-- THE RULE: a def of the text, by its body in the little language -/
theorem fn_okC {P : Program} {w : World} {K : Frag} {mg : Str → Option Value} {base : Heap} {k : Nat} {f : Addr} {x qual : Str} {st : Stmt} {fd : FuncData} {N ps : List Str} {L : List (String × List Bool)} {Φ : Tbl} {sig : List Bool} {body : S} {sp : Spec}
    (D : Fun K x qual st f fd) (Sc : FnScope N ps (defScope st)) (hps : ps.length = sig.length) (sys : ∃ m, base.Ns sysModules m) (blt : ∀ x ∈ bltNames, mg (Str.ofString x) = none)
    (fns : ∀ p ∈ L, p.2.length < 100 → ∃ a fd ps, mg (Str.ofString p.1) = some (.ref a) ∧ PySem.W.keepIn K (.ref a) = true ∧ Binds K fd ps [] ∧ FnG P w K mg base k a fd ps (spOf K p.2 (Φ p.1)))
    (cst : ∀ p ∈ L, 100 ≤ p.2.length → ∃ u, mg (Str.ofString p.1) = some u ∧ RelV (.int ((p.2.length - 100 : Nat) : Int)) u)
    (hm : mSs L N (ioOf 0 sig) (defScope st) (fun _ => true) body (defBody st) = true) (hw : Impl Φ sig N.length body sp) : FnG P w K mg base (k + 1) f fd ps (spOf K sig sp) := by
  refine fn_g D Sc (fun vs H Q E h => h.1.trans hps.symm) fun cdv A outer s H vs Q hr hg ⟨hl, F, ds, m, ha, nd, Qs, hs, hk⟩ => ?_
  have hN : sig.length ≤ N.length := by
    have := congrArg List.length Sc.pre
    rw [List.length_take] at this
    omega
  have C : Ctx (cxOf CX0 P w K mg base N qual (defScope st) f cdv A outer s H E0).nox L Φ (fun _ => true) :=
    ⟨rfl, Sc.kind, fun _ _ => rfl, Sc.nd, rfl, by have := hr.un; show (A.deeper _).units + 100 < cLine; omega, hg, sys, blt, fun p hp hl => by
      obtain ⟨a, fd, ps, h1, h2, h3, h4⟩ := fns p hp hl
      exact ⟨k, a, fd, ps, h1, h2, h3, h4, hr⟩, cst⟩
  refine ⟨_, sndSs C rfl body _ hm, ⟨H, F, insOf 0 sig vs, []⟩, F, startE N.length sig ds, endsOf (ioOf 0 sig) Qs, rep_start hN m ha nd, hw ds Qs hs (args_len ha).2, ?_⟩
  have fin : ∀ {s : Sl} {env : Env} {σ : L2.St} {F' H' : Hp} {v : V}, Rep K (ioOf 0 sig) ⟨H, F, insOf 0 sig vs, []⟩ env σ F' H' → SDen K ⟨H, F, insOf 0 sig vs, []⟩ F' H' σ env v s → (∀ d, s ≠ .io d) → Qs s (newsOf env (ioOf 0 sig)) → Q v H' := fun {s env σ F' H' v} R sd ni q => by
    have nw := news_ok R
    rw [show ((⟨H, F, insOf 0 sig vs, []⟩ : Gh).ins.map (·.2)) = inAddr sig vs from insOf_snd] at nw
    refine hk s _ q v H' F' R.sub0 R.sub (fun b o e hb => R.frame b o e fun q hq z => hb ?_) (fun b o e n => R.nof b o e n) nw ?_
    · rw [← insOf_snd (k := 0), ← z]
      exact List.mem_map_of_mem hq
    · cases s with
      | val d => exact sd
      | io d => exact absurd rfl (ni d)
      | own d =>
        obtain ⟨p, e, a, b, c, _⟩ := sd
        exact ⟨p, e, a, b, c⟩
  exact ⟨fun env σ F' H' m1 R q => fin (s := .val .none) R Den.non (fun _ z => nomatch z) q, fun s env σ F' H' v m1 R sd ni q => fin R sd ni q, fun env σ F' H' m1 R q => q.elim, fun env σ F' H' m1 R q => q.elim⟩
/-- .. a text without constants of the module -/
theorem fn_ok {P : Program} {w : World} {K : Frag} {mg : Str → Option Value} {base : Heap} {k : Nat} {f : Addr} {x qual : Str} {st : Stmt} {fd : FuncData} {N ps : List Str} {L : List (String × List Bool)} {Φ : Tbl} {sig : List Bool} {body : S} {sp : Spec}
    (D : Fun K x qual st f fd) (Sc : FnScope N ps (defScope st)) (hps : ps.length = sig.length) (sys : ∃ m, base.Ns sysModules m) (blt : ∀ x ∈ bltNames, mg (Str.ofString x) = none)
    (fns : ∀ p ∈ L, ∃ a fd ps, mg (Str.ofString p.1) = some (.ref a) ∧ PySem.W.keepIn K (.ref a) = true ∧ Binds K fd ps [] ∧ FnG P w K mg base k a fd ps (spOf K p.2 (Φ p.1)))
    (hm : mSs L N (ioOf 0 sig) (defScope st) (fun _ => true) body (defBody st) = true) (hw : Impl Φ sig N.length body sp) (hL : ∀ p ∈ L, p.2.length < 100 := by decide) : FnG P w K mg base (k + 1) f fd ps (spOf K sig sp) :=
  fn_okC D Sc hps sys blt (fun p hp _ => fns p hp) (fun p hp h => absurd (hL p hp) (by omega)) hm hw
/-- a promise that nobody asks -/
theorem FnG.none {P : Program} {w : World} {K : Frag} {mg : Str → Option Value} {base : Heap} {k : Nat} {f : Addr} {fd : FuncData} {ps : List Str} {sig : List Bool} (h : ps.length = sig.length) : FnG P w K mg base k f fd ps (spOf K sig fun _ _ => False) :=
  ⟨fun vs H Q E q => q.1.trans h.symm, fun A outer s H args us vs Q hr hg he hb hv hs => by
    obtain ⟨_, F, ds, _, _, _, Qs, z, _⟩ := hs
    exact z.elim⟩
end Co

set_option linter.all false
/-! Co31: whether a roster fits, reckoned set by set in dicts whose keys are tuples: one def, walked by hand. -/
namespace Co
open PySem PySem.Spec PyProof.Rows L2

/-- different people, each at a post that they can take, none of them gone -/
structure Sel (g : List Int) (ps : List (List Int)) (t : List Int) : Prop where
  len : t.length = ps.length
  ok : ∀ (i : Nat) (x : Int), t[i]? = some x → x ∈ ps.getD i [] ∧ x ∉ g
  nd : t.Nodup
def fsort (t : List Int) : List Int := isort (fun a b => decide (a ≤ b)) t
theorem fsort_perm (t : List Int) : (fsort t).Perm t := List.mergeSort_perm _ _
theorem fsort_eq {a b : List Int} (h : a.Perm b) : fsort a = fsort b := by
  have pw : ∀ l : List Int, (fsort l).Pairwise (· ≤ ·) := fun l => by
    have := List.pairwise_mergeSort (le := fun a b : Int => decide (a ≤ b)) (fun a b c x y => by simp at x y ⊢; omega) (fun a b => by simp; omega) l
    exact this.imp fun h => by simpa using h
  exact List.Perm.eq_of_pairwise (le := (· ≤ ·)) (fun a b _ _ x y => Int.le_antisymm x y) (pw a) (pw b) ((fsort_perm a).trans (h.trans (fsort_perm b).symm))
def keyI (t : List Int) : List Key := t.map Sum.inl
theorem keyI_inj : ∀ {a b : List Int}, keyI a = keyI b → a = b
  | [], [], _ => rfl
  | [], _ :: _, h => by cases h
  | _ :: _, [], h => by cases h
  | x :: a, y :: b, h => by
    have h1 : (Sum.inl x : Key) :: keyI a = Sum.inl y :: keyI b := h
    injection h1 with h2 h3
    rw [Sum.inl.inj h2, keyI_inj h3]
theorem keyI_kV (t : List Int) : (keyI t).map kV = t.map V.int := by
  unfold keyI
  rw [List.map_map]; rfl
/-- the keys behind some posts -/
def KeysOf (g : List Int) (ps : List (List Int)) (kvs : List (List Key × V)) : Prop := ∀ k, k ∈ kvs.map (·.1) ↔ ∃ t, Sel g ps t ∧ k = keyI (fsort t)
theorem sel_nil {g : List Int} {t : List Int} : Sel g [] t ↔ t = [] := by
  constructor
  · intro h
    exact List.eq_nil_of_length_eq_zero h.len
  · rintro rfl
    exact ⟨rfl, by simp, by simp⟩
theorem sel_snoc {g l : List Int} {ps : List (List Int)} {t : List Int} : Sel g (ps ++ [l]) t ↔ ∃ t0 x, t = t0 ++ [x] ∧ Sel g ps t0 ∧ x ∈ l ∧ x ∉ g ∧ x ∉ t0 := by
  constructor
  · intro h
    have hl := h.len
    rw [List.length_append, List.length_singleton] at hl
    obtain ⟨t0, x, rfl⟩ : ∃ t0 x, t = t0 ++ [x] := by
      rcases List.eq_nil_or_concat t with rfl | ⟨t0, x, rfl⟩
      · simp at hl
      · exact ⟨t0, x, by simp⟩
    have hl0 : t0.length = ps.length := by simpa using hl
    have nd := h.nd
    rw [List.nodup_append] at nd
    have hx := h.ok t0.length x (by simp)
    rw [hl0] at hx
    refine ⟨t0, x, rfl, ⟨hl0, fun i y e => ?_, nd.1⟩, ?_, hx.2, fun hm => nd.2.2 x hm x (by simp) rfl⟩
    · have hi := (List.getElem?_eq_some_iff.mp e).1
      have := h.ok i y (by rw [List.getElem?_append_left hi]; exact e)
      rw [List.getD_eq_getElem?_getD, List.getElem?_append_left (by omega), ← List.getD_eq_getElem?_getD] at this
      exact this
    · have := hx.1
      rw [List.getD_eq_getElem?_getD, List.getElem?_append_right (Nat.le_refl _), Nat.sub_self] at this
      exact this
  · rintro ⟨t0, x, rfl, h, h1, h2, h3⟩
    refine ⟨by rw [List.length_append, List.length_append, h.len]; rfl, fun i y e => ?_, ?_⟩
    · by_cases hi : i < t0.length
      · rw [List.getElem?_append_left hi] at e
        have := h.ok i y e
        rw [List.getD_eq_getElem?_getD, List.getElem?_append_left (by rw [← h.len]; exact hi), ← List.getD_eq_getElem?_getD]
        exact this
      · have hi2 := (List.getElem?_eq_some_iff.mp e).1
        rw [List.length_append, List.length_singleton] at hi2
        have hi3 : i = t0.length := by omega
        subst hi3
        rw [List.getElem?_append_right (Nat.le_refl _), Nat.sub_self] at e
        have : x = y := by simpa using e
        subst this
        rw [List.getD_eq_getElem?_getD, h.len, List.getElem?_append_right (Nat.le_refl _), Nat.sub_self]
        exact ⟨h1, h2⟩
    · rw [List.nodup_append]
      exact ⟨h.nd, by simp, fun a ha b hb e => by
        rw [List.mem_singleton] at hb
        subst hb e
        exact h3 ha⟩
/-- the keys made of one key and some people -/
def More (g T l : List Int) (k : List Key) : Prop := ∃ x, x ∈ l ∧ x ∉ T ∧ x ∉ g ∧ k = keyI (fsort (T ++ [x]))
theorem keys_step {g l : List Int} {ps : List (List Int)} {kvs ks : List (List Key × V)} (h : KeysOf g ps kvs) (h2 : ∀ k, k ∈ ks.map (·.1) ↔ ∃ T, keyI T ∈ kvs.map (·.1) ∧ More g T l k) : KeysOf g (ps ++ [l]) ks := fun k => by
  rw [h2]
  constructor
  · rintro ⟨T, hT, x, h1, h3, h4, rfl⟩
    obtain ⟨t, ht, e⟩ := (h _).mp hT
    have e := keyI_inj e
    subst e
    refine ⟨t ++ [x], sel_snoc.mpr ⟨t, x, rfl, ht, h1, h4, fun hm => h3 ((fsort_perm t).mem_iff.mpr hm)⟩, ?_⟩
    rw [fsort_eq ((fsort_perm t).append_right [x])]
  · rintro ⟨t, ht, rfl⟩
    obtain ⟨t0, x, rfl, h0, h1, h3, h4⟩ := sel_snoc.mp ht
    exact ⟨fsort t0, (h _).mpr ⟨t0, h0, rfl⟩, x, h1, fun hm => h4 ((fsort_perm t0).mem_iff.mp hm), h3, by rw [fsort_eq ((fsort_perm t0).append_right [x])]⟩
theorem putK_keys {kvs : List (List Key × V)} {k : List Key} {v : V} {j : List Key} : j ∈ (L2.putK kvs k v).map (·.1) ↔ j ∈ kvs.map (·.1) ∨ j = k := by
  unfold L2.putK
  by_cases h : (kvs.any fun kv => decide (kv.1 = k)) = true
  · rw [if_pos h]
    have e : (kvs.map fun kv => if kv.1 = k then (kv.1, v) else kv).map (·.1) = kvs.map (·.1) := by
      rw [List.map_map]
      refine List.map_congr_left fun kv _ => ?_
      simp only [Function.comp]
      split <;> rfl
    rw [e]
    constructor
    · exact .inl
    · rintro (h1 | rfl)
      · exact h1
      · obtain ⟨kv, h2, h3⟩ := List.any_eq_true.mp h
        exact List.mem_map.mpr ⟨kv, h2, by simpa using h3⟩
  · rw [if_neg h, List.map_append, List.mem_append]
    simp
end Co

set_option linter.all false
/-! Co20: a law, from the promise of its def. -/
namespace Co
open PySem PySem.Spec PyProof.Rows L2

/-- a law's promise: at every script it answers True -/
def lawSp : Spec := fun ds Q => (∃ ns : List Int, ds = [.list (ns.map .int)] ∧ ns.length ≤ 63) ∧ ∀ news, Q (.val (.bool true)) news

open Classical in
/-- the heap that is told of at the start: the script, if it is no object of the module's -/
noncomputable def scriptH (K : Frag) (a : Addr) (vs : List Value) (ns : List Int) : Hp := fun b =>
  if b = a ∧ K.lookup a = none then some (.frz { cls := .type "list", data := .seq vs.toArray } (.lst (ns.map V.int))) else none
section
variable {K : Frag} {a b : Addr} {vs : List Value} {ns : List Int}
theorem scriptH_some {u : HO} (h : scriptH K a vs ns b = some u) : b = a ∧ K.lookup a = none ∧ u = .frz { cls := .type "list", data := .seq vs.toArray } (.lst (ns.map V.int)) := by
  unfold scriptH at h
  split at h
  · rename_i c
    cases h
    exact ⟨c.1, c.2, rfl⟩
  · cases h
theorem scriptH_out (h : ¬ (b = a ∧ K.lookup a = none)) : scriptH K a vs ns b = none := if_neg h
theorem scriptH_in (h : K.lookup a = none) : scriptH K a vs ns a = some (.frz { cls := .type "list", data := .seq vs.toArray } (.lst (ns.map V.int))) := if_pos ⟨rfl, h⟩
end
theorem law_callG {P : Program} {w : World} {K : Frag} {mg mb : Str → Option Value} {k : Nat} {fa a : Addr} {fd : FuncData} {x : Str} {s₁ : Shared} {vs : List Value} {ns : List Int}
    (kin : K.In s₁.heap) (sy : ∃ m, s₁.heap.Ns sysModules m) (gns : s₁.heap.Ns mainGlobals mg) (bns : s₁.heap.Ns builtinsNs mb) (boot : ∀ x : Str, x ≠ "__name__" → mb x = bootBuiltins x) (nolim : s₁.heap.NoLimit) (nogen : s₁.gens = #[])
    (obj : s₁.heap.get? a = some { cls := .type "list", data := .seq vs.toArray }) (hints : IntsAre vs ns) (len : ns.length ≤ 63) (room : Room k callerA)
    (G : ∀ base : Heap, K.In base → base.Ns mainGlobals mg → (∃ m, base.Ns sysModules m) → FnG P w K mg base k fa fd [x] (spOf K [false] lawSp)) (binds : ∀ (s : Shared) (u : Value), BindsTo s fd ⟨[u], []⟩ [(x, u)]) :
    codeAny (model P w) callerA (.call (.ref fa) ⟨[.ref a], []⟩) (fun r s' => r = .ok (.ret (.bool true)) ∧ OldK s₁.heap s'.heap ∧ s'.os = s₁.os ∧ AllBare s'.gens) s₁ := by
  let H := scriptH K a vs ns
  have rv : Vals (ns.map V.int) vs := vals_ints hints
  have hlen : vs.length = ns.length := hints.length
  have small : ns.length ≤ sizeLine := by rw [sizeLine_eq]; omega
  -- what is hidden from the base is the script alone
  have seen : ∀ {b : Addr} {o : Obj}, s₁.heap.get? b = some o → H b = none → (hidT s₁.heap H).get? b = some o := fun e n => hidT_get e n
  have noDict : ∀ {b : Addr} {o : Obj} {es : Array DictEntry} {ep : Nat}, s₁.heap.get? b = some o → o.data = .dict es ep → H b = none := fun {b o es ep} e d => by
    refine scriptH_out fun ⟨z, _⟩ => ?_
    rw [z, obj] at e
    cases e
    cases d
  have nsOf : ∀ {b : Addr} {m : Str → Option Value}, s₁.heap.Ns b m → (hidT s₁.heap H).Ns b m := fun ⟨o, es, ep, e, d, r⟩ => ⟨o, es, ep, seen e (noDict e d), d, r⟩
  have kinB : K.In (hidT s₁.heap H) := fun b o e => seen (kin b o e) (scriptH_out fun ⟨z, z2⟩ => by
    rw [z] at e
    exact absurd (z2.symm.trans e) (by simp))
  have md : Mod K mg (hidT s₁.heap H) := ⟨kinB, nsOf gns, ⟨mb, nsOf bns, boot⟩, by
    obtain ⟨mc, c1, c2⟩ := nolim
    exact ⟨mc, nsOf c1, c2⟩⟩
  have hok : HOk P w H s₁.heap := fun b u e => by
    obtain ⟨rfl, _, rfl⟩ := scriptH_some e
    exact ⟨obj, by rw [List.length_map]; exact small, vs, _, rv, obj⟩
  have e0 : Env0 P w K mg (hidT s₁.heap H) callerA [] s₁ H :=
    ⟨rfl, md, fun b o e => of_hidT e, Nat.le_of_eq (hidT_size _ _), trivial, fun b hb => absurd (show b ∈ ([] : List Addr) from hb) (by simp), hok, .of_eq nogen⟩
  have sq : SqL K H a (ns.map V.int) := by
    cases q : K.lookup a with
    | none => exact .inl (.inr ⟨_, scriptH_in q⟩)
    | some o =>
      have eo := kin a o q
      rw [obj] at eo
      cases eo
      exact .inr ⟨_, vs.toArray, _, q, rfl, rfl, rfl, by rw [List.size_toArray, hlen]; exact small, by simpa using rv⟩
  have promise : spOf K [false] lawSp [.ref a] H (fun v _ => v = .bl true) E0 :=
    ⟨rfl, H, [.list (ns.map .int)], Same.refl H, ⟨.lst sq (DenAll.of_ints ns), trivial⟩, List.nodup_nil, fun res news => res = .val (.bool true), ⟨⟨ns, rfl, len⟩, fun _ => rfl⟩, fun res news e v H' F' _ _ _ _ _ rd => by
      subst e
      cases (show Den K F' v (.bool true) from rd)
      rfl⟩
  refine codeAny_mono ((G _ kinB (nsOf gns) (let ⟨m, e⟩ := sy; ⟨m, nsOf e⟩)).run callerA [] s₁ H ⟨[.ref a], []⟩ [.ref a] [.ref a] _ room rfl e0 (binds s₁ (.ref a)) (.cons rfl .nil) promise) fun r s' h => ?_
  match r, h with
  | .ok (.ret u), ⟨v, H', os, bare, un, hok', rv', (ev : v = .bl true)⟩ =>
    subst ev
    cases (show u = Value.bool true from rv')
    refine ⟨rfl, OldK.of_keep fun b o e => ?_, os, bare⟩
    by_cases z : b = a ∧ K.lookup a = none
    · obtain ⟨rfl, z2⟩ := z
      obtain ⟨e1, _⟩ := hok b _ (scriptH_in z2)
      obtain ⟨e2, _⟩ := hok' b _ (un.frzs b _ _ (scriptH_in z2))
      rw [e] at e1
      cases e1
      exact e2
    · exact un.keep b o e (scriptH_out z) (fun z => absurd (show b ∈ ([] : List Addr) from z) (by simp)) (by simp)
  | .error _, h => exact False.elim h
  | .ok .next, h => exact False.elim h
  | .ok .brk, h => exact False.elim h
  | .ok .cont, h => exact False.elim h
/-- what the head leaves, from the promise of the law's def -/
theorem walkG {l : PySem.W.OpenLaw} {k : Nat} {q : Program} {loose : List Str} {XP : (Str → Option Value) → Heap → Prop} {YP : World → Heap → Prop} {d : DefRec} {K : Params → Frag} {x : Str}
    (hn : l.most = some 63) (him : importsNone q = true) (hdf : d.params.defaults = []) (room : Room k callerA) (hY : ∀ (w : World) (h : Heap), YP w h → (K w.params).In h)
    (F : ∀ (w : World) (mg : Str → Option Value) (fa : Addr) (h : Heap), (K w.params).In h → h.Ns mainGlobals mg → mg d.name = some (.ref fa) →
      ∃ fd : FuncData, (∀ (s : Shared) (u : Value), BindsTo s fd ⟨[u], []⟩ [(x, u)]) ∧
        ∀ base : Heap, (K w.params).In base → base.Ns mainGlobals mg → (∃ m, base.Ns sysModules m) → FnG l.prog w (K w.params) mg base k fa fd [x] (spOf (K w.params) [false] lawSp)) :
    PySem.W.WalkO q loose XP YP l.row.toRowW d [] (fun f vs => PySem.call f vs) :=
  Att.attach_call hn hdf fun w s₀ s₁ mg mb fa o pm cd doc a vs ns G Y ho hd hcd hmg hobj hints hlen hg => by
    have kin := hY w _ Y
    obtain ⟨fd, hb, hF⟩ := F w mg fa _ kin G.T.g hmg
    exact law_callG kin (let ⟨m, e, _⟩ := (G.T.seer him).mods; ⟨m, e⟩) G.T.g G.T.b G.T.builtins G.T.nolimit hg hobj hints hlen room hF hb
end Co

set_option linter.all false
/-! Co21: reckoning with the weakest preconditions. -/
namespace Co
open PySem

theorem for_inv {bind : PyData → Env → (Env → Prop) → Prop} {body : Env → Ends → Prop} {items : List PyData} {env : Env} {D : Ends} (I : Nat → Env → Prop) (h0 : I 0 env)
    (hs : ∀ i x env (N : Env → Prop), items[i]? = some x → I i env → (∀ e, I (i + 1) e → N e) → bind x env fun env1 => body env1 { nx := N, rt := D.rt, bk := D.nx, ct := N })
    (hd : ∀ env, I items.length env → D.nx env) : forGo bind body items env D := by
  suffices h : ∀ n i env, items.length = i + n → I i env → forGo bind body (items.drop i) env D by
    have := h items.length 0 env (by omega) h0
    rwa [List.drop_zero] at this
  intro n
  induction n with
  | zero =>
    intro i env hi hI
    have e : i = items.length := by omega
    subst e
    rw [List.drop_length]
    exact hd env hI
  | succ n ih =>
    intro i env hi hI
    have hl : i < items.length := by omega
    rw [List.drop_eq_getElem_cons hl]
    exact hs i _ env _ (List.getElem?_eq_getElem hl) hI fun e he => ih (i + 1) e (by omega) he
theorem lc_inv {bind : PyData → Env → (Env → Prop) → Prop} {conds : Env → (Bool → Env → Prop) → Prop} {elt : Env → (PyData → Env → Prop) → Prop} {own : List Nat} {items : List PyData} {env : Env} {K : List PyData → Env → Prop}
    (I : Nat → List PyData → Env → Prop) (h0 : I 0 [] env)
    (hs : ∀ i x acc env (N : List PyData → Env → Prop), items[i]? = some x → I i acc env → (∀ acc' e, I (i + 1) acc' e → N acc' e) → bind x (wipeE env own) fun env1 => conds env1 fun b env2 =>
      if b = true then elt env2 fun y env3 => N (acc ++ [y]) env3 else N acc env2)
    (hd : ∀ acc env, I items.length acc env → K acc (wipeE env own)) : lcGo bind conds elt own items [] env K := by
  suffices h : ∀ n i acc env, items.length = i + n → I i acc env → lcGo bind conds elt own (items.drop i) acc env K by
    have := h items.length 0 [] env (by omega) h0
    rwa [List.drop_zero] at this
  intro n
  induction n with
  | zero =>
    intro i acc env hi hI
    have e : i = items.length := by omega
    subst e
    rw [List.drop_length]
    exact hd acc env hI
  | succ n ih =>
    intro i acc env hi hI
    have hl : i < items.length := by omega
    rw [List.drop_eq_getElem_cons hl]
    exact hs i _ acc env (fun acc' e => lcGo bind conds elt own (items.drop (i + 1)) acc' e K) (List.getElem?_eq_getElem hl) hI fun acc' e he => ih (i + 1) acc' e (by omega) he
/-- over a list of one's own: the names' slots as they were -/
theorem lcO_filter {α : Type} (enc : α → PyData) {bind : PyData → Env → (Env → Prop) → Prop} {conds : Env → (Bool → Env → Prop) → Prop} {elt : Env → (PyData → Env → Prop) → Prop} {own : List Nat} {ix : Nat} {l : List α} {env : Env} {K : List PyData → Env → Prop} (p : α → Bool) (g : α → PyData)
    (hix : ix ∉ own) (h0 : slot env ix = some (.own (.list (l.map enc))))
    (hs : ∀ x acc (N : List PyData → Env → Prop), x ∈ l → (∀ e, wipeE e own = wipeE env own → if p x = true then N (acc ++ [g x]) e else N acc e) → bind (enc x) (wipeE env own) fun env1 => conds env1 fun b env2 =>
      if b = true then elt env2 fun y env3 => N (acc ++ [y]) env3 else N acc env2)
    (hd : K ((l.filter p).map g) (wipeE env own)) : lcGoO bind conds elt own ix (l.map enc) (l.map enc) [] env K := by
  have key : ∀ (r : List α) (acc : List PyData) (e : Env), (∀ x ∈ r, x ∈ l) → wipeE e own = wipeE env own → K (acc ++ (r.filter p).map g) (wipeE env own) → lcGoO bind conds elt own ix (l.map enc) (r.map enc) acc e K := by
    intro r
    induction r with
    | nil =>
      intro acc e _ he hK
      have hsl : slot e ix = some (.own (.list (l.map enc))) := by rw [← slot_wipeE (own := own) hix, he, slot_wipeE hix]; exact h0
      refine ⟨hsl, ?_⟩
      rw [he]
      simpa using hK
    | cons x r ih =>
      intro acc e hr he hK
      have hsl : slot e ix = some (.own (.list (l.map enc))) := by rw [← slot_wipeE (own := own) hix, he, slot_wipeE hix]; exact h0
      refine ⟨hsl, ?_⟩
      rw [he]
      refine hs x acc (fun a e2 => lcGoO bind conds elt own ix (l.map enc) (r.map enc) a e2 K) (hr x List.mem_cons_self) fun e2 h2 => ?_
      have hr2 : ∀ y ∈ r, y ∈ l := fun y hy => hr y (List.mem_cons_of_mem _ hy)
      by_cases hp : p x = true
      · rw [if_pos hp]
        refine ih _ e2 hr2 h2 ?_
        rw [List.filter_cons, if_pos hp, List.map_cons] at hK
        rw [List.append_assoc]
        exact hK
      · rw [if_neg hp]
        refine ih _ e2 hr2 h2 ?_
        rw [List.filter_cons, if_neg hp] at hK
        exact hK
  exact key l [] env (fun _ h => h) rfl (by simpa using hd)
/-- a comprehension whose test and element do not touch the names: f tells each item's part -/
theorem lc_pure {bind : PyData → Env → (Env → Prop) → Prop} {conds : Env → (Bool → Env → Prop) → Prop} {elt : Env → (PyData → Env → Prop) → Prop} {own : List Nat} {items : List PyData} {env : Env} {K : List PyData → Env → Prop} (f : PyData → Option PyData)
    (hs : ∀ x acc (N : List PyData → Env → Prop), x ∈ items → (∀ e, wipeE e own = wipeE env own → (match f x with | some y => N (acc ++ [y]) e | none => N acc e)) → bind x (wipeE env own) fun env1 => conds env1 fun b env2 =>
      if b = true then elt env2 fun y env3 => N (acc ++ [y]) env3 else N acc env2)
    (hd : K (items.filterMap f) (wipeE env own)) : lcGo bind conds elt own items [] env K := by
  refine lc_inv (fun i acc e => acc = (items.take i).filterMap f ∧ wipeE e own = wipeE env own) ⟨by simp, rfl⟩ ?_ ?_
  · rintro i x acc e N hx ⟨ha, he⟩ k
    rw [he]
    have hm : x ∈ items := List.mem_of_getElem? hx
    refine hs x acc N hm fun e2 h2 => ?_
    have ht : items.take (i + 1) = items.take i ++ [x] := by
      rw [List.take_succ, hx]; rfl
    cases hf : f x with
    | none => exact k acc e2 ⟨by rw [ht, List.filterMap_append, ← ha]; simp [hf], h2⟩
    | some y => exact k (acc ++ [y]) e2 ⟨by rw [ht, List.filterMap_append, ← ha]; simp [hf], h2⟩
  · rintro acc e ⟨ha, he⟩
    rw [he, ha, List.take_length]
    exact hd
/-- .. every item gives one part -/
theorem lc_map {bind : PyData → Env → (Env → Prop) → Prop} {conds : Env → (Bool → Env → Prop) → Prop} {elt : Env → (PyData → Env → Prop) → Prop} {own : List Nat} {items : List PyData} {env : Env} {K : List PyData → Env → Prop} (f : PyData → PyData)
    (hs : ∀ x acc (N : List PyData → Env → Prop), x ∈ items → (∀ e, wipeE e own = wipeE env own → N (acc ++ [f x]) e) → bind x (wipeE env own) fun env1 => conds env1 fun b env2 =>
      if b = true then elt env2 fun y env3 => N (acc ++ [y]) env3 else N acc env2)
    (hd : K (items.map f) (wipeE env own)) : lcGo bind conds elt own items [] env K :=
  lc_pure (fun x => some (f x)) hs (by rw [List.filterMap_eq_map']; exact hd)

theorem brn_true {A B : Prop} {t : Kp A} {u : Kp B} : brn true A B t u = A := if_pos rfl
theorem brn_false {A B : Prop} {t : Kp A} {u : Kp B} : brn false A B t u = B := if_neg (by decide)
theorem brn_of {b : Bool} {A B : Prop} {t : Kp A} {u : Kp B} (h1 : b = true → A) (h2 : b = false → B) : brn b A B t u := by
  cases b
  · exact h2 rfl
  · exact h1 rfl
theorem atI_ok {α : Type} {l : List α} {i : Int} (h0 : 0 ≤ i) (h1 : i < l.length) : ∃ v, L2.atI l i = some v ∧ v ∈ l ∧ l[i.toNat]? = some v := by
  have hr : i.toNat < l.length := by omega
  refine ⟨l[i.toNat], ?_, List.getElem_mem hr, by simp [hr]⟩
  unfold L2.atI L2.ixN
  rw [if_pos h0, if_pos h1]
  simp [hr]
theorem stp_at {l : List PyData} {i : Int} {K : PyData → Prop} (h0 : 0 ≤ i) (h1 : i < l.length) (k : ∀ v, v ∈ l → l[i.toNat]? = some v → K v) : stp (idxD (.list l) (.int i)) K .mk := by
  obtain ⟨v, a, b, c⟩ := atI_ok h0 h1
  exact ⟨v, a, k v b c⟩
theorem stp_atT {l : List PyData} {i : Int} {K : PyData → Prop} (h0 : 0 ≤ i) (h1 : i < l.length) (k : ∀ v, v ∈ l → l[i.toNat]? = some v → K v) : stp (idxD (.tuple l) (.int i)) K .mk := by
  obtain ⟨v, a, b, c⟩ := atI_ok h0 h1
  exact ⟨v, a, k v b c⟩
/-- at a place that is told -/
theorem stp_n {l : List PyData} {n : Nat} {v : PyData} {K : PyData → Prop} (h : l[n]? = some v) (k : K v) : stp (idxD (.list l) (.int (n : Int))) K .mk := by
  have hn : n < l.length := (List.getElem?_eq_some_iff.mp h).1
  refine stp_at (by omega) (by omega) fun w _ hw => ?_
  rw [Int.toNat_natCast, h] at hw
  cases hw; exact k
theorem stp_nT {l : List PyData} {n : Nat} {v : PyData} {K : PyData → Prop} (h : l[n]? = some v) (k : K v) : stp (idxD (.tuple l) (.int (n : Int))) K .mk := by
  have hn : n < l.length := (List.getElem?_eq_some_iff.mp h).1
  refine stp_atT (by omega) (by omega) fun w _ hw => ?_
  rw [Int.toNat_natCast, h] at hw
  cases hw; exact k
theorem cut_map {α : Type} (f : α → PyData) (l : List α) (lo hi : Option Int) : cut (l.map f) lo hi = ((l.drop (HT.sIx l.length 0 lo)).take (HT.sIx l.length l.length hi - HT.sIx l.length 0 lo)).map f := by
  unfold cut
  rw [List.length_map, ← List.map_drop, ← List.map_take]
theorem pairs2_some {xs ys : List PyData} {i : Nat} {p : PyData} (h : (pairs2 xs ys)[i]? = some p) : ∃ x y, p = .tuple [x, y] ∧ xs[i]? = some x ∧ ys[i]? = some y := by
  unfold pairs2 at h
  rw [List.getElem?_map] at h
  cases q : (xs.zip ys)[i]? with
  | none => rw [q] at h; cases h
  | some z =>
    rw [q] at h
    cases h
    obtain ⟨a, b⟩ := (List.getElem?_zip_eq_some (z := z)).mp q
    exact ⟨z.1, z.2, rfl, a, b⟩
theorem range_some {lo : Int} {n i : Nat} {p : PyData} (h : (rangeL lo n)[i]? = some p) : p = .int (lo + (i : Int)) ∧ i < n := by
  have hi : i < n := by
    have := (List.getElem?_eq_some_iff.mp h).1
    rwa [rangeL_length] at this
  rw [rangeL_get hi] at h
  cases h
  exact ⟨rfl, hi⟩
theorem enum_some {xs : List PyData} {i : Nat} {p : PyData} (h : (enumL xs)[i]? = some p) : ∃ x, p = .tuple [.int (i : Int), x] ∧ xs[i]? = some x := by
  obtain ⟨a, x, e, h1, h2⟩ := pairs2_some h
  obtain ⟨rfl, _⟩ := range_some h1
  rw [Int.zero_add] at e
  exact ⟨x, e, h2⟩
theorem map_some {α : Type} {f : α → PyData} {l : List α} {i : Nat} {p : PyData} (h : (l.map f)[i]? = some p) : ∃ x, p = f x ∧ l[i]? = some x := by
  rw [List.getElem?_map] at h
  cases q : l[i]? with
  | none => rw [q] at h; cases h
  | some z => rw [q] at h; cases h; exact ⟨z, rfl, rfl⟩
theorem ix_ok {n : Nat} {i : Int} (h0 : 0 ≤ i) (h1 : i < n) : L2.ixN n i = some i.toNat := by
  unfold L2.ixN
  rw [if_pos h0, if_pos h1]
/-- what holds between two statements -/
theorem wps_seq {Φ : Tbl} {a b : S} {env : Env} {D : Ends} (I : Env → Prop) (h1 : ∀ N : Env → Prop, (∀ e, I e → N e) → wpS Φ a env { D with nx := N }) (h2 : ∀ e, I e → wpS Φ b e D) : wpS Φ (.seq a b) env D :=
  h1 (fun e => wpS Φ b e D) h2
theorem sh_int {i : Int} : SeqAt.shaped (.int i) = true := rfl
theorem sh_bool {i : Bool} : SeqAt.shaped (.bool i) = true := rfl
theorem sh_none : SeqAt.shaped .none = true := rfl
theorem eqv_ii {a b : Int} : PyData.eqv (.int a) (.int b) = decide (a = b) := by simp only [PyData.eqv]; exact Bool.beq_eq_decide_eq _ _
theorem eqv_bb {a b : Bool} : PyData.eqv (.bool a) (.bool b) = decide (a = b) := by simp only [PyData.eqv]; cases a <;> cases b <;> rfl
theorem eqv_ss {a b : Str} : PyData.eqv (.str a) (.str b) = decide (a = b) := by simp only [PyData.eqv]; exact Bool.beq_eq_decide_eq _ _
theorem canLayAll_of : ∀ {l : List PyData}, (∀ x ∈ l, x.canLay0 = true) → PyData.canLayAll0 l = true
  | [], _ => by simp [PyData.canLayAll0]
  | x :: l, h => by
    simp only [PyData.canLayAll0, Bool.and_eq_true]
    exact ⟨h x List.mem_cons_self, canLayAll_of fun y hy => h y (List.mem_cons_of_mem _ hy)⟩
theorem depthAll_of {k : Nat} : ∀ {l : List PyData}, (∀ x ∈ l, x.depth ≤ k) → PyData.depthAll l ≤ k
  | [], _ => by simp [PyData.depthAll]
  | x :: l, h => by
    simp only [PyData.depthAll]
    have h1 := h x List.mem_cons_self
    have h2 := depthAll_of (k := k) (l := l) fun y hy => h y (List.mem_cons_of_mem _ hy)
    omega
/-- data that may be compared: of depth at most k -/
def ok (k : Nat) (d : PyData) : Prop := d.canLay0 = true ∧ d.depth ≤ k
theorem ok_list {k : Nat} {l : List PyData} (h : ∀ x ∈ l, ok k x) : ok (k + 1) (.list l) :=
  ⟨by rw [PyData.canLay0]; exact canLayAll_of fun x hx => (h x hx).1, by have := depthAll_of fun x hx => (h x hx).2; rw [PyData.depth]; omega⟩
theorem ok_tuple {k : Nat} {l : List PyData} (h : ∀ x ∈ l, ok k x) : ok (k + 1) (.tuple l) :=
  ⟨by rw [PyData.canLay0]; exact canLayAll_of fun x hx => (h x hx).1, by have := depthAll_of fun x hx => (h x hx).2; rw [PyData.depth]; omega⟩
theorem ok_int {k : Nat} {i : Int} : ok k (.int i) := ⟨rfl, Nat.zero_le _⟩
theorem ok_bool {k : Nat} {i : Bool} : ok k (.bool i) := ⟨rfl, Nat.zero_le _⟩
theorem ok.sh {k : Nat} {d : PyData} (h : ok k d) (hk : k ≤ 64) : SeqAt.shaped d = true := by
  unfold SeqAt.shaped
  rw [h.1, Bool.true_and, decide_eq_true_eq]
  exact Nat.le_trans h.2 hk
theorem ix_last {n : Nat} (h : 0 < n) : L2.ixN n (-1) = some (n - 1) := by
  unfold L2.ixN
  rw [if_neg (by decide), if_pos (by omega)]
  congr 1
  omega
theorem mem_t {x : PyData} {l : List PyData} {K : Bool → Prop} (hx : SeqAt.shaped x = true) (hl : SeqAt.shaped (.tuple l) = true) (h1 : (l.any fun z => PyData.eqv z x) = true → K true) (h2 : (l.any fun z => PyData.eqv z x) = false → K false) : memD x (.tuple l) K := by
  refine ⟨hx, hl, ?_⟩
  cases h : (l.any fun z => PyData.eqv z x)
  · exact h2 h
  · exact h1 h
theorem mem_l {x : PyData} {l : List PyData} {K : Bool → Prop} (hx : SeqAt.shaped x = true) (hl : SeqAt.shaped (.list l) = true) (h1 : (l.any fun z => PyData.eqv z x) = true → K true) (h2 : (l.any fun z => PyData.eqv z x) = false → K false) : memD x (.list l) K := by
  refine ⟨by unfold shapedIn; rw [hx]; rfl, hl, ?_⟩
  cases h : (l.any fun z => PyData.eqv z x)
  · exact h2 h
  · exact h1 h
/-! ### data that may be told: ints below 10^12, none, bools, tuples and lists of such; m bounds the weight, k the depth -/
structure Tame (m k : Nat) (d : PyData) : Prop where
  lv : d.leavesShort 13 = true
  sh : d.showable = true
  wt : d.weight ≤ m
  dp : d.depth ≤ k
theorem log2_small {n : Nat} (h : n < 10 ^ 12) : n.log2 ≤ 40 := by
  by_cases h0 : n = 0
  · subst h0; decide
  · have := (Nat.log2_lt h0 (k := 41)).mpr (Nat.lt_trans h (by decide))
    omega
theorem tame_int {m k : Nat} {i : Int} (h : i.natAbs < 10 ^ 12) (hm : 41 ≤ m) : Tame m k (.int i) := by
  have hl := log2_small h
  refine ⟨?_, ?_, ?_, Nat.zero_le _⟩
  · simp only [PyData.leavesShort, decide_eq_true_eq]; exact PyData.shown_int_le h
  · simp only [PyData.showable, decide_eq_true_eq]; omega
  · simp only [PyData.weight]
    split <;> omega
theorem tame_all {m k : Nat} : ∀ {l : List PyData}, (∀ x ∈ l, Tame m k x) → PyData.leavesShortAll 13 l = true ∧ PyData.showableAll l = true ∧ PyData.weightAll l ≤ (m + 1) * l.length
  | [], _ => ⟨rfl, rfl, by simp [PyData.weightAll]⟩
  | x :: l, h => by
    obtain ⟨a, b, c⟩ := tame_all (l := l) fun y hy => h y (List.mem_cons_of_mem _ hy)
    have hx := h x List.mem_cons_self
    refine ⟨?_, ?_, ?_⟩
    · simp only [PyData.leavesShortAll, hx.lv, a, Bool.and_self]
    · simp only [PyData.showableAll, hx.sh, b, Bool.and_self]
    · have hw := hx.wt
      simp only [PyData.weightAll, List.length_cons, Nat.mul_succ]
      omega
theorem tame_tuple {m k c w : Nat} {l : List PyData} (h : ∀ x ∈ l, Tame m k x) (hl : l.length ≤ c) (hw : (m + 1) * c ≤ w) : Tame w (k + 1) (.tuple l) := by
  obtain ⟨a, b, e⟩ := tame_all h
  have h2 := Nat.mul_le_mul_left (m + 1) hl
  refine ⟨by simpa only [PyData.leavesShort] using a, by simpa only [PyData.showable] using b, by simp only [PyData.weight]; omega, ?_⟩
  have := depthAll_of fun x hx => (h x hx).dp
  rw [PyData.depth]; omega
theorem tame_list {m k c w : Nat} {l : List PyData} (h : ∀ x ∈ l, Tame m k x) (hl : l.length ≤ c) (hw : (m + 1) * c ≤ w) : Tame w (k + 1) (.list l) := by
  obtain ⟨a, b, e⟩ := tame_all h
  have h2 := Nat.mul_le_mul_left (m + 1) hl
  refine ⟨by simpa only [PyData.leavesShort] using a, by simpa only [PyData.showable] using b, by simp only [PyData.weight]; omega, ?_⟩
  have := depthAll_of fun x hx => (h x hx).dp
  rw [PyData.depth]; omega
theorem Tame.fits {m k : Nat} {d : PyData} (h : Tame m k d) (hm : m ≤ 2 ^ 20) (hk : k ≤ 64) : fits d :=
  ⟨h.sh, Nat.le_trans h.dp hk, le_line (PyData.shown_fits (by decide) (by decide) h.lv (Nat.le_trans h.wt hm))⟩

end Co

set_option linter.all false
/-! Co25: data of any kind that are small. -/
namespace Co
open PySem
def B12 : Nat := 10 ^ 12
def B30 : Nat := 10 ^ 30
theorem shown_int40 {i : Int} (h : i.natAbs < 10 ^ 38) : (PyData.shown (.int i)).length ≤ 40 := by
  have e := int_text_length_le10 (k := 38) (by decide) h
  show (Str.ofString (toString i)).length ≤ 40
  rw [ofString_length]; omega
mutual
/-- leaves below B, lists and tuples of at most c, k deep; no dict but the empty one -/
def gd (B c : Nat) : Nat → PyData → Bool
  | _, .none => true
  | _, .int i => decide (i.natAbs < B)
  | _, .bool _ => true
  | _, .str x => decide (x = Str.ofString "" ∨ x = Str.ofString "a")
  | _, .dict [] => true
  | k + 1, .tuple l => decide (l.length ≤ c) && gds B c k l
  | k + 1, .list l => decide (l.length ≤ c) && gds B c k l
  | _, _ => false
def gds (B c : Nat) : Nat → List PyData → Bool
  | _, [] => true
  | k, x :: l => gd B c k x && gds B c k l
end
theorem gds_iff {B c k : Nat} : ∀ {l : List PyData}, gds B c k l = true ↔ ∀ x ∈ l, gd B c k x = true
  | [] => by simp [gds]
  | x :: l => by simp [gds, gds_iff (l := l)]
theorem gd_tuple {B c k : Nat} {l : List PyData} : gd B c (k + 1) (.tuple l) = true ↔ l.length ≤ c ∧ ∀ x ∈ l, gd B c k x = true := by
  rw [gd, Bool.and_eq_true, decide_eq_true_eq, gds_iff]
theorem gd_list {B c k : Nat} {l : List PyData} : gd B c (k + 1) (.list l) = true ↔ l.length ≤ c ∧ ∀ x ∈ l, gd B c k x = true := by
  rw [gd, Bool.and_eq_true, decide_eq_true_eq, gds_iff]
theorem gd_int {B c k : Nat} {i : Int} : gd B c k (.int i) = true ↔ i.natAbs < B := by cases k <;> simp [gd]
theorem gd_bool {B c k : Nat} {b : Bool} : gd B c k (.bool b) = true := by cases k <;> simp [gd]
theorem gd_none {B c k : Nat} : gd B c k .none = true := by cases k <;> simp [gd]
theorem gd_dict0 {B c k : Nat} : gd B c k (.dict []) = true := by cases k <;> simp [gd]
theorem gd_e {B c k : Nat} : gd B c k (.str (Str.ofString "")) = true := by cases k <;> simp [gd]
theorem gd_a {B c k : Nat} : gd B c k (.str (Str.ofString "a")) = true := by cases k <;> simp [gd]
mutual
theorem gd_mono {B c B' c' : Nat} (hB : B ≤ B') (hc : c ≤ c') : ∀ {k k' : Nat} {d : PyData}, k ≤ k' → gd B c k d = true → gd B' c' k' d = true
  | k, k', .none, _, _ => gd_none
  | k, k', .bool _, _, _ => gd_bool
  | k, k', .int i, _, h => by rw [gd_int] at h ⊢; omega
  | k, k', .str x, _, h => by
    have : x = Str.ofString "" ∨ x = Str.ofString "a" := by cases k <;> simpa [gd] using h
    rcases this with rfl | rfl
    · exact gd_e
    · exact gd_a
  | k, k', .dict [], _, _ => gd_dict0
  | k, k', .dict (_ :: _), _, h => by cases k <;> simp [gd] at h
  | 0, k', .tuple l, _, h => by simp [gd] at h
  | 0, k', .list l, _, h => by simp [gd] at h
  | k + 1, 0, .tuple l, q, h => by omega
  | k + 1, 0, .list l, q, h => by omega
  | k + 1, k' + 1, .tuple l, q, h => by
    rw [gd, Bool.and_eq_true, decide_eq_true_eq] at h ⊢
    exact ⟨by omega, gds_mono hB hc (by omega) h.2⟩
  | k + 1, k' + 1, .list l, q, h => by
    rw [gd, Bool.and_eq_true, decide_eq_true_eq] at h ⊢
    exact ⟨by omega, gds_mono hB hc (by omega) h.2⟩
theorem gds_mono {B c B' c' : Nat} (hB : B ≤ B') (hc : c ≤ c') : ∀ {k k' : Nat} {l : List PyData}, k ≤ k' → gds B c k l = true → gds B' c' k' l = true
  | k, k', [], _, _ => by simp [gds]
  | k, k', x :: l, q, h => by
    rw [gds, Bool.and_eq_true] at h ⊢
    exact ⟨gd_mono hB hc q h.1, gds_mono hB hc q h.2⟩
end
/-- what may be told -/
structure Tm (m k : Nat) (d : PyData) : Prop where
  lv : d.leavesShort 40 = true
  sh : d.showable = true
  bk : d.bulk ≤ m
  dp : d.depth ≤ k
theorem Tm.fits {m k : Nat} {d : PyData} (h : Tm m k d) (hm : m ≤ 100000) (hk : k ≤ 64) : fits d := by
  refine ⟨h.sh, Nat.le_trans h.dp hk, ?_⟩
  have := PyData.shown_le_bulk 40 (by decide) d h.lv
  have := h.bk
  show _ ≤ 16777216
  omega
theorem leaves_all {l : List PyData} (h : ∀ x ∈ l, PyData.leavesShort 40 x = true) : PyData.leavesShortAll 40 l = true := by
  induction l with
  | nil => rfl
  | cons x l ih =>
    simp only [PyData.leavesShortAll, Bool.and_eq_true]
    exact ⟨h x List.mem_cons_self, ih fun y hy => h y (List.mem_cons_of_mem _ hy)⟩
theorem show_all {l : List PyData} (h : ∀ x ∈ l, PyData.showable x = true) : PyData.showableAll l = true := by
  induction l with
  | nil => rfl
  | cons x l ih =>
    simp only [PyData.showableAll, Bool.and_eq_true]
    exact ⟨h x List.mem_cons_self, ih fun y hy => h y (List.mem_cons_of_mem _ hy)⟩
theorem tm_int {m k : Nat} {i : Int} (h : i.natAbs < 10 ^ 38) : Tm m k (.int i) := by
  refine ⟨?_, ?_, Nat.zero_le _, Nat.zero_le _⟩
  · simp only [PyData.leavesShort, decide_eq_true_eq]; exact shown_int40 h
  · simp only [PyData.showable, decide_eq_true_eq]
    by_cases h0 : i.natAbs = 0
    · rw [h0]; decide
    · have := (Nat.log2_lt h0 (k := 130)).mpr (Nat.lt_trans h (by decide))
      omega
theorem gd_tm {B c : Nat} (hB : B ≤ 10 ^ 38) : ∀ {k : Nat} {d : PyData}, gd B c k d = true → Tm d.bulk (k + 1) d
  | k, .none, _ => ⟨rfl, rfl, Nat.le_refl _, Nat.zero_le _⟩
  | k, .bool _, _ => ⟨rfl, rfl, Nat.le_refl _, Nat.zero_le _⟩
  | k, .int i, h => tm_int (by rw [gd_int] at h; omega)
  | k, .str x, h => by
    have : x = Str.ofString "" ∨ x = Str.ofString "a" := by cases k <;> simpa [gd] using h
    rcases this with rfl | rfl
    · exact ⟨by decide +kernel, rfl, Nat.le_refl _, Nat.zero_le _⟩
    · exact ⟨by decide +kernel, rfl, Nat.le_refl _, Nat.zero_le _⟩
  | k, .dict [], _ => ⟨rfl, rfl, Nat.le_refl _, by rw [PyData.depth, PyData.depthKv]; omega⟩
  | k, .dict (_ :: _), h => by cases k <;> simp [gd] at h
  | 0, .tuple l, h => by simp [gd] at h
  | 0, .list l, h => by simp [gd] at h
  | k + 1, .tuple l, h => by
    rw [gd_tuple] at h
    have := fun x hx => gd_tm hB (h.2 x hx)
    refine ⟨?_, ?_, Nat.le_refl _, ?_⟩
    · rw [PyData.leavesShort]; exact leaves_all fun x hx => (this x hx).lv
    · rw [PyData.showable]; exact show_all fun x hx => (this x hx).sh
    · have := depthAll_of fun x hx => (this x hx).dp
      rw [PyData.depth]; omega
  | k + 1, .list l, h => by
    rw [gd_list] at h
    have := fun x hx => gd_tm hB (h.2 x hx)
    refine ⟨?_, ?_, Nat.le_refl _, ?_⟩
    · rw [PyData.leavesShort]; exact leaves_all fun x hx => (this x hx).lv
    · rw [PyData.showable]; exact show_all fun x hx => (this x hx).sh
    · have := depthAll_of fun x hx => (this x hx).dp
      rw [PyData.depth]; omega
/-! ### bulk -/
theorem bulk_app (a b : List PyData) : PyData.bulkAll (a ++ b) = PyData.bulkAll a + PyData.bulkAll b := by
  induction a with
  | nil => simp [PyData.bulkAll]
  | cons x a ih => simp only [List.cons_append, PyData.bulkAll, ih]; omega
theorem bulk_rev (a : List PyData) : PyData.bulkAll a.reverse = PyData.bulkAll a := by
  induction a with
  | nil => rfl
  | cons x a ih => rw [List.reverse_cons, bulk_app, ih]; simp only [PyData.bulkAll]; omega
theorem bulk_set : ∀ (l : List PyData) (i : Nat) (x y : PyData), l[i]? = some y → PyData.bulkAll (l.set i x) + y.bulk = PyData.bulkAll l + x.bulk
  | [], i, x, y, h => by simp at h
  | z :: l, 0, x, y, h => by
    simp at h; subst h
    simp only [List.set_cons_zero, PyData.bulkAll]; omega
  | z :: l, i + 1, x, y, h => by
    have := bulk_set l i x y (by simpa using h)
    simp only [List.set_cons_succ, PyData.bulkAll]; omega
theorem bulk_split (l : List PyData) (n : Nat) : PyData.bulkAll (l.take n) + PyData.bulkAll (l.drop n) = PyData.bulkAll l := by
  rw [← bulk_app, List.take_append_drop]
theorem bulk_take (l : List PyData) (n : Nat) : PyData.bulkAll (l.take n) ≤ PyData.bulkAll l := by have := bulk_split l n; omega
theorem bulk_drop (l : List PyData) (n : Nat) : PyData.bulkAll (l.drop n) ≤ PyData.bulkAll l := by have := bulk_split l n; omega
theorem bulk_cut (l : List PyData) (lo hi : Option Int) : PyData.bulkAll (cut l lo hi) ≤ PyData.bulkAll l := by
  unfold cut
  exact Nat.le_trans (bulk_take _ _) (bulk_drop _ _)
theorem bulk_len (l : List PyData) : l.length ≤ PyData.bulkAll l := by
  induction l with
  | nil => simp
  | cons x l ih => simp only [List.length_cons, PyData.bulkAll]; omega
theorem cut_len (l : List PyData) (lo hi : Option Int) : (cut l lo hi).length ≤ l.length := by
  unfold cut
  rw [List.length_take, List.length_drop]; omega
theorem cut_mem {l : List PyData} {lo hi : Option Int} {x : PyData} (h : x ∈ cut l lo hi) : x ∈ l := by
  unfold cut at h
  exact List.mem_of_mem_drop (List.mem_of_mem_take h)
theorem bulk_ge {l : List PyData} {x : PyData} (h : x ∈ l) : x.bulk + 1 ≤ PyData.bulkAll l := by
  induction l with
  | nil => simp at h
  | cons y l ih =>
    simp only [PyData.bulkAll]
    rcases List.mem_cons.mp h with rfl | h
    · omega
    · have := ih h; omega
theorem bulk_le {m : Nat} : ∀ {l : List PyData}, (∀ x ∈ l, x.bulk ≤ m) → PyData.bulkAll l ≤ (m + 1) * l.length
  | [], _ => by simp [PyData.bulkAll]
  | x :: l, h => by
    have h1 := h x List.mem_cons_self
    have h2 := bulk_le (l := l) fun y hy => h y (List.mem_cons_of_mem _ hy)
    simp only [PyData.bulkAll, List.length_cons, Nat.mul_succ]; omega
theorem sIx_in {n d : Nat} {i : Int} (h0 : 0 ≤ i) (h1 : i ≤ n) : HT.sIx n d (some i) = i.toNat := by
  show (if i < 0 then (i + (n : Int)).toNat else min i.toNat n) = i.toNat
  rw [if_neg (by omega)]; omega
theorem sIx_no {n d : Nat} : HT.sIx n d none = d := rfl
theorem cut_take {l : List PyData} {i : Int} (h0 : 0 ≤ i) (h1 : i ≤ l.length) : cut l none (some i) = l.take i.toNat := by
  unfold cut
  rw [sIx_in h0 h1, sIx_no]; simp
theorem cut_drop {l : List PyData} {i : Int} (h0 : 0 ≤ i) (h1 : i ≤ l.length) : cut l (some i) none = l.drop i.toNat := by
  unfold cut
  rw [sIx_in h0 h1, sIx_no]
  exact List.take_of_length_le (by rw [List.length_drop]; omega)
theorem cut_one {l : List PyData} {i : Int} (h0 : 0 ≤ i) (h1 : i < l.length) : cut l (some i) (some (i + 1)) = (l.drop i.toNat).take 1 := by
  unfold cut
  rw [sIx_in h0 (by omega), sIx_in (by omega) (by omega)]
  congr 1; omega
end Co

set_option linter.all false
/-! Co32: whether a roster fits, set by set: the walk through the def. -/
namespace Co
open PySem PySem.Spec PyProof.Rows L2
local macro_rules | `(tactic| walk_at "wps") => `(tactic| simp -dsimp only [↓wpS, ↓wpE, ↓wpEs, ↓wpEs', ↓wpCs, ↓wpI, ↓callW, ↓okArgs, ↓sigOk, ↓inouts, ↓lents, ↓peeks, ↓peek, ↓pk, ↓slot, ↓setOwn, ↓setC, ↓freeze, ↓isOwn, ↓isIo, ↓slC, ↓isLst, ↓asV, ↓asS, ↓asVs, ↓asSs, ↓isT, ↓R.still, ↓setMany, ↓bindT, ↓wipeE, ↓unwipe, ↓binD, ↓intBin, ↓cmpD, ↓eqD, ↓ordD, ↓ordI, ↓startE, ↓endsOf, ↓ioOf, ↓newsOf, ↓Sl.r, ↓itemsOf, ↓slcD, ↓revD, ↓b1D, ↓b2D, ↓isNoneD, ↓noRefR, ↓noRef, ↓noRefs, ite_self, ↓isTy, ↓List.getElem?_cons_zero, ↓List.getElem?_cons_succ, ↓List.getElem?_nil, ↓Option.join_some, ↓Option.join_none, ↓Option.isSome_some, ↓Option.isSome_none, ↓List.set_cons_zero, ↓List.set_cons_succ, ↓List.replicate, ↓List.length_cons, ↓List.length_nil, ↓List.isEmpty_cons, ↓List.isEmpty_nil, ↓List.all_cons, ↓List.all_nil, ↓List.filterMap_cons, ↓List.filterMap_nil, ↓List.contains_cons, ↓List.contains_nil, ↓Bool.and_true, ↓Bool.true_and, ↓Bool.and_false, ↓Bool.false_and, ↓Bool.not_true, ↓Bool.not_false, ↓if_true, ↓sh_int, ↓sh_bool, ↓sh_none, ↓eqv_ii, ↓eqv_bb, ↓eqv_ss, ↓brn_true, ↓brn_false, brn_true, brn_false, ↓List.any_cons, ↓List.any_nil, ↓if_false, ↓ite_true, ↓ite_false, ↓true_and, ↓and_true, ↓Bool.false_eq_true, ↓reduceCtorEq, ↓decide_true, ↓decide_false, ↓List.map_cons, ↓List.map_nil, ↓Tg.slots, ↓List.nodup_cons, ↓List.nodup_nil, ↓List.not_mem_nil, ↓not_false_eq_true, ↓forall_const, ↓true_implies, ↓bI, Nat.reduceAdd, Nat.reduceSub, Nat.reduceEqDiff, Int.reduceLT, Int.reduceLE, Nat.reduceLT, Nat.reduceLeDiff, Int.reduceNeg, Nat.reduceBEq, ↓BEq.rfl, ↓beq_self_eq_true, ↓Bool.or_false, ↓Bool.or_true])

def ftTup (l : List Int) : PyData := .tuple (l.map .int)
def ftHouse (n : Nat) (ps : List (List Int)) : PyData := .tuple [.int n, .tuple (ps.map ftTup)]
def fitC : E := .and (.cmp .notin (.var 6) (.var 5)) (.cmp .notin (.var 6) (.var 1))
def fitH : E := .idx (.var 0) (.cst (.int 1))
def fitK : E := .b1 .sorted (.bin .add (.var 5) (.tup (.cons (.var 6) .nil)))
section
variable {K : Frag} {Φ : Tbl}
def rTupL (K : Frag) : List V → Hp → VK → Prop := fun vs H Q => ∃ a xs, vs = [.ref a] ∧ SqL K H a xs ∧ ∀ p, H p = none → Q (.ref p) (upd H p (.tup xs))
def tKey (K : Frag) (Φ : Tbl) : TE := tCB (rTupL K) (tCons (tE K Φ [] fitK) tNil)
def tB3 (K : Frag) (Φ : Tbl) : TS := tSeq (tIfS (tT K Φ [] fitC) (tSeq (sDPut (tVar 4) (tKey K Φ) (tC (.bl true))) tNext) tNext) tNext
def tB2 (K : Frag) (Φ : Tbl) : TS := tSeq (tFor (tI K Φ [] (.of (.var 3))) (gName 6) (tB3 K Φ)) tNext
def tB1 (K : Frag) (Φ : Tbl) : TS := tSeq (tAsg tDNewT (gName 4)) (tSeq (tLock (tFor (iKeys (tVar 2)) (gName 5) (tB2 K Φ))) (tSeq (tAsg (tVar 4) (gName 2)) tNext))
def rNe0 : R2 := fun x y H Q => ∃ (a b : Addr) (kvs : List (List Key × V)), x = .ref a ∧ y = .ref b ∧ H a = some (.dT kvs) ∧ H b = some (.dK []) ∧ Q (.bl (!kvs.isEmpty)) H
def tFitB (K : Frag) (Φ : Tbl) : TS := tSeq (tAsg (tDispT1 (tTup tNil) (tC (.bl true))) (gName 2)) (tSeq (tFor (tI K Φ [] (.of fitH)) (gName 3) (tB1 K Φ)) (tSeq (tRet (tOp rNe0 (tVar 2) tDNewK)) tNext))

theorem same_fresh {F H : Hp} {p : Addr} {o : HO} (h : Same F H) (n : F p = none) : Same F (upd H p o) := fun b x e => by
  rw [upd_ne (ne_of_none e n)]; exact h b x e
theorem none_sub {F F' : Hp} {p : Addr} (h : Same F F') (n : F' p = none) : F p = none := by
  cases e : F p with
  | none => rfl
  | some o => rw [h p o e] at n; cases n
theorem none_new {F H : Hp} {p : Addr} (h : Same F H) (n : H p = none) : F p = none := none_sub h n
/-- names that hold shared data alone -/
theorem snap {F H : Hp} {env : Env} {σ : L2.St} (m : Same F H) (hl : env.length = σ.length) (hv : ∀ i s, slot env i = some s → ∃ d v, s = .val d ∧ σ[i]? = some (some v) ∧ Den K F v d) : Rep K [] ⟨H, F, [], []⟩ env σ F H := by
  refine ⟨m, Same.refl F, fun b o e _ => e, fun b o _ e => e, hl, fun i d q => ?_, fun i d q => ?_, fun i j d e p q => ?_, fun i d q => ?_, fun q hq => absurd hq (by simp), rfl, List.nodup_nil, fun t ht => absurd ht (by simp), List.nodup_nil⟩
  · obtain ⟨d', v, e, a, b⟩ := hv i _ q
    cases e; exact ⟨v, a, b⟩
  · obtain ⟨d', v, e, a, b⟩ := hv i _ q
    cases e
  · obtain ⟨d', v, e, a, b⟩ := hv i _ q
    cases e
  · obtain ⟨d', v, e, a, b⟩ := hv i _ q
    cases e
theorem snap_same {F0 F H0 H : Hp} {env : Env} {σ : L2.St} (R : Rep K [] ⟨H0, F0, [], []⟩ env σ F H) : Same H0 H := fun b o e => R.frame b o e fun q hq => absurd hq (by simp)
theorem snap_none {F0 F H0 H : Hp} {env : Env} {σ : L2.St} {p : Addr} {o : HO} (R : Rep K [] ⟨H0, F0, [], []⟩ env σ F H) (h : H0 p = some o) (n : F0 p = none) : F p = none := R.nof p o h n
theorem ft_any {l : List Int} {x : Int} : ((l.map PyData.int).any fun z => PyData.eqv z (.int x)) = l.contains x := by
  rw [List.any_map]
  induction l with
  | nil => rfl
  | cons y l ih =>
    rw [List.any_cons, ih, List.contains_cons]
    congr 1
    simp only [Function.comp, eqv_ii]
    by_cases h : y = x
    · subst h; simp
    · simp [h, Ne.symm h]
theorem ft_sh {l : List Int} : SeqAt.shaped (.tuple (l.map .int)) = true := (ok_tuple (k := 0) fun x hx => by
  obtain ⟨i, _, rfl⟩ := List.mem_map.mp hx
  exact ok_int).sh (by omega)
theorem ft_mem {g : List Int} {x : Int} {P : Bool → Prop} (k : P (g.contains x)) : memD (.int x) (.tuple (g.map .int)) P := ⟨rfl, ft_sh, by rw [ft_any]; exact k⟩
theorem ft_cond {a b c d : Option Sl} {T g : List Int} {x : Int} {Q : R → Env → Prop} (h : Q (.val (.bool (!T.contains x && !g.contains x))) [a, some (.val (ftTup g)), b, c, d, some (.val (ftTup T)), some (.val (.int x))]) :
    wpE Φ fitC [a, some (.val (ftTup g)), b, c, d, some (.val (ftTup T)), some (.val (.int x))] Q := by
  unfold fitC ftTup at *
  walk_at "wps"
  refine ft_mem ?_
  cases hT : T.contains x
  · walk_at "wps"
    refine ft_mem ?_
    rw [hT] at h
    exact h
  · walk_at "wps"
    rw [hT] at h
    exact h
theorem ft_intsOf (l : List Int) : intsOf (l.map .int) = some l := by
  induction l with
  | nil => rfl
  | cons x l ih => rw [List.map_cons, intsOf, ih]; rfl
theorem ft_key {a b c d e : Option Sl} {T : List Int} {x : Int} {Q : R → Env → Prop} (hl : T.length ≤ 10) (h : Q (.own (.list ((fsort (T ++ [x])).map .int))) [a, b, c, d, e, some (.val (ftTup T)), some (.val (.int x))]) :
    wpE Φ fitK [a, b, c, d, e, some (.val (ftTup T)), some (.val (.int x))] Q := by
  unfold fitK ftTup at *
  walk_at "wps"
  refine ⟨by rw [List.length_map]; show _ ≤ 16777216; omega, by rw [List.length_append, List.length_map]; show _ ≤ 16777216; simp; omega, .inl ⟨T ++ [x], ?_, h⟩⟩
  have e : List.map PyData.int T ++ [PyData.int x] = (T ++ [x]).map .int := by rw [List.map_append]; rfl
  rw [e]
  exact ft_intsOf _
theorem ft_house {a b c d e f : Option Sl} {n : Nat} {ps : List (List Int)} {Q : List PyData → Env → Prop} (h : Q (ps.map ftTup) [some (.val (ftHouse n ps)), a, b, c, d, e, f]) :
    wpI Φ (.of fitH) [some (.val (ftHouse n ps)), a, b, c, d, e, f] Q := by
  unfold fitH ftHouse at *
  walk_at "wps"
  refine stp_nT (n := 1) rfl ?_
  walk_at "wps"
  exact h
theorem ft_people {a b c d e f : Option Sl} {l : List Int} {Q : List PyData → Env → Prop} (h : Q (l.map .int) [a, b, c, some (.val (ftTup l)), d, e, f]) :
    wpI Φ (.of (.var 3)) [a, b, c, some (.val (ftTup l)), d, e, f] Q := by
  unfold ftTup at *
  walk_at "wps"
  exact h

theorem ft_putlen (kvs : List (List Key × V)) (k : List Key) (v : V) : (L2.putK kvs k v).length ≤ kvs.length + 1 := by
  unfold L2.putK
  split
  · simp
  · simp
/-- unchanged but at q -/
def Off (q : Addr) (H H' : Hp) : Prop := ∀ b o, b ≠ q → H b = some o → H' b = some o
theorem Off.refl (q : Addr) (H : Hp) : Off q H H := fun _ _ _ e => e
theorem Off.trans {q : Addr} {H H1 H2 : Hp} (a : Off q H H1) (b : Off q H1 H2) : Off q H H2 := fun c o n e => b c o n (a c o n e)
theorem Off.of {q : Addr} {H H' : Hp} (a : Same H H') : Off q H H' := fun c o _ e => a c o e
theorem Off.upd {q : Addr} {H : Hp} {o : HO} : Off q H (upd H q o) := fun c x n e => by rw [upd_ne n]; exact e
theorem Off.same {q : Addr} {F H H' : Hp} (a : Off q H H') (m : Same F H) (n : F q = none) : Same F H' := fun c o e => a c o (ne_of_none e n) (m c o e)

theorem fit_one {F H : Hp} {D : L2.Ends} {a0 a2 a3 : Option V} {gv : V} {q q' : Addr} {T g : List Int} {x : Int} {ks : List (List Key × V)} (m : Same F H) (gd : Den K F gv (ftTup g)) (hT : H q' = some (.tup (T.map .int))) (hq : H q = some (.dT ks)) (hl : T.length ≤ 10) (hks : ks.length < sizeLine)
    (k1 : x ∉ T → x ∉ g → ∀ H', Off q H H' → H' q = some (.dT (L2.putK ks (keyI (fsort (T ++ [x]))) (.bl true))) → D.nx [a0, some gv, a2, a3, some (.ref q), some (.ref q'), some (.int x)] H')
    (k2 : ¬ (x ∉ T ∧ x ∉ g) → ∀ H', Same H H' → D.nx [a0, some gv, a2, a3, some (.ref q), some (.ref q'), some (.int x)] H') :
    tB3 K Φ D [a0, some gv, a2, a3, some (.ref q), some (.ref q'), some (.int x)] H := by
  have sn : ∀ {H1 : Hp}, Same H H1 → Rep K [] ⟨H1, H1, [], []⟩ [none, some (.val (ftTup g)), none, none, none, some (.val (ftTup T)), some (.val (.int x))] [a0, some gv, a2, a3, some (.ref q), some (.ref q'), some (.int x)] H1 H1 := fun {H1} s1 =>
    snap (Same.refl H1) rfl fun i s e => by
      rcases i with _ | _ | _ | _ | _ | _ | _ | i <;> simp [slot] at e
      · subst e; exact ⟨_, _, rfl, rfl, gd.mono (m.trans s1)⟩
      · subst e; exact ⟨_, _, rfl, rfl, .tup (.inl (.inl (s1 _ _ hT))) (DenAll.of_ints T)⟩
      · subst e; exact ⟨_, _, rfl, rfl, .int x⟩
  show tT K Φ [] fitC _ H _
  refine ⟨⟨H, H, [], []⟩, H, _, fun b _ => b = (!T.contains x && !g.contains x), sn (Same.refl H), ft_cond rfl, fun b H1 F1 env1 m1 R1 hb => ?_⟩
  have s1 := snap_same R1
  by_cases hc : x ∉ T ∧ x ∉ g
  case neg =>
    have hb2 : b = false := by
      rw [hb]
      by_cases h1 : x ∈ T
      · simp [h1]
      · have h2 : x ∈ g := Classical.byContradiction fun z => hc ⟨h1, z⟩
        simp [h2]
    rw [hb2]
    show if false = true then _ else _
    rw [if_neg Bool.false_ne_true]
    exact k2 hc H1 s1
  have hb2 : b = true := by rw [hb]; simp [hc.1, hc.2]
  rw [hb2]
  show if true = true then _ else _
  rw [if_pos rfl]
  refine ⟨.ref q, rfl, ?_⟩
  refine ⟨⟨H1, H1, [], []⟩, H1, _, fun r _ => r = .own (.list ((fsort (T ++ [x])).map .int)), sn s1, ft_key hl rfl, fun v H2 F2 r env2 m2 R2 rd hr => ?_⟩
  subst hr
  obtain ⟨a, rfl, fa, ⟨vs, ha, ta⟩, _⟩ := rd
  have hvs := ta.ints
  subst hvs
  have s2 := snap_same R2
  refine ⟨a, _, rfl, .inl (.inl ha), fun b hb => ?_⟩
  have eq2 : H2 q = some (.dT ks) := s2 _ _ (s1 _ _ hq)
  have nb : q ≠ b := ne_of_none eq2 hb
  have e1 : upd H2 b (.tup ((fsort (T ++ [x])).map V.int)) q = some (.dT ks) := by rw [upd_ne nb]; exact eq2
  refine ⟨q, _, rfl, DPut.t (k := keyI (fsort (T ++ [x]))) e1 (by rw [keyI_kV]; exact upd_same) hks, k1 hc.1 hc.2 _ ?_ upd_same⟩
  exact ((Off.of (s1.trans s2)).trans (Off.of (same_add hb))).trans Off.upd

theorem fit_inner {F H : Hp} {D : L2.Ends} {a0 a2 a6 : Option V} {gv pv : V} {q q' : Addr} {T g l : List Int} {ks : List (List Key × V)} (m : Same F H) (gd : Den K F gv (ftTup g)) (pd : Den K F pv (ftTup l)) (fq : F q = none) (hT : H q' = some (.tup (T.map .int))) (hq : H q = some (.dT ks)) (hl : T.length ≤ 10) (hks : ks.length + l.length < sizeLine)
    (k : ∀ a6 H' ks', Off q H H' → H' q = some (.dT ks') → ks'.length ≤ ks.length + l.length → (∀ k, k ∈ ks'.map (·.1) ↔ k ∈ ks.map (·.1) ∨ More g T l k) → D.nx [a0, some gv, a2, some pv, some (.ref q), some (.ref q'), a6] H') :
    tB2 K Φ D [a0, some gv, a2, some pv, some (.ref q), some (.ref q'), a6] H := by
  show tI K Φ [] (.of (.var 3)) _ H _
  refine ⟨⟨H, F, [], []⟩, F, [none, none, none, some (.val (ftTup l)), none, none, none], fun items _ => items = l.map .int, snap m rfl fun i s e => by
      rcases i with _ | _ | _ | _ | _ | _ | _ | i <;> simp [slot] at e
      subst e; exact ⟨_, _, rfl, rfl, pd⟩, ft_people rfl, fun items J H1 F1 env1 m1 R1 gvs hit => ?_⟩
  subst hit
  have s1 := snap_same R1
  have f1q : F1 q = none := snap_none R1 hq fq
  obtain ⟨Y, wk, hy⟩ := gvs
  refine for_it (D := { D with nx := tNext D }) wk (fun n σ' H' => ∃ a6 ks', σ' = [a0, some gv, a2, some pv, some (.ref q), some (.ref q'), a6] ∧ Off q H H' ∧ Same F1 H' ∧ H' q = some (.dT ks') ∧ ks'.length ≤ ks.length + n ∧ ∀ k, k ∈ ks'.map (·.1) ↔ k ∈ ks.map (·.1) ∨ More g T (l.take n) k) ?_ ?_ ?_ ?_
  · exact ⟨a6, ks, rfl, Off.of s1, R1.sub, s1 _ _ hq, Nat.le_refl _, fun k => by
      constructor
      · exact .inl
      · rintro (h | ⟨x, h, _⟩)
        · exact h
        · simp at h⟩
  · rintro n σ' H' _ ⟨_, _, _, _, h, _⟩
    exact h
  · rintro n x σ' H' H'' hn ⟨b6, ks', rfl, off, sm, hq', hkl, hk⟩ y
    obtain ⟨d, hd, ho⟩ := hy n H' x H'' hn sm y
    have ho := ho F1 (Same.refl F1) sm
    obtain ⟨v, rfl, hv⟩ := map_some hd
    have hnl := (List.getElem?_eq_some_iff.mp hv).1
    have htk : l.take (n + 1) = l.take n ++ [v] := by rw [List.take_add_one, hv]; rfl
    obtain ⟨rfl, rfl⟩ : x = .int v ∧ H'' = H' := by
      cases ho with
      | old dn => cases dn; exact ⟨rfl, rfl⟩
    show tB3 K Φ _ [a0, some gv, a2, some pv, some (.ref q), some (.ref q'), some (.int v)] H''
    have hT' : H'' q' = some (.tup (T.map .int)) := off _ _ (fun z => by rw [z, hq] at hT; cases hT) hT
    refine fit_one sm (gd.mono m1) hT' hq' hl (by omega) (fun n1 n2 H2 off2 e2 => ?_) fun nc H2 s2 => ?_
    · refine ⟨_, _, rfl, off.trans off2, off2.same sm f1q, e2, ?_, fun k => ?_⟩
      · have := ft_putlen ks' (keyI (fsort (T ++ [v]))) (.bl true)
        omega
      · rw [putK_keys, hk, htk]
        constructor
        · rintro ((h | ⟨x, h1, h2⟩) | h)
          · exact .inl h
          · exact .inr ⟨x, List.mem_append_left _ h1, h2⟩
          · exact .inr ⟨v, List.mem_append_right _ (List.mem_singleton.mpr rfl), n1, n2, h⟩
        · rintro (h | ⟨x, h1, h2, h3, h4⟩)
          · exact .inl (.inl h)
          · rcases List.mem_append.mp h1 with h1 | h1
            · exact .inl (.inr ⟨x, h1, h2, h3, h4⟩)
            · rw [List.mem_singleton] at h1
              subst h1
              exact .inr h4
    · refine ⟨_, ks', rfl, off.trans (Off.of s2), sm.trans s2, s2 _ _ hq', by omega, fun k => ?_⟩
      rw [hk, htk]
      constructor
      · rintro (h | ⟨x, h1, h2⟩)
        · exact .inl h
        · exact .inr ⟨x, List.mem_append_left _ h1, h2⟩
      · rintro (h | ⟨x, h1, h2, h3, h4⟩)
        · exact .inl h
        · rcases List.mem_append.mp h1 with h1 | h1
          · exact .inr ⟨x, h1, h2, h3, h4⟩
          · rw [List.mem_singleton] at h1
            subst h1
            exact absurd ⟨h2, h3⟩ nc
  · rintro σ' H' ⟨b6, ks', rfl, off, sm, hq', hkl, hk⟩
    rw [List.length_map] at hkl hk
    rw [List.take_length] at hk
    exact k b6 H' ks' off hq' hkl hk

theorem fit_mid {F H : Hp} {D : L2.Ends} {a0 a5 a6 : Option V} {gv pv : V} {p q : Addr} {g l : List Int} {kvs : List (List Key × V)} (m : Same F H) (gd : Den K F gv (ftTup g)) (pd : Den K F pv (ftTup l)) (fp : F p = none) (fq : F q = none) (hp : H p = some (.dT kvs)) (hq : H q = some (.dT []))
    (npq : p ≠ q) (hl : l.length ≤ 10) (hk : ∀ k ∈ kvs.map (·.1), ∃ T : List Int, k = keyI T ∧ T.length ≤ 10) (hkl : kvs.length * 10 < sizeLine)
    (k : ∀ a5 a6 H' ks, Same F H' → H' p = some (.dT kvs) → H' q = some (.dT ks) → ks.length ≤ kvs.length * 10 → (∀ k, k ∈ ks.map (·.1) ↔ ∃ T, keyI T ∈ kvs.map (·.1) ∧ More g T l k) → D.nx [a0, some gv, some (.ref p), some pv, some (.ref q), a5, a6] H') :
    tLock (tFor (iKeys (tVar 2)) (gName 5) (tB2 K Φ)) D [a0, some gv, some (.ref p), some pv, some (.ref q), a5, a6] H := by
  refine ⟨p, _, hp, trivial, fun od => ?_⟩
  refine ⟨.ref p, rfl, p, od, rfl, .inr ⟨kvs, upd_same, ?_⟩⟩
  refine for_it (D := _) walk_keysT (fun n σ' H' => ∃ a5 a6 ks, σ' = [a0, some gv, some (.ref p), some pv, some (.ref q), a5, a6] ∧ Same F H' ∧ H' p = some (.frz od (.dT kvs)) ∧ H' q = some (.dT ks) ∧ ks.length ≤ n * 10 ∧ ∀ k, k ∈ ks.map (·.1) ↔ ∃ T, keyI T ∈ (kvs.take n).map (·.1) ∧ More g T l k) ?_ ?_ ?_ ?_
  · refine ⟨a5, a6, [], rfl, same_fresh m fp, upd_same, by rw [upd_ne npq.symm]; exact hq, Nat.le_refl _, fun k => ?_⟩
    constructor
    · intro h; simp at h
    · rintro ⟨T, h, _⟩; simp at h
  · rintro n σ' H' _ ⟨_, _, _, _, _, h, _⟩
    exact h
  · rintro n x σ' H' H'' hn ⟨b5, b6, ks, rfl, sm, hp', hq', hkl', hk'⟩ ⟨rfl, key, v, q', hkv, rfl, ht⟩
    have hmem : key ∈ kvs.map (·.1) := List.mem_map.mpr ⟨(key, v), List.mem_of_getElem? hkv, rfl⟩
    obtain ⟨T, rfl, hTl⟩ := hk key hmem
    rw [keyI_kV] at ht
    have htk : (kvs.take (n + 1)).map (·.1) = (kvs.take n).map (·.1) ++ [keyI T] := by rw [List.take_add_one, hkv, List.map_append]; rfl
    show tB2 K Φ _ [a0, some gv, some (.ref p), some pv, some (.ref q), some (.ref q'), b6] H''
    have hn1 : n + 1 ≤ kvs.length := hn
    refine fit_inner sm gd pd fq ht hq' hTl (by omega) fun c6 H2 ks2 off e2 hl2 hk2 => ?_
    refine ⟨_, c6, ks2, rfl, off.same sm fq, off _ _ npq hp', e2, by omega, fun k => ?_⟩
    rw [hk2, hk', htk]
    constructor
    · rintro (⟨T', h1, h2⟩ | h)
      · exact ⟨T', List.mem_append_left _ h1, h2⟩
      · exact ⟨T, List.mem_append_right _ (List.mem_singleton.mpr rfl), h⟩
    · rintro ⟨T', h1, h2⟩
      rcases List.mem_append.mp h1 with h1 | h1
      · exact .inl ⟨T', h1, h2⟩
      · rw [List.mem_singleton] at h1
        rw [keyI_inj h1] at h2
        exact .inr h2
  · rintro σ' H' ⟨b5, b6, ks, rfl, sm, hp', hq', hkl', hk'⟩
    rw [List.take_length] at hk'
    refine ⟨hp', k b5 b6 _ ks (same_fresh sm fp) upd_same (by rw [upd_ne npq.symm]; exact hq') hkl' hk'⟩

/-- the def's body -/
theorem fit_wp {F H : Hp} {D : L2.Ends} {hv gv : V} {n : Nat} {g : List Int} {ps : List (List Int)} (m : Same F H) (hd : Den K F hv (ftHouse n ps)) (gd : Den K F gv (ftTup g)) (h6 : ps.length ≤ 6) (h10 : ∀ l ∈ ps, l.length ≤ 10)
    (k : ∀ b H', Same H H' → (b = true ↔ ∃ t, Sel g ps t) → D.rt (.bl b) H') : tFitB K Φ D [some hv, some gv, none, none, none, none, none] H := by
  intro p hpn
  refine ⟨by rw [sizeLine_eq]; exact Nat.zero_le _, fun b hb => ?_⟩
  have nbp : b ≠ p := fun z => by rw [z, upd_same] at hb; cases hb
  refine ⟨by rw [upd_ne nbp.symm]; exact upd_same, [], b, rfl, upd_same, ?_⟩
  have s0 : Same H (upd (upd (upd H p (.dT [])) b (.tup [])) p (.dT [([], .bl true)])) := same_fresh (fun c o e => (same_add hb) c o ((same_add hpn) c o e)) hpn
  generalize hH1 : upd (upd (upd H p (.dT [])) b (.tup [])) p (.dT [([], .bl true)]) = H1 at s0
  have hp1 : H1 p = some (.dT [([], .bl true)]) := by rw [← hH1]; exact upd_same
  show tI K Φ [] (.of fitH) [some hv, some gv, some (.ref p), none, none, none, none] H1 _
  have fp : F p = none := none_sub m hpn
  refine ⟨⟨H1, H, [], []⟩, H, [some (.val (ftHouse n ps)), none, none, none, none, none, none], fun items _ => items = ps.map ftTup, snap s0 rfl fun i s e => by
      rcases i with _ | _ | _ | _ | _ | _ | _ | i <;> simp [slot] at e
      subst e; exact ⟨_, _, rfl, rfl, hd.mono m⟩, ft_house rfl, fun items J H2 F2 env2 m2 R2 gvs hit => ?_⟩
  subst hit
  have s2 := snap_same R2
  have f2p : F2 p = none := snap_none R2 hp1 hpn
  obtain ⟨Y, wk, hy⟩ := gvs
  refine for_it (D := _) wk (fun i σ' H' => ∃ p kvs a3 a4 a5 a6, σ' = [some hv, some gv, some (.ref p), a3, a4, a5, a6] ∧ Same F2 H' ∧ F2 p = none ∧ H' p = some (.dT kvs) ∧ kvs.length ≤ 10 ^ i ∧ KeysOf g (ps.take i) kvs) ?_ ?_ ?_ ?_
  · refine ⟨p, _, none, none, none, none, rfl, R2.sub, f2p, s2 _ _ hp1, Nat.le_refl _, fun k => ?_⟩
    rw [List.take_zero]
    constructor
    · intro h
      rw [List.map_cons, List.map_nil, List.mem_singleton] at h
      exact ⟨[], sel_nil.mpr rfl, h.trans (by rw [(fsort_perm []).eq_nil]; rfl)⟩
    · rintro ⟨t, ht, rfl⟩
      rw [sel_nil.mp ht, (fsort_perm []).eq_nil]
      exact List.mem_singleton.mpr rfl
  · rintro i σ' H' _ ⟨_, _, _, _, _, _, _, h, _⟩
    exact h
  · rintro i x σ' H' H'' hi ⟨p, kvs, a3, a4, a5, a6, rfl, sm, fp, hp, hkl, hks⟩ y
    rw [List.length_map] at hi
    obtain ⟨d, hdd, ho⟩ := hy i H' x H'' (by rw [List.length_map]; exact hi) sm y
    obtain ⟨l, rfl, hl⟩ := map_some hdd
    have ho := ho F2 (Same.refl F2) sm
    obtain ⟨F3, m3, R3, dn⟩ := out_ok (snap (K := K) (σ := ([] : L2.St)) (env := []) sm rfl fun i s e => by simp [slot] at e) ho
    have dn : Den K F3 x (ftTup l) := dn
    have s3 := snap_same R3
    have f3p : F3 p = none := snap_none R3 hp fp
    intro q hqn
    have f3q : F3 q = none := none_sub R3.sub hqn
    have npq : p ≠ q := ne_of_none (s3 _ _ hp) hqn
    have hll : l.length ≤ 10 := h10 l (List.mem_of_getElem? hl)
    have hpow : 10 ^ i ≤ 10 ^ 5 := Nat.pow_le_pow_right (by decide) (by omega)
    have hti : (ps.take i).length ≤ 6 := by rw [List.length_take]; omega
    have htk : ps.take (i + 1) = ps.take i ++ [l] := by rw [List.take_add_one, hl]; rfl
    show tLock _ _ [some hv, some gv, some (.ref p), some x, some (.ref q), a5, a6] (upd H'' q (.dT []))
    refine fit_mid (kvs := kvs) (l := l) (g := g) (same_fresh R3.sub f3q) (gd.mono (fun c o e => m3 c o (m2 c o (m c o e)))) dn f3p f3q (by rw [upd_ne npq]; exact s3 _ _ hp) upd_same npq hll (fun k hk => ?_) (by rw [sizeLine_eq]; omega) fun b5 b6 H4 ks sm4 hp4 hq4 hl4 hk4 => ?_
    · obtain ⟨t, ht, rfl⟩ := (hks k).mp hk
      refine ⟨_, rfl, ?_⟩
      rw [(fsort_perm t).length_eq, ht.len]
      omega
    · refine ⟨.ref q, rfl, ?_⟩
      refine ⟨q, ks, some x, some (.ref q), b5, b6, rfl, fun c o e => sm4 c o (m3 c o e), none_sub m3 f3q, hq4, by rw [Nat.pow_succ]; omega, ?_⟩
      rw [htk]
      exact keys_step hks hk4
  · rintro σ' H' ⟨p, kvs, a3, a4, a5, a6, rfl, sm, fp, hp, hkl, hks⟩
    rw [List.length_map, List.take_length] at hks
    refine ⟨.ref p, rfl, fun r hr => ?_⟩
    have npr : p ≠ r := ne_of_none hp hr
    refine ⟨p, r, kvs, rfl, rfl, by rw [upd_ne npr]; exact hp, upd_same, ?_⟩
    refine k _ _ ?_ ?_
    · exact fun c o e => (same_add hr) c o (sm c o (m2 c o e))
    · constructor
      · intro hb
        cases kvs with
        | nil => cases hb
        | cons kv r =>
          obtain ⟨t, ht, _⟩ := (hks kv.1).mp List.mem_cons_self
          exact ⟨t, ht⟩
      · rintro ⟨t, ht⟩
        have := (hks _).mpr ⟨t, ht, rfl⟩
        cases kvs with
        | nil => cases this
        | cons kv r => rfl
end
/-! ### the text -/
def mKeyF (L : List (String × List Bool)) (N : List Str) (sc : Scope) (fb : Str → Bool) : Expr → Bool
  | .Call (.Name tu _) [aE] [] _ => decide (tu = s_ "tuple") && gl sc tu && notStar aE && mE L N [] sc fb fitK aE
  | _ => false
def mB3 (L : List (String × List Bool)) (N : List Str) (sc : Scope) (fb : Str → Bool) : List Stmt → Bool
  | [.If cE [.Assign [.Subscript (.Name l2 _) kE _] (.Constant (.bool true) _ _) _] [] _] => mE L N [] sc fb fitC cE && mVis N sc 4 l2 && mKeyF L N sc fb kE
  | _ => false
def mB2 (L : List (String × List Bool)) (N : List Str) (sc : Scope) (fb : Str → Bool) : List Stmt → Bool
  | [.For (.Name o1 _) pE b3 [] _] => mSt N sc fb 6 o1 && notSet pE && mE L N [] sc fb (.var 3) pE && mB3 L N sc fb b3
  | _ => false
def mB1 (L : List (String × List Bool)) (N : List Str) (sc : Scope) (fb : Str → Bool) : List Stmt → Bool
  | [.Assign [.Name l1 _] (.Dict [] [] _) _, .For (.Name t1 _) (.Name f2 _) b2 [] _, .Assign [.Name f3 _] (.Name l3 _) _] =>
    mSt N sc fb 4 l1 && mSt N sc fb 5 t1 && mVis N sc 2 f2 && mB2 L N sc fb b2 && mSt N sc fb 2 f3 && mVis N sc 4 l3
  | _ => false
def mFit (L : List (String × List Bool)) (N : List Str) (sc : Scope) (fb : Str → Bool) : List Stmt → Bool
  | [.Assign [.Name f1 _] (.Dict [some (.Tuple [] _ _)] [.Constant (.bool true) _ _] _) _, .For (.Name p1 _) hE b1 [] _, .Return (some (.Compare (.Name f4 _) [.NotEq] [.Dict [] [] _] _)) _] =>
    mSt N sc fb 2 f1 && mSt N sc fb 3 p1 && notSet hE && mE L N [] sc fb fitH hE && mB1 L N sc fb b1 && mVis N sc 2 f4
  | _ => false
section
variable {X : Cx} {L : List (String × List Bool)} {Φ : Tbl} {fb : Str → Bool}
theorem tupleL : CallR X (.type "tuple") (rTupL X.K) := by
  intro pins s σ H vs us Q I r ⟨a, xs, e, h, q⟩
  subst e
  exact call_tuple_of pins s σ H _ us Q I r ⟨a, xs, rfl, .inl ⟨h, q⟩⟩
theorem pv (C : Ctx X L Φ fb) {i : Nat} {x : Str} {pos : Pos} (h : mVis X.N X.env.scope i x = true) : PE X (.Name x pos) (tVar i) :=
  let ⟨h1, h2, h3, h4⟩ := mVis_ok h
  pe_var h1 h2 h3 h4
theorem ps_setC (C : Ctx X L Φ fb) {i : Nat} {x : Str} {e : Expr} {te : TE} {p pos : Pos} (h : mSt X.N X.env.scope fb i x = true) (he : PE X e te) (n : notLc e = true) : PS X (.Assign [.Name x p] e pos) (tAsg te (gName i)) :=
  let ⟨h1, h2, h3⟩ := mSt_ok C h
  ps_set C.nd h1 h2 he (swap_no n _ _ _) h3
theorem sndKeyF (C : Ctx X L Φ fb) {e : Expr} (h : mKeyF L X.N X.env.scope fb e = true) : PE X e (tKey X.K Φ) := by
  unfold mKeyF at h
  split at h
  case h_2 => cases h
  simp only [Bool.and_eq_true, decide_eq_true_eq] at h
  obtain ⟨⟨⟨rfl, h2⟩, h3⟩, h4⟩ := h
  exact pe_callTy tupleL (gl_ok h2) (C.blt "tuple" (by decide)) boot_tuple (pa_one (sndE fitK _ X fb C rfl h4).pe h3) (by decide) (by decide) (star_cons h3 [] X.env)
theorem sndB3 (C : Ctx X L Φ fb) {b : List Stmt} (h : mB3 L X.N X.env.scope fb b = true) : PSs X b (tB3 X.K Φ) := by
  unfold mB3 at h
  split at h
  case h_2 => cases h
  simp only [Bool.and_eq_true] at h
  obtain ⟨⟨h1, h2⟩, h3⟩ := h
  exact pss_cons (ps_if (sndE fitC _ X fb C rfl h1).pt (pss_cons (ps_dput (Nat.lt_of_le_of_lt (by omega) C.hu) (pv C h2) (sndKeyF C h3) pe_bl swap_sub) pss_nil) pss_nil) pss_nil
theorem sndB2 (C : Ctx X L Φ fb) {b : List Stmt} (h : mB2 L X.N X.env.scope fb b = true) : PSs X b (tB2 X.K Φ) := by
  unfold mB2 at h
  split at h
  case h_2 => cases h
  simp only [Bool.and_eq_true] at h
  obtain ⟨⟨⟨h1, h2⟩, h3⟩, h4⟩ := h
  exact pss_cons (ps_for (by rw [C.xe]; exact PassesOwn.never) C.calm (i_of (sndE (.var 3) _ X fb C rfl h3).pe) (pg_nm C h1) (sndB3 C h4) fun x => folded_ok h2 X.env x) pss_nil
theorem sndB1 (C : Ctx X L Φ fb) {b : List Stmt} (h : mB1 L X.N X.env.scope fb b = true) : PSs X b (tB1 X.K Φ) := by
  unfold mB1 at h
  split at h
  case h_2 => cases h
  simp only [Bool.and_eq_true] at h
  obtain ⟨⟨⟨⟨⟨h1, h2⟩, h3⟩, h4⟩, h5⟩, h6⟩ := h
  refine pss_cons (ps_setC C h1 pe_dnewT rfl) (pss_cons (ps_lock (ps_for (by rw [C.xe]; exact PassesOwn.never) C.calm (pi_keys (pv C h3)) (pg_nm C h2) (sndB2 C h4) fun x => folded_ok rfl X.env x)) (pss_cons (ps_setC C h5 (pv C h6) rfl) pss_nil))
theorem sndFit (C : Ctx X L Φ fb) {b : List Stmt} (h : mFit L X.N X.env.scope fb b = true) : PSs X b (tFitB X.K Φ) := by
  unfold mFit at h
  split at h
  case h_2 => cases h
  simp only [Bool.and_eq_true] at h
  obtain ⟨⟨⟨⟨⟨h1, h2⟩, h3⟩, h4⟩, h5⟩, h6⟩ := h
  have hu : X.A.units + 1 < cLine := Nat.lt_of_le_of_lt (by omega) C.hu
  refine pss_cons (ps_setC C h1 (pe_dispT1 hu (pe_tup pa_nil) pe_bl) rfl) (pss_cons (ps_for (by rw [C.xe]; exact PassesOwn.never) C.calm (i_of (sndE fitH _ X fb C rfl h4).pe) (pg_nm C h2) (sndB1 C h5) fun x => folded_ok h3 X.env x)
    (pss_cons (ps_ret (pe_cmpR (op_ne_dT0 (Nat.lt_of_le_of_lt (by omega) C.hu)) (pv C h6) pe_dnewK (nomark _))) pss_nil))
end
/-! ### the def -/
def fitSp : Spec := fun ds Q => ∃ n ps g, ds = [ftHouse n ps, ftTup g] ∧ ps.length ≤ 6 ∧ (∀ l ∈ ps, l.length ≤ 10) ∧ ∀ b : Bool, (b = true ↔ ∃ t, Sel g ps t) → Q (.val (.bool b)) []
theorem fit_fn {P : Program} {w : World} {K : Frag} {mg : Str → Option Value} {base : Heap} {k : Nat} {f : Addr} {x qual : Str} {st : Stmt} {fd : FuncData} {N ps : List Str} {Φ : Tbl}
    (D : Fun K x qual st f fd) (Sc : FnScope N ps (defScope st)) (hps : ps.length = 2) (hN : N.length = 7) (sys : ∃ m, base.Ns sysModules m) (blt : ∀ x ∈ bltNames, mg (Str.ofString x) = none)
    (hm : mFit [] N (defScope st) (fun _ => true) (defBody st) = true) : FnG P w K mg base (k + 1) f fd ps (spOf K [false, false] fitSp) := by
  refine fn_g D Sc (fun vs H Q E h => h.1.trans hps.symm) fun cdv A outer s H vs Q hr hg ⟨hl, F, ds, m, ha, nd, Qs, hs, hk⟩ => ?_
  have C : Ctx (cxOf CX0 P w K mg base N qual (defScope st) f cdv A outer s H E0).nox [] Φ (fun _ => true) :=
    ⟨rfl, Sc.kind, fun _ _ => rfl, Sc.nd, rfl, by have := hr.un; show (A.deeper _).units + 100 < cLine; omega, hg, sys, blt, fun p hp hl => absurd hp (by simp), fun p hp h => absurd hp (by simp)⟩
  refine ⟨_, sndFit C hm, ?_⟩
  obtain ⟨n, pl, g, rfl, h6, h10, hQ⟩ := hs
  match vs, hl, ha with
  | [hv, gv], _, ha =>
    have e : L2.start N [hv, gv] = [some hv, some gv, none, none, none, none, none] := by
      unfold L2.start
      rw [hN]; rfl
    rw [e]
    refine fit_wp m ha.1 ha.2.1 h6 h10 fun b H' s1 hb => ?_
    exact hk _ _ (hQ b hb) (.bl b) H' F (Same.refl F) (m.trans s1) (fun c o e _ => s1 c o e) (fun c o _ e => e) trivial (Den.bl b)
end Co

set_option linter.all false
/-! Co37: rosters counted, set by set: the walk through the def. -/
namespace Co
open PySem PySem.Spec PyProof.Rows L2
local macro_rules | `(tactic| walk_at "wps") => `(tactic| simp -dsimp only [↓wpS, ↓wpE, ↓wpEs, ↓wpEs', ↓wpCs, ↓wpI, ↓callW, ↓okArgs, ↓sigOk, ↓inouts, ↓lents, ↓peeks, ↓peek, ↓pk, ↓slot, ↓setOwn, ↓setC, ↓freeze, ↓isOwn, ↓isIo, ↓slC, ↓isLst, ↓asV, ↓asS, ↓asVs, ↓asSs, ↓isT, ↓R.still, ↓setMany, ↓bindT, ↓wipeE, ↓unwipe, ↓binD, ↓intBin, ↓cmpD, ↓eqD, ↓ordD, ↓ordI, ↓startE, ↓endsOf, ↓ioOf, ↓newsOf, ↓Sl.r, ↓itemsOf, ↓slcD, ↓revD, ↓b1D, ↓b2D, ↓isNoneD, ↓noRefR, ↓noRef, ↓noRefs, ite_self, ↓isTy, ↓List.getElem?_cons_zero, ↓List.getElem?_cons_succ, ↓List.getElem?_nil, ↓Option.join_some, ↓Option.join_none, ↓Option.isSome_some, ↓Option.isSome_none, ↓List.set_cons_zero, ↓List.set_cons_succ, ↓List.replicate, ↓List.length_cons, ↓List.length_nil, ↓List.isEmpty_cons, ↓List.isEmpty_nil, ↓List.all_cons, ↓List.all_nil, ↓List.filterMap_cons, ↓List.filterMap_nil, ↓List.contains_cons, ↓List.contains_nil, ↓Bool.and_true, ↓Bool.true_and, ↓Bool.and_false, ↓Bool.false_and, ↓Bool.not_true, ↓Bool.not_false, ↓if_true, ↓sh_int, ↓sh_bool, ↓sh_none, ↓eqv_ii, ↓eqv_bb, ↓eqv_ss, ↓brn_true, ↓brn_false, brn_true, brn_false, ↓List.any_cons, ↓List.any_nil, ↓if_false, ↓ite_true, ↓ite_false, ↓true_and, ↓and_true, ↓Bool.false_eq_true, ↓reduceCtorEq, ↓decide_true, ↓decide_false, ↓List.map_cons, ↓List.map_nil, ↓Tg.slots, ↓List.nodup_cons, ↓List.nodup_nil, ↓List.not_mem_nil, ↓not_false_eq_true, ↓forall_const, ↓true_implies, ↓bI, Nat.reduceAdd, Nat.reduceSub, Nat.reduceEqDiff, Int.reduceLT, Int.reduceLE, Nat.reduceLT, Nat.reduceLeDiff, Int.reduceNeg, Nat.reduceBEq, ↓BEq.rfl, ↓beq_self_eq_true, ↓Bool.or_false, ↓Bool.or_true])

/-- how many ways to take some posts by people who are not taken -/
def cntF : List (List Int) → List Int → Nat
  | [], _ => 1
  | l :: R, T => ((l.filter fun x => !T.contains x).map fun x => cntF R (T ++ [x])).sum
theorem cntF_congr : ∀ (R : List (List Int)) {T T' : List Int}, (∀ x, x ∈ T ↔ x ∈ T') → cntF R T = cntF R T'
  | [], _, _, _ => rfl
  | l :: R, T, T', h => by
    have hc : ∀ x, T.contains x = T'.contains x := fun x => by
      rw [Bool.eq_iff_iff, List.contains_iff_mem, List.contains_iff_mem]; exact h x
    unfold cntF
    rw [List.filter_congr fun x _ => by rw [hc x]]
    congr 1
    refine List.map_congr_left fun x _ => cntF_congr R fun y => ?_
    rw [List.mem_append, List.mem_append, h y]
theorem cntF_sort (R : List (List Int)) (T : List Int) : cntF R (fsort T) = cntF R T := cntF_congr R fun _ => (fsort_perm T).mem_iff
/-- a dict of taken people and numbers -/
def kvW (ws : List (List Int × Nat)) : List (List Key × V) := ws.map fun p => (keyI p.1, .int (p.2 : Nat))
def wsum (R : List (List Int)) (ws : List (List Int × Nat)) : Nat := (ws.map fun p => p.2 * cntF R p.1).sum
def addW (ws : List (List Int × Nat)) (T : List Int) (c : Nat) : List (List Int × Nat) :=
  if T ∈ ws.map (·.1) then ws.map (fun p => if p.1 = T then (p.1, p.2 + c) else p) else ws ++ [(T, c)]
theorem addW_keys {ws : List (List Int × Nat)} {T : List Int} {c : Nat} : (addW ws T c).map (·.1) = if T ∈ ws.map (·.1) then ws.map (·.1) else ws.map (·.1) ++ [T] := by
  unfold addW
  split
  · rw [List.map_map]
    refine List.map_congr_left fun p _ => ?_
    simp only [Function.comp]
    split <;> rfl
  · rw [List.map_append]; rfl
theorem addW_nd {ws : List (List Int × Nat)} {T : List Int} {c : Nat} (h : (ws.map (·.1)).Nodup) : ((addW ws T c).map (·.1)).Nodup := by
  rw [addW_keys]
  split
  · exact h
  · rename_i hn
    rw [List.nodup_append]
    exact ⟨h, by simp, fun a ha b hb e => by
      rw [List.mem_singleton] at hb
      subst hb; subst e
      exact hn ha⟩
theorem addW_mem {ws : List (List Int × Nat)} {T S : List Int} {c : Nat} (h : S ∈ (addW ws T c).map (·.1)) : S ∈ ws.map (·.1) ∨ S = T := by
  rw [addW_keys] at h
  split at h
  · exact .inl h
  · rcases List.mem_append.mp h with h | h
    · exact .inl h
    · exact .inr (List.mem_singleton.mp h)
theorem addW_len {ws : List (List Int × Nat)} {T : List Int} {c : Nat} : (addW ws T c).length ≤ ws.length + 1 := by
  unfold addW
  split
  · rw [List.length_map]; omega
  · simp
theorem map_off {R : List (List Int)} {T : List Int} {c : Nat} : ∀ {ws : List (List Int × Nat)}, T ∉ ws.map (·.1) → ws.map (fun p => if p.1 = T then (p.1, p.2 + c) else p) = ws
  | [], _ => rfl
  | p :: ws, h => by
    rw [List.map_cons, List.mem_cons, not_or] at h
    rw [List.map_cons, if_neg (fun q => h.1 q.symm), map_off (R := R) h.2]
theorem wsum_add {R : List (List Int)} {T : List Int} {c : Nat} : ∀ {ws : List (List Int × Nat)}, (ws.map (·.1)).Nodup → wsum R (addW ws T c) = wsum R ws + c * cntF R T := by
  intro ws hnd
  unfold addW
  split
  · rename_i hm
    induction ws with
    | nil => simp at hm
    | cons p ws ih =>
      rw [List.map_cons, List.nodup_cons] at hnd
      rw [List.map_cons]
      by_cases hp : p.1 = T
      · rw [if_pos hp, map_off (R := R) (by rw [← hp]; exact hnd.1)]
        unfold wsum
        rw [List.map_cons, List.map_cons, List.sum_cons, List.sum_cons, hp, Nat.add_mul]
        omega
      · rw [List.map_cons, List.mem_cons] at hm
        have hm2 : T ∈ ws.map (·.1) := hm.resolve_left fun q => hp q.symm
        rw [if_neg hp]
        have := ih hnd.2 hm2
        unfold wsum at this ⊢
        rw [List.map_cons, List.map_cons, List.sum_cons, List.sum_cons, this]
        omega
  · unfold wsum
    rw [List.map_append, List.sum_append]
    simp
/-- what stands in a dict for a key -/
def getW (ws : List (List Int × Nat)) (T : List Int) : Option Nat := (ws.find? fun p => decide (p.1 = T)).map (·.2)
theorem keyI_iff {a b : List Int} : keyI a = keyI b ↔ a = b := ⟨keyI_inj, fun h => by rw [h]⟩
theorem valV_kvW (ws : List (List Int × Nat)) (T : List Int) : valV (kvW ws) (keyI T) = (getW ws T).map fun c => V.int (c : Nat) := by
  unfold valV kvW getW
  induction ws with
  | nil => rfl
  | cons p ws ih =>
    rw [List.map_cons, List.find?_cons, List.find?_cons]
    by_cases h : p.1 = T
    · have h2 : keyI p.1 = keyI T := by rw [h]
      rw [decide_eq_true h, decide_eq_true (show (keyI p.1, V.int (p.2 : Nat)).1 = keyI T from h2)]
      rfl
    · rw [decide_eq_false h, decide_eq_false (show ¬ (keyI p.1, V.int (p.2 : Nat)).1 = keyI T from fun q => h (keyI_inj q))]
      exact ih
theorem getW_none {ws : List (List Int × Nat)} {T : List Int} (h : T ∉ ws.map (·.1)) : getW ws T = none := by
  unfold getW
  rw [List.find?_eq_none.mpr fun p hp => by
    rw [decide_eq_true_eq]
    exact fun q => h (List.mem_map.mpr ⟨p, hp, q⟩)]
  rfl
theorem getW_mem {ws : List (List Int × Nat)} {T : List Int} {c : Nat} (hnd : (ws.map (·.1)).Nodup) (h : (T, c) ∈ ws) : getW ws T = some c := by
  induction ws with
  | nil => simp at h
  | cons p ws ih =>
    rw [List.map_cons, List.nodup_cons] at hnd
    unfold getW
    rw [List.find?_cons]
    rcases List.mem_cons.mp h with rfl | h
    · rw [decide_eq_true rfl]; rfl
    · have hne : p.1 ≠ T := fun q => hnd.1 (by rw [q]; exact List.mem_map.mpr ⟨_, h, rfl⟩)
      rw [decide_eq_false hne]
      exact ih hnd.2 h
theorem putK_kvW {ws : List (List Int × Nat)} {T : List Int} {c : Nat} (hnd : (ws.map (·.1)).Nodup) : L2.putK (kvW ws) (keyI T) (.int (((getW ws T).getD 0 + c : Nat) : Int)) = kvW (addW ws T c) := by
  have hany : ((kvW ws).any fun kv => decide (kv.1 = keyI T)) = decide (T ∈ ws.map (·.1)) := by
    rw [Bool.eq_iff_iff, List.any_eq_true, decide_eq_true_eq]
    unfold kvW
    constructor
    · rintro ⟨kv, hkv, e⟩
      obtain ⟨p, hp, rfl⟩ := List.mem_map.mp hkv
      rw [decide_eq_true_eq] at e
      exact List.mem_map.mpr ⟨p, hp, keyI_inj e⟩
    · intro h
      obtain ⟨p, hp, rfl⟩ := List.mem_map.mp h
      exact ⟨_, List.mem_map.mpr ⟨p, hp, rfl⟩, by rw [decide_eq_true_eq]⟩
  unfold L2.putK addW
  rw [hany]
  by_cases h : T ∈ ws.map (·.1)
  · rw [if_pos (decide_eq_true h), if_pos h]
    unfold kvW
    rw [List.map_map, List.map_map]
    refine List.map_congr_left fun p hp => ?_
    simp only [Function.comp]
    by_cases hpT : p.1 = T
    · have hg : getW ws T = some p.2 := getW_mem hnd (by rw [← hpT]; exact hp)
      rw [if_pos (by rw [hpT]), if_pos hpT, hg]
      rfl
    · rw [if_neg fun q => hpT (keyI_inj q), if_neg hpT]
  · rw [if_neg (by simpa using h), if_neg h, getW_none h]
    unfold kvW
    rw [List.map_append]
    simp

/-! ### with_person, by hand: a tuple of integers told anew -/
def wpK : E := .b1 .sorted (.bin .add (.var 0) (.tup (.cons (.var 1) .nil)))
section
variable {K : Frag} {Φ : Tbl}
def tWpB (K : Frag) (Φ : Tbl) : TS := tSeq (tRet (tCB (rTupL K) (tCons (tE K Φ [] wpK) tNil))) tNext
theorem wp_key {T : List Int} {x : Int} {Q : R → Env → Prop} (hl : T.length ≤ 1000) (h : Q (.own (.list ((fsort (T ++ [x])).map .int))) [some (.val (ftTup T)), some (.val (.int x))]) :
    wpE Φ wpK [some (.val (ftTup T)), some (.val (.int x))] Q := by
  unfold wpK ftTup at *
  walk_at "wps"
  refine ⟨by rw [List.length_map]; show _ ≤ 16777216; omega, by rw [List.length_append, List.length_map]; show _ ≤ 16777216; simp; omega, .inl ⟨T ++ [x], ?_, h⟩⟩
  have e : List.map PyData.int T ++ [PyData.int x] = (T ++ [x]).map .int := by rw [List.map_append]; rfl
  rw [e]
  exact ft_intsOf _
def wpSp : Sp := fun vs H Q _ => ∃ (q' : Addr) (x : Int) (T : List Int), vs = [.ref q', .int x] ∧ H q' = some (.tup (T.map .int)) ∧ T.length ≤ 1000 ∧ ∀ b H', Same H H' → H' b = some (.tup ((fsort (T ++ [x])).map .int)) → Q (.ref b) H'
theorem wp_wp {D : L2.Ends} {H : Hp} {q' : Addr} {x : Int} {T : List Int} (hT : H q' = some (.tup (T.map .int))) (hl : T.length ≤ 1000)
    (k : ∀ b H', Same H H' → H' b = some (.tup ((fsort (T ++ [x])).map .int)) → D.rt (.ref b) H') : tWpB K Φ D [some (.ref q'), some (.int x)] H := by
  have sn : Rep K [] ⟨H, H, [], []⟩ [some (.val (ftTup T)), some (.val (.int x))] [some (.ref q'), some (.int x)] H H :=
    snap (Same.refl H) rfl fun i s e => by
      rcases i with _ | _ | i <;> simp [slot] at e
      · subst e; exact ⟨_, _, rfl, rfl, .tup (.inl (.inl hT)) (DenAll.of_ints T)⟩
      · subst e; exact ⟨_, _, rfl, rfl, .int x⟩
  show tE K Φ [] wpK _ H _
  refine ⟨⟨H, H, [], []⟩, H, _, fun r _ => r = .own (.list ((fsort (T ++ [x])).map .int)), sn, wp_key hl rfl, fun v H2 F2 r env2 m2 R2 rd hr => ?_⟩
  subst hr
  obtain ⟨a, rfl, fa, ⟨vs, ha, ta⟩, _⟩ := rd
  have hvs := ta.ints
  subst hvs
  have s2 := snap_same R2
  exact ⟨a, _, rfl, .inl (.inl ha), fun b hb => k b _ (fun c o e => (same_add hb) c o (s2 c o e)) upd_same⟩
end
def mWp (N : List Str) (sc : Scope) (fb : Str → Bool) : List Stmt → Bool
  | [.Return (some (.Call (.Name tu _) [aE] [] _)) _] => decide (tu = s_ "tuple") && gl sc tu && notStar aE && mE [] N [] sc fb wpK aE
  | _ => false
theorem sndWp {X : Cx} {Φ : Tbl} {fb : Str → Bool} (C : Ctx X [] Φ fb) {b : List Stmt} (h : mWp X.N X.env.scope fb b = true) : PSs X b (tWpB X.K Φ) := by
  unfold mWp at h
  split at h
  case h_2 => cases h
  simp only [Bool.and_eq_true, decide_eq_true_eq] at h
  obtain ⟨⟨⟨rfl, h2⟩, h3⟩, h4⟩ := h
  exact pss_cons (ps_ret (pe_callTy tupleL (gl_ok h2) (C.blt "tuple" (by decide)) boot_tuple (pa_one (sndE wpK _ X fb C rfl h4).pe h3) (by decide) (by decide) (star_cons h3 [] X.env))) pss_nil
theorem wp_fn {P : Program} {w : World} {K : Frag} {mg : Str → Option Value} {base : Heap} {k : Nat} {f : Addr} {x qual : Str} {st : Stmt} {fd : FuncData} {N ps : List Str}
    (D : Fun K x qual st f fd) (Sc : FnScope N ps (defScope st)) (hps : ps.length = 2) (hN : N.length = 2) (sys : ∃ m, base.Ns sysModules m) (blt : ∀ x ∈ bltNames, mg (Str.ofString x) = none)
    (hm : mWp N (defScope st) (fun _ => true) (defBody st) = true) : FnG P w K mg base (k + 1) f fd ps wpSp := by
  refine fn_g D Sc (fun vs H Q E h => by obtain ⟨_, _, _, rfl, _⟩ := h; exact hps.symm) fun cdv A outer s H vs Q hr hg ⟨q', x, T, hv, hT, hl, hQ⟩ => ?_
  subst hv
  have C : Ctx (cxOf CX0 P w K mg base N qual (defScope st) f cdv A outer s H E0).nox [] (fun _ _ _ => False) (fun _ => true) :=
    ⟨rfl, Sc.kind, fun _ _ => rfl, Sc.nd, rfl, by have := hr.un; show (A.deeper _).units + 100 < cLine; omega, hg, sys, blt, fun p hp hl => absurd hp (by simp), fun p hp h => absurd hp (by simp)⟩
  refine ⟨_, sndWp C hm, ?_⟩
  have e : L2.start N [.ref q', .int x] = [some (.ref q'), some (.int x)] := by
    unfold L2.start
    rw [hN]; rfl
  rw [e]
  exact wp_wp hT hl fun b H' s1 hb => hQ b H' s1 hb

/-! ### counted -/
def cntS : E := .b1 .sorted (.var 1)
def cntC : E := .cmp .notin (.var 7) (.var 6)
def cntH : E := .slo (.idx (.var 0) (.cst (.int 1))) (.var 2)
section
variable {K : Frag} {Φ : Tbl}
def tCM : TE := tCallG wpSp (tCons (tVar 6) (tCons (tVar 7) tNil))
def tCV : TE := tAdd (tDGet2 (tVar 5) (tVar 8) (tC (.int 0))) (tDGet (tVar 3) (tVar 6))
def tC3 (K : Frag) (Φ : Tbl) : TS := tSeq (tIfS (tT K Φ [] cntC) (tSeq (tAsg tCM (gName 8)) (tSeq (sDPut (tVar 5) (tVar 8) tCV) tNext)) tNext) tNext
def tC2 (K : Frag) (Φ : Tbl) : TS := tSeq (tFor (tI K Φ [] (.of (.var 4))) (gName 7) (tC3 K Φ)) tNext
def tC1 (K : Frag) (Φ : Tbl) : TS := tSeq (tAsg tDNewT (gName 5)) (tSeq (tLock (tFor (iKeys (tVar 3)) (gName 6) (tC2 K Φ))) (tSeq (tAsg (tVar 5) (gName 3)) tNext))
def tCntB (K : Frag) (Φ : Tbl) : TS := tSeq (tAsg (tDispT1 (tCB (rTupL K) (tCons (tE K Φ [] cntS) tNil)) (tC (.int 1))) (gName 3)) (tSeq (tFor (tI K Φ [] (.of cntH)) (gName 4) (tC1 K Φ))
  (tSeq (tRet (tCB (rSum K) (tCons (tLockE (tLc (iKeys (tVar 3)) (gName 6) tYes (tDGet (tVar 3) (tVar 6)) [6])) tNil))) tNext))
theorem cnt_cond {a b c d e f : Option Sl} {T : List Int} {x : Int} {Q : R → Env → Prop} (h : Q (.val (.bool (!T.contains x))) [a, b, c, d, e, f, some (.val (ftTup T)), some (.val (.int x)), none]) :
    wpE Φ cntC [a, b, c, d, e, f, some (.val (ftTup T)), some (.val (.int x)), none] Q := by
  unfold cntC ftTup at *
  walk_at "wps"
  refine ft_mem ?_
  exact h
theorem cnt_people {a b c d e f g h : Option Sl} {l : List Int} {Q : List PyData → Env → Prop} (k : Q (l.map .int) [a, b, c, d, some (.val (ftTup l)), e, f, g, h]) :
    wpI Φ (.of (.var 4)) [a, b, c, d, some (.val (ftTup l)), e, f, g, h] Q := by
  unfold ftTup at *
  walk_at "wps"
  exact k
theorem cnt_one {H : Hp} {D : L2.Ends} {a0 a1 a2 a4 a8 : Option V} {p q q' : Addr} {T : List Int} {x : Int} {c : Nat} {ws ks : List (List Int × Nat)} (hT : H q' = some (.tup (T.map .int))) (hp : Rd H p (.dT (kvW ws))) (hq : H q = some (.dT (kvW ks)))
    (hg : getW ws T = some c) (hnd : (ks.map (·.1)).Nodup) (hl : T.length ≤ 1000) (hks : ks.length < sizeLine)
    (k1 : x ∉ T → ∀ a8 H', Off q H H' → H' q = some (.dT (kvW (addW ks (fsort (T ++ [x])) c))) → D.nx [a0, a1, a2, some (.ref p), a4, some (.ref q), some (.ref q'), some (.int x), a8] H')
    (k2 : x ∈ T → ∀ H', Same H H' → D.nx [a0, a1, a2, some (.ref p), a4, some (.ref q), some (.ref q'), some (.int x), a8] H') :
    tC3 K Φ D [a0, a1, a2, some (.ref p), a4, some (.ref q), some (.ref q'), some (.int x), a8] H := by
  have sn : Rep K [] ⟨H, H, [], []⟩ [none, none, none, none, none, none, some (.val (ftTup T)), some (.val (.int x)), none] [a0, a1, a2, some (.ref p), a4, some (.ref q), some (.ref q'), some (.int x), a8] H H :=
    snap (Same.refl H) rfl fun i s e => by
      rcases i with _ | _ | _ | _ | _ | _ | _ | _ | _ | i <;> simp [slot] at e
      · subst e; exact ⟨_, _, rfl, rfl, .tup (.inl (.inl hT)) (DenAll.of_ints T)⟩
      · subst e; exact ⟨_, _, rfl, rfl, .int x⟩
  show tT K Φ [] cntC _ H _
  refine ⟨⟨H, H, [], []⟩, H, _, fun b _ => b = !T.contains x, sn, cnt_cond rfl, fun b H1 F1 env1 m1 R1 hb => ?_⟩
  have s1 := snap_same R1
  by_cases hc : x ∈ T
  · have hb2 : b = false := by rw [hb]; simp [hc]
    rw [hb2]
    show if false = true then _ else _
    rw [if_neg Bool.false_ne_true]
    exact k2 hc H1 s1
  have hb2 : b = true := by rw [hb]; simp [hc]
  rw [hb2]
  show if true = true then _ else _
  rw [if_pos rfl]
  have rd : ∀ {H2 : Hp}, Same H H2 → Rd H2 p (.dT (kvW ws)) := fun s => by
    rcases hp with h | ⟨o, h⟩
    · exact .inl (s _ _ h)
    · exact .inr ⟨o, s _ _ h⟩
  show ∃ v, _ ∧ _
  refine ⟨.ref q', rfl, .int x, rfl, q', x, T, rfl, s1 _ _ hT, hl, fun b H2 s2 hb => ?_⟩
  have s12 : Same H H2 := fun c o e => s2 c o (s1 c o e)
  have hq2 : H2 q = some (.dT (kvW ks)) := s12 _ _ hq
  have hkT : (keyI T).map kV = T.map V.int := keyI_kV T
  have hm : H2 b = some (.tup ((keyI (fsort (T ++ [x]))).map kV)) := by rw [keyI_kV]; exact hb
  refine ⟨.ref q, rfl, q, rfl, .inr ⟨_, .inl hq2⟩, .ref b, rfl, _, DGet.t hq2 hm, .ref p, rfl, .ref q', rfl, p, .int (c : Nat), rfl, .inr ⟨_, keyI T, q', rd s12, rfl, by rw [hkT]; exact s12 _ _ hT, by rw [valV_kvW, hg]; rfl⟩, ((getW ks (fsort (T ++ [x]))).getD 0 : Nat), (c : Nat), ?_, rfl, ?_⟩
  · rw [valV_kvW]
    cases getW ks (fsort (T ++ [x])) <;> rfl
  · refine ⟨.ref q, rfl, .ref b, rfl, q, _, rfl, DPut.t hq2 hm (by unfold kvW; rw [List.length_map]; exact hks), ?_⟩
    rw [← Int.natCast_add, putK_kvW hnd]
    exact k1 hc _ _ ((Off.of s12).trans Off.upd) upd_same
/-- ways to take one more post, of some people -/
def pfx (R : List (List Int)) (T l : List Int) : Nat := ((l.filter fun x => !T.contains x).map fun x => cntF R (T ++ [x])).sum
theorem pfx_snoc (R : List (List Int)) (T l : List Int) (x : Int) : pfx R T (l ++ [x]) = pfx R T l + if x ∈ T then 0 else cntF R (T ++ [x]) := by
  unfold pfx
  rw [List.filter_append, List.map_append, List.sum_append]
  congr 1
  by_cases h : x ∈ T
  · rw [if_pos h, List.filter_cons, if_neg (by simpa using h)]; rfl
  · rw [if_neg h, List.filter_cons, if_pos (by simpa using h)]; simp
theorem rd_off {H H' : Hp} {p q : Addr} {u : HO} (h : Off q H H') (n : p ≠ q) (r : Rd H p u) : Rd H' p u := by
  rcases r with r | ⟨o, r⟩
  · exact .inl (h _ _ n r)
  · exact .inr ⟨o, h _ _ n r⟩
theorem cnt_inner {F H : Hp} {D : L2.Ends} {a0 a1 a2 a7 a8 : Option V} {pv : V} {p q q' : Addr} {T l : List Int} {c B : Nat} {R : List (List Int)} {ws ks : List (List Int × Nat)} (m : Same F H) (pd : Den K F pv (ftTup l)) (fq : F q = none)
    (hT : H q' = some (.tup (T.map .int))) (hp : Rd H p (.dT (kvW ws))) (npq : p ≠ q) (hq : H q = some (.dT (kvW ks))) (hg : getW ws T = some c) (hnd : (ks.map (·.1)).Nodup) (hl : T.length ≤ B) (hB : B ≤ 900) (hks : ks.length + l.length < sizeLine)
    (hkB : ∀ S ∈ ks.map (·.1), S.length ≤ B + 1)
    (k : ∀ a7 a8 H' ks', Off q H H' → H' q = some (.dT (kvW ks')) → ks'.length ≤ ks.length + l.length → (ks'.map (·.1)).Nodup → (∀ S ∈ ks'.map (·.1), S.length ≤ B + 1) → wsum R ks' = wsum R ks + c * pfx R T l → D.nx [a0, a1, a2, some (.ref p), some pv, some (.ref q), some (.ref q'), a7, a8] H') :
    tC2 K Φ D [a0, a1, a2, some (.ref p), some pv, some (.ref q), some (.ref q'), a7, a8] H := by
  show tI K Φ [] (.of (.var 4)) _ H _
  refine ⟨⟨H, F, [], []⟩, F, [none, none, none, none, some (.val (ftTup l)), none, none, none, none], fun items _ => items = l.map .int, snap m rfl fun i s e => by
      rcases i with _ | _ | _ | _ | _ | _ | _ | _ | _ | i <;> simp [slot] at e
      subst e; exact ⟨_, _, rfl, rfl, pd⟩, cnt_people rfl, fun items J H1 F1 env1 m1 R1 gvs hit => ?_⟩
  subst hit
  have s1 := snap_same R1
  have f1q : F1 q = none := snap_none R1 hq fq
  have nq' : q' ≠ q := fun z => by rw [z, hq] at hT; cases hT
  obtain ⟨Y, wk, hy⟩ := gvs
  refine for_it (D := { D with nx := tNext D }) wk (fun n σ' H' => ∃ a7 a8 ks', σ' = [a0, a1, a2, some (.ref p), some pv, some (.ref q), some (.ref q'), a7, a8] ∧ Off q H H' ∧ Same F1 H' ∧ H' q = some (.dT (kvW ks')) ∧ ks'.length ≤ ks.length + n ∧ (ks'.map (·.1)).Nodup ∧
      (∀ S ∈ ks'.map (·.1), S.length ≤ B + 1) ∧ wsum R ks' = wsum R ks + c * pfx R T (l.take n)) ?_ ?_ ?_ ?_
  · exact ⟨a7, a8, ks, rfl, Off.of s1, R1.sub, s1 _ _ hq, Nat.le_refl _, hnd, hkB, by rw [List.take_zero]; rfl⟩
  · rintro n σ' H' _ ⟨_, _, _, _, _, h, _⟩
    exact h
  · rintro n x σ' H' H'' hn ⟨b7, b8, ks', rfl, off, sm, hq', hkl, hnd', hkB', hw⟩ y
    obtain ⟨d, hd, ho⟩ := hy n H' x H'' hn sm y
    have ho := ho F1 (Same.refl F1) sm
    obtain ⟨v, rfl, hv⟩ := map_some hd
    have hnl := (List.getElem?_eq_some_iff.mp hv).1
    have htk : l.take (n + 1) = l.take n ++ [v] := by rw [List.take_add_one, hv]; rfl
    have hpx := pfx_snoc R T (l.take n) v
    rw [← htk] at hpx
    obtain ⟨rfl, rfl⟩ : x = .int v ∧ H'' = H' := by
      cases ho with
      | old dn => cases dn; exact ⟨rfl, rfl⟩
    show tC3 K Φ _ [a0, a1, a2, some (.ref p), some pv, some (.ref q), some (.ref q'), some (.int v), b8] H''
    refine cnt_one (off _ _ nq' hT) (rd_off off npq hp) hq' hg hnd' (by omega) (by omega) (fun n1 c8 H2 off2 e2 => ?_) fun n1 H2 s2 => ?_
    · rw [if_neg n1] at hpx
      refine ⟨_, _, _, rfl, off.trans off2, off2.same sm f1q, e2, ?_, addW_nd hnd', fun S hS => ?_, ?_⟩
      · have := addW_len (ws := ks') (T := fsort (T ++ [v])) (c := c)
        omega
      · rcases addW_mem hS with hS | rfl
        · exact hkB' S hS
        · rw [(fsort_perm _).length_eq, List.length_append]
          show T.length + 1 ≤ B + 1
          omega
      · rw [wsum_add hnd', hw, hpx, cntF_sort, Nat.mul_add]
        omega
    · rw [if_pos n1] at hpx
      exact ⟨_, _, ks', rfl, off.trans (Off.of s2), fun c o e => s2 c o (sm c o e), s2 _ _ hq', by omega, hnd', hkB', by rw [hw, hpx]; rfl⟩
  · rintro σ' H' ⟨b7, b8, ks', rfl, off, sm, hq', hkl, hnd', hkB', hw⟩
    rw [List.length_map] at hkl hw
    rw [List.take_length] at hw
    exact k b7 b8 H' ks' off hq' hkl hnd' hkB' hw
theorem cnt_mid {F H : Hp} {D : L2.Ends} {a0 a1 a2 a6 a7 a8 : Option V} {pv : V} {p q : Addr} {l : List Int} {B : Nat} {R : List (List Int)} {ws : List (List Int × Nat)} (m : Same F H) (pd : Den K F pv (ftTup l)) (fp : F p = none) (fq : F q = none)
    (hp : H p = some (.dT (kvW ws))) (hq : H q = some (.dT [])) (npq : p ≠ q) (hl : l.length ≤ 10) (hwn : (ws.map (·.1)).Nodup) (hwB : ∀ S ∈ ws.map (·.1), S.length ≤ B) (hB : B ≤ 900) (hkl : ws.length * 10 < sizeLine)
    (k : ∀ a6 a7 a8 H' ks, Same F H' → H' p = some (.dT (kvW ws)) → H' q = some (.dT (kvW ks)) → ks.length ≤ ws.length * 10 → (ks.map (·.1)).Nodup → (∀ S ∈ ks.map (·.1), S.length ≤ B + 1) → wsum R ks = wsum (l :: R) ws → D.nx [a0, a1, a2, some (.ref p), some pv, some (.ref q), a6, a7, a8] H') :
    tLock (tFor (iKeys (tVar 3)) (gName 6) (tC2 K Φ)) D [a0, a1, a2, some (.ref p), some pv, some (.ref q), a6, a7, a8] H := by
  refine ⟨p, _, hp, trivial, fun od => ?_⟩
  refine ⟨.ref p, rfl, p, od, rfl, .inr ⟨kvW ws, upd_same, ?_⟩⟩
  refine for_it (D := _) walk_keysT (fun n σ' H' => ∃ a6 a7 a8 ks, σ' = [a0, a1, a2, some (.ref p), some pv, some (.ref q), a6, a7, a8] ∧ Same F H' ∧ H' p = some (.frz od (.dT (kvW ws))) ∧ H' q = some (.dT (kvW ks)) ∧ ks.length ≤ n * 10 ∧ (ks.map (·.1)).Nodup ∧
      (∀ S ∈ ks.map (·.1), S.length ≤ B + 1) ∧ wsum R ks = wsum (l :: R) (ws.take n)) ?_ ?_ ?_ ?_
  · exact ⟨a6, a7, a8, [], rfl, same_fresh m fp, upd_same, by rw [upd_ne npq.symm]; exact hq, Nat.le_refl _, List.nodup_nil, fun S hS => by simp at hS, rfl⟩
  · rintro n σ' H' _ ⟨_, _, _, _, _, _, h, _⟩
    exact h
  · rintro n x σ' H' H'' hn ⟨b6, b7, b8, ks, rfl, sm, hp', hq', hkl', hnd, hkB, hw⟩ ⟨rfl, key, v, q', hkv, rfl, ht⟩
    obtain ⟨⟨T, c⟩, hTc, e⟩ : ∃ t : List Int × Nat, ws[n]? = some t ∧ (keyI t.1, V.int (t.2 : Nat)) = (key, v) := by
      unfold kvW at hkv
      rw [List.getElem?_map] at hkv
      cases h : ws[n]? with
      | none => rw [h] at hkv; cases hkv
      | some t => rw [h] at hkv; exact ⟨t, rfl, Option.some.inj hkv⟩
    injection e with e1 e2
    subst e1; subst e2
    have hmem : (T, c) ∈ ws := List.mem_of_getElem? hTc
    have hTl := hwB T (List.mem_map.mpr ⟨_, hmem, rfl⟩)
    rw [keyI_kV] at ht
    have hnw := (List.getElem?_eq_some_iff.mp hTc).1
    have htk : ws.take (n + 1) = ws.take n ++ [(T, c)] := by rw [List.take_add_one, hTc]; rfl
    show tC2 K Φ _ [a0, a1, a2, some (.ref p), some pv, some (.ref q), some (.ref q'), b7, b8] H''
    refine cnt_inner (R := R) sm pd fq ht (.inr ⟨od, hp'⟩) npq hq' (getW_mem hwn hmem) hnd hTl hB (by omega) hkB fun c7 c8 H2 ks2 off e2 hl2 hnd2 hkB2 hw2 => ?_
    refine ⟨_, c7, c8, ks2, rfl, off.same sm fq, off _ _ npq hp', e2, by omega, hnd2, hkB2, ?_⟩
    rw [hw2, hw, htk]
    unfold wsum
    rw [List.map_append, List.sum_append]
    show _ = _ + (c * cntF (l :: R) T + 0)
    rfl
  · rintro σ' H' ⟨b6, b7, b8, ks, rfl, sm, hp', hq', hkl', hnd, hkB, hw⟩
    have hlen : (kvW ws).length = ws.length := List.length_map ..
    rw [hlen] at hkl' hw
    rw [List.take_length] at hw
    refine ⟨hp', k b6 b7 b8 _ ks (same_fresh sm fp) upd_same (by rw [upd_ne npq.symm]; exact hq') hkl' hnd hkB hw⟩
theorem cnt_house {a b c d e f g : Option Sl} {n post : Nat} {ps : List (List Int)} {Q : List PyData → Env → Prop} (hpost : post ≤ ps.length) (h : Q ((ps.drop post).map ftTup) [some (.val (ftHouse n ps)), a, some (.val (.int (post : Nat))), b, c, d, e, f, g]) :
    wpI Φ (.of cntH) [some (.val (ftHouse n ps)), a, some (.val (.int (post : Nat))), b, c, d, e, f, g] Q := by
  unfold cntH ftHouse at *
  walk_at "wps"
  refine stp_nT (n := 1) rfl ?_
  walk_at "wps"
  rw [cut_drop (by omega) (by rw [List.length_map]; omega), Int.toNat_natCast, ← List.map_drop]
  exact h
theorem cnt_key {a b c d e f g h : Option Sl} {T : List Int} {Q : R → Env → Prop} (hl : T.length ≤ 1000) (k : Q (.own (.list ((fsort T).map .int))) [a, some (.val (ftTup T)), b, c, d, e, f, g, h]) :
    wpE Φ cntS [a, some (.val (ftTup T)), b, c, d, e, f, g, h] Q := by
  unfold cntS ftTup at *
  walk_at "wps"
  exact ⟨by rw [List.length_map]; show _ ≤ 16777216; omega, .inl ⟨T, ft_intsOf _, k⟩⟩
theorem sum_kv : ∀ ws : List (List Int × Nat), (ws.map fun t => (t.2 : Int)).sum = (wsum [] ws : Nat)
  | [] => rfl
  | t :: ws => by
    have ih := sum_kv ws
    unfold wsum at ih ⊢
    rw [List.map_cons, List.sum_cons, List.map_cons, List.sum_cons, ih]
    show _ = ((t.2 * 1 + _ : Nat) : Int)
    omega
/-- all numbers, added -/
theorem cnt_sum {F H : Hp} {Q : VK} {a0 a1 a2 a4 a5 a6 a7 a8 : Option V} {p : Addr} {ws : List (List Int × Nat)} (m : Same F H) (fp : F p = none) (hp : H p = some (.dT (kvW ws))) (hwn : (ws.map (·.1)).Nodup) (hl : ws.length < sizeLine)
    (k : ∀ H', Same F H' → Q (.int (wsum [] ws : Nat)) H') : tCB (rSum K) (tCons (tLockE (tLc (iKeys (tVar 3)) (gName 6) tYes (tDGet (tVar 3) (tVar 6)) [6])) tNil) [a0, a1, a2, some (.ref p), a4, a5, a6, a7, a8] H Q := by
  show tLockE _ _ _ _
  refine ⟨p, _, hp, trivial, fun od => ?_⟩
  refine ⟨.ref p, rfl, p, od, rfl, .inr ⟨kvW ws, upd_same, fun b hb => ?_⟩⟩
  have npb : p ≠ b := fun z => by rw [← z, upd_same] at hb; cases hb
  have s0 : Same F (upd H p (.frz od (.dT (kvW ws)))) := same_fresh m fp
  have fb : F b = none := none_sub s0 hb
  have hlen : (kvW ws).length = ws.length := List.length_map ..
  refine ⟨fun i r H' => i + r = ws.length ∧ H' p = some (.frz od (.dT (kvW ws))) ∧ H' b = some (.lst ((ws.take i).map fun t => V.int (t.2 : Nat))) ∧ Same F H', ⟨ws.length, by omega, by rw [upd_ne npb]; exact upd_same, upd_same, same_fresh s0 fb⟩, ?_⟩
  rintro i r H' ⟨hi, hp', hb', sm⟩
  by_cases hr : r = 0
  · subst hr
    refine .inl ⟨⟨hp', by omega⟩, hp', ?_⟩
    have e : ws.take i = ws := List.take_of_length_le (by omega)
    rw [e] at hb'
    refine ⟨b, ws.map fun t => (t.2 : Int), rfl, .inl (.inl ?_), ?_⟩
    · rw [upd_ne npb.symm, List.map_map]; exact hb'
    · rw [sum_kv]
      exact k _ (same_fresh sm fp)
  · refine .inr ⟨⟨hp', by omega⟩, fun H2 => i + 1 + (r - 1) = ws.length ∧ H2 p = some (.frz od (.dT (kvW ws))) ∧ H2 b = some (.lst ((ws.take (i + 1)).map fun t => V.int (t.2 : Nat))) ∧ Same F H2, fun H2 h2 => ⟨r - 1, by omega, h2⟩, ?_⟩
    rintro x H2 ⟨rfl, key, v, q', hkv, rfl, ht⟩
    obtain ⟨⟨T, c⟩, hTc, e⟩ : ∃ t : List Int × Nat, ws[i]? = some t ∧ (keyI t.1, V.int (t.2 : Nat)) = (key, v) := by
      unfold kvW at hkv
      rw [List.getElem?_map] at hkv
      cases h : ws[i]? with
      | none => rw [h] at hkv; cases hkv
      | some t => rw [h] at hkv; exact ⟨t, rfl, Option.some.inj hkv⟩
    injection e with e1 e2
    subst e1; subst e2
    have hmem : (T, c) ∈ ws := List.mem_of_getElem? hTc
    have htk : ws.take (i + 1) = ws.take i ++ [(T, c)] := by rw [List.take_add_one, hTc]; rfl
    refine ⟨rfl, ?_⟩
    refine ⟨.ref p, rfl, .ref q', rfl, p, .int (c : Nat), rfl, .inr ⟨_, keyI T, q', .inr ⟨od, hp'⟩, rfl, ht, by rw [valV_kvW, getW_mem hwn hmem]; rfl⟩, _, hb', by rw [List.length_map, List.length_take]; omega, by omega, ?_, ?_, same_fresh sm fb⟩
    · rw [upd_ne npb]; exact hp'
    · rw [upd_same, htk, List.map_append]; rfl
/-- the def's body -/
theorem cnt_wp {F H : Hp} {D : L2.Ends} {hv gv iv : V} {n post : Nat} {g : List Int} {ps : List (List Int)} (m : Same F H) (hd : Den K F hv (ftHouse n ps)) (gd : Den K F gv (ftTup g)) (pd : Den K F iv (.int (post : Nat))) (hpost : post ≤ ps.length) (h6 : ps.length ≤ 6) (h10 : ∀ l ∈ ps, l.length ≤ 10) (hg : g.length ≤ 500)
    (k : ∀ H', Same H H' → D.rt (.int (cntF (ps.drop post) g : Nat)) H') : tCntB K Φ D [some hv, some gv, some iv, none, none, none, none, none, none] H := by
  intro p hpn
  have s00 : Same H (upd H p (.dT [])) := same_add hpn
  have sn : Rep K [] ⟨upd H p (.dT []), upd H p (.dT []), [], []⟩ [none, some (.val (ftTup g)), none, none, none, none, none, none, none] [some hv, some gv, some iv, none, none, none, none, none, none] (upd H p (.dT [])) (upd H p (.dT [])) :=
    snap (Same.refl _) rfl fun i s e => by
      rcases i with _ | _ | _ | _ | _ | _ | _ | _ | _ | i <;> simp [slot] at e
      subst e; exact ⟨_, _, rfl, rfl, gd.mono fun c o e => s00 c o (m c o e)⟩
  show tE K Φ [] cntS _ _ _
  refine ⟨⟨upd H p (.dT []), upd H p (.dT []), [], []⟩, upd H p (.dT []), _, fun r _ => r = .own (.list ((fsort g).map .int)), sn, cnt_key (by omega) rfl, fun v H2 F2 r env2 m2 R2 rd hr => ?_⟩
  subst hr
  obtain ⟨a, rfl, fa, ⟨vs, ha, ta⟩, _⟩ := rd
  have hvs := ta.ints
  subst hvs
  have s2 := snap_same R2
  refine ⟨a, _, rfl, .inl (.inl ha), fun b hb => ?_⟩
  have h2p : H2 p = some (.dT []) := s2 _ _ upd_same
  have npb : p ≠ b := ne_of_none h2p hb
  refine ⟨by rw [upd_ne npb]; exact h2p, keyI (fsort g), b, rfl, by rw [keyI_kV]; exact upd_same, ?_⟩
  have sb : Same H (upd H2 b (.tup ((fsort g).map V.int))) := fun c o e => (same_add hb) c o (s2 c o (s00 c o e))
  have s0 : Same H (upd (upd H2 b (.tup ((fsort g).map V.int))) p (.dT [(keyI (fsort g), .int 1)])) := same_fresh sb hpn
  generalize hH1 : upd (upd H2 b (.tup ((fsort g).map V.int))) p (.dT [(keyI (fsort g), .int 1)]) = H1 at s0
  have hp1 : H1 p = some (.dT (kvW [(fsort g, 1)])) := by rw [← hH1]; exact upd_same
  show tSeq _ _ _ [some hv, some gv, some iv, some (.ref p), none, none, none, none, none] H1
  show tI K Φ [] (.of cntH) [some hv, some gv, some iv, some (.ref p), none, none, none, none, none] H1 _
  have fp : F p = none := none_sub m hpn
  refine ⟨⟨H1, H, [], []⟩, H, [some (.val (ftHouse n ps)), none, some (.val (.int (post : Nat))), none, none, none, none, none, none], fun items _ => items = (ps.drop post).map ftTup, snap s0 rfl fun i s e => by
      rcases i with _ | _ | _ | _ | _ | _ | _ | _ | _ | i <;> simp [slot] at e
      · subst e; exact ⟨_, _, rfl, rfl, hd.mono m⟩
      · subst e; exact ⟨_, _, rfl, rfl, pd.mono m⟩, cnt_house hpost rfl, fun items J H3 F3 env3 m3 R3 gvs hit => ?_⟩
  subst hit
  have s3 := snap_same R3
  have f3p : F3 p = none := snap_none R3 hp1 hpn
  obtain ⟨Y, wk, hy⟩ := gvs
  have hdl : (ps.drop post).length ≤ 6 := by rw [List.length_drop]; omega
  refine for_it (D := _) wk (fun i σ' H' => ∃ p ws a4 a5 a6 a7 a8, σ' = [some hv, some gv, some iv, some (.ref p), a4, a5, a6, a7, a8] ∧ Same F3 H' ∧ F3 p = none ∧ H' p = some (.dT (kvW ws)) ∧ ws.length ≤ 10 ^ i ∧ (ws.map (·.1)).Nodup ∧
      (∀ S ∈ ws.map (·.1), S.length ≤ g.length + i) ∧ wsum ((ps.drop post).drop i) ws = cntF (ps.drop post) g) ?_ ?_ ?_ ?_
  · refine ⟨p, [(fsort g, 1)], none, none, none, none, none, rfl, R3.sub, f3p, s3 _ _ hp1, Nat.le_refl _, by simp, fun S hS => ?_, ?_⟩
    · have : S = fsort g := by simpa using hS
      rw [this, (fsort_perm g).length_eq]; omega
    · rw [List.drop_zero]
      unfold wsum
      rw [List.map_cons, List.map_nil, List.sum_cons, List.sum_nil, cntF_sort]
      omega
  · rintro i σ' H' _ ⟨_, _, _, _, _, _, _, _, h, _⟩
    exact h
  · rintro i x σ' H' H'' hi ⟨p, ws, a4, a5, a6, a7, a8, rfl, sm, fp, hp, hkl, hwn, hwB, hw⟩ y
    rw [List.length_map] at hi
    obtain ⟨d, hdd, ho⟩ := hy i H' x H'' (by rw [List.length_map]; exact hi) sm y
    obtain ⟨l, rfl, hl⟩ := map_some hdd
    have ho := ho F3 (Same.refl F3) sm
    obtain ⟨F4, m4, R4, dn⟩ := out_ok (snap (K := K) (σ := ([] : L2.St)) (env := []) sm rfl fun i s e => by simp [slot] at e) ho
    have dn : Den K F4 x (ftTup l) := dn
    have s4 := snap_same R4
    have f4p : F4 p = none := snap_none R4 hp fp
    intro q hqn
    have f4q : F4 q = none := none_sub R4.sub hqn
    have npq : p ≠ q := ne_of_none (s4 _ _ hp) hqn
    have hll : l.length ≤ 10 := h10 l (List.mem_of_mem_drop (List.mem_of_getElem? hl))
    have hpow : 10 ^ i ≤ 10 ^ 5 := Nat.pow_le_pow_right (by decide) (by omega)
    have hdr : (ps.drop post).drop i = l :: (ps.drop post).drop (i + 1) := by
      have := (List.getElem?_eq_some_iff.mp hl)
      rw [List.drop_eq_getElem_cons this.1, this.2]
    rw [hdr] at hw
    show tLock _ _ [some hv, some gv, some iv, some (.ref p), some x, some (.ref q), a6, a7, a8] (upd H'' q (.dT []))
    refine cnt_mid (ws := ws) (l := l) (B := g.length + i) (R := (ps.drop post).drop (i + 1)) (same_fresh R4.sub f4q) dn f4p f4q (by rw [upd_ne npq]; exact s4 _ _ hp) upd_same npq hll hwn hwB (by omega) (by rw [sizeLine_eq]; omega) fun b6 b7 b8 H5 ks sm5 hp5 hq5 hl5 hn5 hB5 hw5 => ?_
    refine ⟨.ref q, rfl, ?_⟩
    exact ⟨q, ks, some x, some (.ref q), b6, b7, b8, rfl, fun c o e => sm5 c o (m4 c o e), none_sub m4 f4q, hq5, by rw [Nat.pow_succ]; omega, hn5, hB5, hw5.trans hw⟩
  · rintro σ' H' ⟨p, ws, a4, a5, a6, a7, a8, rfl, sm, fp, hp, hkl, hwn, hwB, hw⟩
    rw [List.length_map] at hkl hw
    rw [List.drop_length] at hw
    have hpow : 10 ^ (ps.drop post).length ≤ 10 ^ 6 := Nat.pow_le_pow_right (by decide) (by omega)
    refine cnt_sum (K := K) sm fp hp hwn (by rw [sizeLine_eq]; omega) fun H5 s5 => ?_
    rw [hw]
    exact k _ fun c o e => s5 c o (m3 c o e)
end
/-! ### the text -/
def mC3 (N : List Str) (sc : Scope) (fb : Str → Bool) : List Stmt → Bool
  | [.If cE [.Assign [.Name m1 _] (.Call (.Name wp _) [.Name t1 _, .Name p1 _] [] _) _,
      .Assign [.Subscript (.Name l1 _) (.Name m2 _) _] (.BinOp (.Call (.Attribute (.Name l2 _) gt apos) [.Name m3 _, .Constant (.int z) _ _] [] cpos) .Add (.Subscript (.Name w1 _) (.Name t2 _) _) _) _] [] _] =>
    mE [] N [] sc fb cntC cE && mSt N sc fb 8 m1 && decide (wp = s_ "with_person") && gl sc wp && mVis N sc 6 t1 && mVis N sc 7 p1 && mVis N sc 5 l1 && mVis N sc 8 m2 && mVis N sc 5 l2 && decide (gt = s_ "get") && (apos.endLine == cpos.line) &&
    mVis N sc 8 m3 && decide (z = 0) && mVis N sc 3 w1 && mVis N sc 6 t2
  | _ => false
def mC2 (N : List Str) (sc : Scope) (fb : Str → Bool) : List Stmt → Bool
  | [.For (.Name o1 _) pE b3 [] _] => mSt N sc fb 7 o1 && notSet pE && mE [] N [] sc fb (.var 4) pE && mC3 N sc fb b3
  | _ => false
def mC1 (N : List Str) (sc : Scope) (fb : Str → Bool) : List Stmt → Bool
  | [.Assign [.Name l1 _] (.Dict [] [] _) _, .For (.Name t1 _) (.Name f2 _) b2 [] _, .Assign [.Name f3 _] (.Name l3 _) _] =>
    mSt N sc fb 5 l1 && mSt N sc fb 6 t1 && mVis N sc 3 f2 && mC2 N sc fb b2 && mSt N sc fb 3 f3 && mVis N sc 5 l3
  | _ => false
def mCnt (N : List Str) (sc : Scope) (fb : Str → Bool) : List Stmt → Bool
  | [.Assign [.Name f1 _] (.Dict [some (.Call (.Name tu _) [sE] [] _)] [.Constant (.int one) _ _] _) _, .For (.Name p1 _) hE b1 [] _,
      .Return (some (.Call (.Name su _) [.ListComp (.Subscript (.Name w2 _) (.Name t2 _) _) [⟨.Name t1 _, .Name w3 _, [], 0⟩] scope _] [] _)) _] =>
    mSt N sc fb 3 f1 && decide (tu = s_ "tuple") && gl sc tu && notStar sE && mE [] N [] sc fb cntS sE && decide (one = 1) && mSt N sc fb 4 p1 && notSet hE && mE [] N [] sc fb cntH hE && mC1 N sc fb b1 &&
    decide (su = s_ "sum") && gl sc su && blkC N sc scope (nmSl N [6]) && mVis N sc 3 w3 && mSt N (relS scope sc) (blkFb scope) 6 t1 && mVis N (relS scope sc) 3 w2 && mVis N (relS scope sc) 6 t2
  | _ => false
/-- with_person is there -/
def WpAt (X : Cx) : Prop := ∃ k f fd ps, X.mg (Str.ofString "with_person") = some (.ref f) ∧ PySem.W.keepIn X.K (.ref f) = true ∧ Binds X.K fd ps [] ∧ FnG X.prog X.w X.K X.mg X.base k f fd ps wpSp ∧ Room k X.A
section
variable {X : Cx} {Φ : Tbl} {fb : Str → Bool}
theorem sndC3 (C : Ctx X [] Φ fb) (W : WpAt X) {b : List Stmt} (h : mC3 X.N X.env.scope fb b = true) : PSs X b (tC3 X.K Φ) := by
  unfold mC3 at h
  split at h
  case h_2 => cases h
  simp only [Bool.and_eq_true, decide_eq_true_eq] at h
  obtain ⟨⟨⟨⟨⟨⟨⟨⟨⟨⟨⟨⟨⟨⟨h1, h2⟩, rfl⟩, h4⟩, h5⟩, h6⟩, h7⟩, h8⟩, h9⟩, rfl⟩, h11⟩, h12⟩, rfl⟩, h14⟩, h15⟩ := h
  obtain ⟨k, f, fd, ps, w1, w2, w3, w4, w5⟩ := W
  have hu : X.A.units + 1 < cLine := Nat.lt_of_le_of_lt (by omega) C.hu
  refine pss_cons (ps_if (sndE cntC _ X fb C rfl h1).pt (pss_cons (ps_setC C h2 (pe_callG w4 w5 C.gd (gl_ok h4) w1 w2 w3 (pa_cons (pv C h5) (pa_cons (pv C h6) pa_nil (star_cons rfl [] X.env)) (star_cons rfl _ X.env)) (by decide) (star_cons rfl _ X.env) (star_any rfl)) rfl)
    (pss_cons (ps_dput hu (pv C h7) (pv C h8) (pe_add (pe_dget2 hu (pv C h9) (pv C h12) pe_int ⟨rfl, rfl, h11, rfl⟩) (pe_dget hu (pv C h14) (pv C h15) fun _ _ => rfl)) swap_sub) pss_nil)) pss_nil) pss_nil
theorem sndC2 (C : Ctx X [] Φ fb) (W : WpAt X) {b : List Stmt} (h : mC2 X.N X.env.scope fb b = true) : PSs X b (tC2 X.K Φ) := by
  unfold mC2 at h
  split at h
  case h_2 => cases h
  simp only [Bool.and_eq_true] at h
  obtain ⟨⟨⟨h1, h2⟩, h3⟩, h4⟩ := h
  exact pss_cons (ps_for (by rw [C.xe]; exact PassesOwn.never) C.calm (i_of (sndE (.var 4) _ X fb C rfl h3).pe) (pg_nm C h1) (sndC3 C W h4) fun x => folded_ok h2 X.env x) pss_nil
theorem sndC1 (C : Ctx X [] Φ fb) (W : WpAt X) {b : List Stmt} (h : mC1 X.N X.env.scope fb b = true) : PSs X b (tC1 X.K Φ) := by
  unfold mC1 at h
  split at h
  case h_2 => cases h
  simp only [Bool.and_eq_true] at h
  obtain ⟨⟨⟨⟨⟨h1, h2⟩, h3⟩, h4⟩, h5⟩, h6⟩ := h
  refine pss_cons (ps_setC C h1 pe_dnewT rfl) (pss_cons (ps_lock (ps_for (by rw [C.xe]; exact PassesOwn.never) C.calm (pi_keys (pv C h3)) (pg_nm C h2) (sndC2 C W h4) fun x => folded_ok rfl X.env x)) (pss_cons (ps_setC C h5 (pv C h6) rfl) pss_nil))
theorem pe_cntLc (C : Ctx X [] Φ fb) {w2 t2 t1 w3 : Str} {p1 p2 p3 p4 p5 p6 : Pos} {scope : Scope} {vs : List Nat} (hv : (nmSl X.N [6]).map (·.2) = vs) (h13 : blkC X.N X.env.scope scope (nmSl X.N [6]) = true) (h14 : mVis X.N X.env.scope 3 w3 = true)
    (h15 : mSt X.N (relS scope X.env.scope) (blkFb scope) 6 t1 = true) (h16 : mVis X.N (relS scope X.env.scope) 3 w2 = true) (h17 : mVis X.N (relS scope X.env.scope) 6 t2 = true) :
    PE X (.ListComp (.Subscript (.Name w2 p1) (.Name t2 p2) p3) [⟨.Name t1 p4, .Name w3 p5, [], 0⟩] scope p6) (tLc (iKeys (tVar 3)) (gName 6) tYes (tDGet (tVar 3) (tVar 6)) vs) := by
  subst hv
  have hu : X.A.units + 1 < cLine := Nat.lt_of_le_of_lt (by omega) C.hu
  have hk := (blkOk_by h13).kind
  have CB : ∀ (s : Shared) (H : Hp) (D : Addr) (cl : List (Str × Addr)) (fp : List Addr), Ctx (X.blk s H scope (compEnvC scope cl D X.env) fp) [] Φ (blkFb scope) := fun s H D cl fp => C.blk hk
  exact pe_lc C.calm C.nd (pi_keys (pv C h14)) (blkOk_by h13) (fun s H D cl fp => pg_nm (CB s H D cl fp) h15) (fun s H D cl fp => pts_nil) (fun s H D cl fp => pe_dget (Nat.lt_of_le_of_lt (by omega) (CB s H D cl fp).hu) (pv (CB s H D cl fp) h16) (pv (CB s H D cl fp) h17) fun _ _ => rfl) fun x => folded_ok rfl X.env x
theorem boot_sum : bootBuiltins (Str.ofString "sum") = some (.builtin "sum") := by decide +kernel
theorem sndCnt (C : Ctx X [] Φ fb) (W : WpAt X) {b : List Stmt} (h : mCnt X.N X.env.scope fb b = true) : PSs X b (tCntB X.K Φ) := by
  unfold mCnt at h
  split at h
  case h_2 => cases h
  simp only [Bool.and_eq_true, decide_eq_true_eq] at h
  obtain ⟨⟨⟨⟨⟨⟨⟨⟨⟨⟨⟨⟨⟨⟨⟨⟨h1, rfl⟩, h3⟩, h4⟩, h5⟩, rfl⟩, h7⟩, h8⟩, h9⟩, h10⟩, rfl⟩, h12⟩, h13⟩, h14⟩, h15⟩, h16⟩, h17⟩ := h
  have hu : X.A.units + 1 < cLine := Nat.lt_of_le_of_lt (by omega) C.hu
  have hk := (blkOk_by h13).kind
  refine pss_cons (ps_setC C h1 (pe_dispT1 hu (pe_callTy tupleL (gl_ok h3) (C.blt "tuple" (by decide)) boot_tuple (pa_one (sndE cntS _ X fb C rfl h5).pe h4) (by decide) (by decide) (star_cons h4 [] X.env)) pe_int) rfl)
    (pss_cons (ps_for (by rw [C.xe]; exact PassesOwn.never) C.calm (i_of (sndE cntH _ X fb C rfl h9).pe) (pg_nm C h7) (sndC1 C W h10) fun x => folded_ok h8 X.env x)
    (pss_cons (ps_ret (pe_callB (cr_sum C.calm) (gl_ok h12) (C.blt "sum" (by decide)) boot_sum (pa_cons (pe_lock (pe_cntLc C (nmSl_snd _ _) h13 h14 h15 h16 h17)) pa_nil (star_cons rfl [] X.env)) (by decide) (by decide) (star_cons rfl [] X.env))) pss_nil))
end
/-! ### the def -/
def cntSp : Spec := fun ds Q => ∃ n ps g, ∃ post : Nat, ds = [ftHouse n ps, ftTup g, .int (post : Nat)] ∧ post ≤ ps.length ∧ ps.length ≤ 6 ∧ (∀ l ∈ ps, l.length ≤ 10) ∧ g.length ≤ 500 ∧ Q (.val (.int (cntF (ps.drop post) g : Nat))) []
theorem cnt_fn {P : Program} {w : World} {K : Frag} {mg : Str → Option Value} {base : Heap} {k : Nat} {f : Addr} {x qual : Str} {st : Stmt} {fd : FuncData} {N ps : List Str} {Φ : Tbl}
    (D : Fun K x qual st f fd) (Sc : FnScope N ps (defScope st)) (hps : ps.length = 3) (hN : N.length = 9) (sys : ∃ m, base.Ns sysModules m) (blt : ∀ x ∈ bltNames, mg (Str.ofString x) = none)
    (hm : mCnt N (defScope st) (fun _ => true) (defBody st) = true) (wp : ∃ f fd ps, mg (Str.ofString "with_person") = some (.ref f) ∧ PySem.W.keepIn K (.ref f) = true ∧ Binds K fd ps [] ∧ FnG P w K mg base k f fd ps wpSp) : FnG P w K mg base (k + 1) f fd ps (spOf K [false, false, false] cntSp) := by
  refine fn_g D Sc (fun vs H Q E h => h.1.trans hps.symm) fun cdv A outer s H vs Q hr hg ⟨hl, F, ds, m, ha, nd, Qs, hs, hk⟩ => ?_
  have C : Ctx (cxOf CX0 P w K mg base N qual (defScope st) f cdv A outer s H E0).nox [] Φ (fun _ => true) :=
    ⟨rfl, Sc.kind, fun _ _ => rfl, Sc.nd, rfl, by have := hr.un; show (A.deeper _).units + 100 < cLine; omega, hg, sys, blt, fun p hp hl => absurd hp (by simp), fun p hp h => absurd hp (by simp)⟩
  obtain ⟨wf, wfd, wpr, w1, w2, w3, w4⟩ := wp
  refine ⟨_, sndCnt C ⟨k, wf, wfd, wpr, w1, w2, w3, w4, hr⟩ hm, ?_⟩
  obtain ⟨n, pl, g, post, rfl, hp, h6, h10, hgl, hQ⟩ := hs
  match vs, hl, ha with
  | [hv, gv, iv], _, ha =>
    have e : L2.start N [hv, gv, iv] = [some hv, some gv, some iv, none, none, none, none, none, none] := by
      unfold L2.start
      rw [hN]; rfl
    rw [e]
    refine cnt_wp m ha.1 ha.2.1 ha.2.2.1 hp h6 h10 hgl fun H' s1 => ?_
    exact hk _ _ hQ (.int _) H' F (Same.refl F) (m.trans s1) (fun c o e _ => s1 c o e) (fun c o _ e => e) trivial (Den.int _)
end Co

set_option linter.all false
/-! Co41: the tidy house: the walk through the def. -/
namespace Co
open PySem PySem.Spec PyProof.Rows L2
local macro_rules | `(tactic| walk_at "wps") => `(tactic| simp -dsimp only [↓wpS, ↓wpE, ↓wpEs, ↓wpEs', ↓wpCs, ↓wpI, ↓callW, ↓okArgs, ↓sigOk, ↓inouts, ↓lents, ↓peeks, ↓peek, ↓pk, ↓slot, ↓setOwn, ↓setC, ↓freeze, ↓isOwn, ↓isIo, ↓slC, ↓isLst, ↓asV, ↓asS, ↓asVs, ↓asSs, ↓isT, ↓R.still, ↓setMany, ↓bindT, ↓wipeE, ↓unwipe, ↓binD, ↓intBin, ↓cmpD, ↓eqD, ↓ordD, ↓ordI, ↓startE, ↓endsOf, ↓ioOf, ↓newsOf, ↓Sl.r, ↓itemsOf, ↓slcD, ↓revD, ↓b1D, ↓b2D, ↓isNoneD, ↓noRefR, ↓noRef, ↓noRefs, ite_self, ↓isTy, ↓List.getElem?_cons_zero, ↓List.getElem?_cons_succ, ↓List.getElem?_nil, ↓Option.join_some, ↓Option.join_none, ↓Option.isSome_some, ↓Option.isSome_none, ↓List.set_cons_zero, ↓List.set_cons_succ, ↓List.replicate, ↓List.length_cons, ↓List.length_nil, ↓List.isEmpty_cons, ↓List.isEmpty_nil, ↓List.all_cons, ↓List.all_nil, ↓List.filterMap_cons, ↓List.filterMap_nil, ↓List.contains_cons, ↓List.contains_nil, ↓Bool.and_true, ↓Bool.true_and, ↓Bool.and_false, ↓Bool.false_and, ↓Bool.not_true, ↓Bool.not_false, ↓if_true, ↓sh_int, ↓sh_bool, ↓sh_none, ↓eqv_ii, ↓eqv_bb, ↓eqv_ss, ↓brn_true, ↓brn_false, brn_true, brn_false, ↓List.any_cons, ↓List.any_nil, ↓if_false, ↓ite_true, ↓ite_false, ↓true_and, ↓and_true, ↓Bool.false_eq_true, ↓reduceCtorEq, ↓decide_true, ↓decide_false, ↓List.map_cons, ↓List.map_nil, ↓Tg.slots, ↓List.nodup_cons, ↓List.nodup_nil, ↓List.not_mem_nil, ↓not_false_eq_true, ↓forall_const, ↓true_implies, ↓bI, Nat.reduceAdd, Nat.reduceSub, Nat.reduceEqDiff, Int.reduceLT, Int.reduceLE, Nat.reduceLT, Nat.reduceLeDiff, Int.reduceNeg, Nat.reduceBEq, ↓BEq.rfl, ↓beq_self_eq_true, ↓Bool.or_false, ↓Bool.or_true])

def pD2 (q : Int × Int) : PyData := .tuple [.int q.1, .int q.2]
/-- what is laid at a post -/
def tdA (sel : Int × Int → Bool) (P : List (Int × Int)) (k : Nat) : List Int := (P.filter fun q => decide (q.1 = (k : Int)) && sel q).map (·.2)
def tdL (sel : Int × Int → Bool) (P : List (Int × Int)) (n : Nat) : List (List Int) := (List.range n).map (tdA sel P)
theorem tdA_snoc {sel : Int × Int → Bool} {P : List (Int × Int)} {q : Int × Int} {k : Nat} : tdA sel (P ++ [q]) k = tdA sel P k ++ if q.1 = (k : Int) ∧ sel q = true then [q.2] else [] := by
  unfold tdA
  rw [List.filter_append, List.map_append, List.filter_cons, List.filter_nil]
  by_cases h : q.1 = (k : Int) ∧ sel q = true
  · rw [if_pos h, if_pos (by rw [Bool.and_eq_true, decide_eq_true_eq]; exact h)]; rfl
  · rw [if_neg h, if_neg (by rw [Bool.and_eq_true, decide_eq_true_eq]; exact h)]; rfl
theorem denAll_of {K : Frag} {F : Hp} : ∀ {vs : List V} {ds : List PyData}, vs.length = ds.length → (∀ (i : Nat) (v : V) (d : PyData), vs[i]? = some v → ds[i]? = some d → Den K F v d) → DenAll K F vs ds
  | [], [], _, _ => .nil
  | [], _ :: _, h, _ => by simp at h
  | _ :: _, [], h, _ => by simp at h
  | v :: vs, d :: ds, h, k => .cons (k 0 v d rfl rfl) (denAll_of (by simpa using h) fun i v d a b => k (i + 1) v d a b)
theorem atI_nat {α : Type} {xs : List α} {k : Nat} {x : α} (h : xs[k]? = some x) : L2.atI xs (k : Int) = some x := by
  have hl := (List.getElem?_eq_some_iff.mp h).1
  unfold L2.atI L2.ixN
  rw [if_pos (by omega), if_pos (by omega)]
  simpa using h
theorem den_pair {K : Frag} {F : Hp} {x : V} {a b : Int} (h : Den K F x (.tuple ([a, b].map .int))) : ∃ p, x = .ref p ∧ SqT K F p [.int a, .int b] := by
  cases h with
  | tup sq t =>
    have hvs := t.ints
    subst hvs
    exact ⟨_, rfl, sq⟩
def tdH : E := .idx (.var 0) (.cst (.int 1))
def tdH0 : E := .idx (.var 0) (.cst (.int 0))
def tdP : E := .call "pairs_of" [false, false] (.cons (.var 0) (.cons (.tup .nil) .nil))
def tdC : E := .notn (.call "find_with" [false, false, false, false] (.cons (.var 0) (.cons (.tup .nil) (.cons (.var 2) (.cons (.var 3) .nil)))))
section
variable {K : Frag} {Φ : Tbl}
def tTidF (K : Frag) (Φ : Tbl) : TE := tLc (tI K Φ [] (.of tdH)) (gName 2) tYes (tLst tNil) [2]
def tTidA (K : Frag) : TE := tBM K "list" rAppend (tOp (rIxL K) (tVar 1) (tVar 2)) (tCons (tVar 3) tNil)
def tTid2 (K : Frag) (Φ : Tbl) : TS := tSeq (tIfS (tT K Φ [] tdC) (tSeq (tDrop (tTidA K)) tNext) tNext) tNext
def tTidL (K : Frag) : TE := tLc (iList K (tVar 1)) (gName 4) tYes (tCB (rTupL K) (tCons (tVar 4) tNil)) [4]
def tTidR (K : Frag) (Φ : Tbl) : TE := tTup (tCons (tE K Φ [] tdH0) (tCons (tCB (rTupL K) (tCons (tTidL K) tNil)) tNil))
def tTidB (K : Frag) (Φ : Tbl) : TS := tSeq (tAsg (tTidF K Φ) (gName 1)) (tSeq (tFor (tI K Φ [] (.of tdP)) (gT K (.tp [2, 3])) (tTid2 K Φ)) (tSeq (tRet (tTidR K Φ)) tNext))
theorem td_house {n : Nat} {ps : List (List Int)} {a b c d : Option Sl} {Q : List PyData → Env → Prop} (h : Q (ps.map ftTup) [some (.val (ftHouse n ps)), a, b, c, d]) : wpI Φ (.of tdH) [some (.val (ftHouse n ps)), a, b, c, d] Q := by
  unfold tdH ftHouse at *
  walk_at "wps"
  refine stp_nT (n := 1) rfl ?_
  walk_at "wps"
  exact h
theorem td_first {n : Nat} {ps : List (List Int)} {a b c d : Option Sl} {Q : R → Env → Prop} (h : Q (.val (.int n)) [some (.val (ftHouse n ps)), a, b, c, d]) : wpE Φ tdH0 [some (.val (ftHouse n ps)), a, b, c, d] Q := by
  unfold tdH0 ftHouse at *
  walk_at "wps"
  refine stp_nT (n := 0) rfl ?_
  exact h
/-- the own lists: the outer at D, the inner ones at qs -/
def Cells (D : Addr) (qs : List Addr) (A : Nat → List Int) (H : Hp) : Prop := H D = some (.lst (qs.map .ref)) ∧ ∀ k q, qs[k]? = some q → H q = some (.lst ((A k).map .int))
theorem Cells.mono {D : Addr} {qs : List Addr} {A : Nat → List Int} {H H' : Hp} (h : Cells D qs A H) (s : Same H H') : Cells D qs A H' := ⟨s _ _ h.1, fun k q e => s _ _ (h.2 k q e)⟩
theorem Cells.put {D : Addr} {qs : List Addr} {A B : Nat → List Int} {H : Hp} {k : Nat} {q : Addr} (h : Cells D qs A H) (nd : qs.Nodup) (hD : D ∉ qs) (hq : qs[k]? = some q) (h1 : ∀ j, j ≠ k → B j = A j) : Cells D qs B (upd H q (.lst ((B k).map .int))) := by
  have hm : q ∈ qs := List.mem_of_getElem? hq
  refine ⟨by rw [upd_ne (fun (e : D = q) => hD (e ▸ hm))]; exact h.1, fun j p hp => ?_⟩
  by_cases e : j = k
  · subst e
    rw [hq] at hp; cases hp
    exact upd_same
  · have ne : p ≠ q := fun z => e (by
      have l1 := List.getElem?_eq_some_iff.mp hp
      have l2 := List.getElem?_eq_some_iff.mp hq
      exact (List.getElem_inj nd).mp (l1.2.trans (z.trans l2.2.symm)))
    rw [upd_ne ne, h1 j e]
    exact h.2 j p hp
theorem Cells.fresh {D : Addr} {qs : List Addr} {A : Nat → List Int} {H : Hp} {p : Addr} {o : HO} (h : Cells D qs A H) (n : H p = none) : Cells D qs A (upd H p o) := h.mono (same_add n)

/-- the new lists -/
theorem td_found {F H : Hp} {hv : V} {n : Nat} {ps : List (List Int)} {Q : VK} (m : Same F H) (hd : Den K F hv (ftHouse n ps)) (hl : ps.length ≤ 1000)
    (k : ∀ D qs H' F', Same F F' → Same F' H' → Same H H' → qs.length = ps.length → qs.Nodup → D ∉ qs → F' D = none → (∀ q ∈ qs, F' q = none) → Cells D qs (fun _ => []) H' → H D = none → (∀ q ∈ qs, H q = none) → Q (.ref D) H') :
    tTidF K Φ [some hv, none, none, none, none] H Q := by
  show tI K Φ [] (.of tdH) _ H _
  refine ⟨⟨H, F, [], []⟩, F, [some (.val (ftHouse n ps)), none, none, none, none], fun items _ => items = ps.map ftTup, snap m rfl fun i s e => by
      rcases i with _ | _ | _ | _ | _ | i <;> simp [slot] at e
      subst e; exact ⟨_, _, rfl, rfl, hd⟩, td_house rfl, fun items J H1 F1 env1 m1 R1 gvs hit => ?_⟩
  subst hit
  have s1 := snap_same R1
  obtain ⟨Y, wk, hy⟩ := gvs
  intro D hD
  have f1D : F1 D = none := none_sub R1.sub hD
  have hHD : H D = none := none_sub s1 hD
  refine lc_it wk (fun i H' => Same F1 H' ∧ Same H H' ∧ ∃ qs : List Addr, qs.length = i ∧ qs.Nodup ∧ D ∉ qs ∧ (∀ q ∈ qs, F1 q = none) ∧ Cells D qs (fun _ => []) H' ∧ ∀ q ∈ qs, H q = none) ?_ ?_ ?_ ?_
  · exact ⟨same_fresh R1.sub f1D, same_fresh s1 hHD, [], rfl, List.nodup_nil, by simp, by simp, ⟨upd_same, fun k q e => by simp at e⟩, by simp⟩
  · rintro i H' _ ⟨h, _⟩
    exact h
  · rintro i x H' H'' hi ⟨sm, sh, qs, hq1, hq2, hq3, hq4, hq5, hq6⟩ y
    rw [List.length_map] at hi
    obtain ⟨d, hdd, ho⟩ := hy i H' x H'' (by rw [List.length_map]; exact hi) sm y
    have ho := ho F1 (Same.refl F1) sm
    obtain ⟨F4, m4, R4, _⟩ := out_ok (snap (K := K) (σ := ([] : L2.St)) (env := []) sm rfl fun i s e => by simp [slot] at e) ho
    have s4 := snap_same R4
    refine ⟨rfl, ?_⟩
    refine ⟨by rw [sizeLine_eq]; exact Nat.zero_le _, fun q hq => ⟨qs.map .ref, ?_, by rw [List.length_map, sizeLine_eq]; omega, ?_⟩⟩
    · have c := (hq5.mono s4).fresh (o := .lst []) hq
      exact c.1
    have c := (hq5.mono s4).fresh (o := .lst []) hq
    have nq : q ∉ qs := fun z => by
      obtain ⟨k, hk, e⟩ := List.getElem_of_mem z
      have := (hq5.mono s4).2 k q (by rw [List.getElem?_eq_getElem hk, e])
      rw [hq] at this; cases this
    have nD : D ≠ q := fun z => by
      have := (hq5.mono s4).1
      rw [z, hq] at this; cases this
    have smF : Same F1 H'' := fun c o e => s4 c o (sm c o e)
    have smH : Same H H'' := fun c o e => s4 c o (sh c o e)
    have f1q : F1 q = none := none_sub smF hq
    have hHq : H q = none := none_sub smH hq
    refine ⟨same_fresh (same_fresh smF f1q) f1D, same_fresh (same_fresh smH hHq) hHD, qs ++ [q], by rw [List.length_append, hq1]; rfl, ?_, ?_, ?_, ⟨?_, ?_⟩, ?_⟩
    · rw [List.nodup_append]
      exact ⟨hq2, by simp, fun a ha b hb e => by
        rw [List.mem_singleton] at hb
        subst hb; subst e
        exact nq ha⟩
    · rw [List.mem_append, List.mem_singleton, not_or]; exact ⟨hq3, nD⟩
    · intro p hp
      rcases List.mem_append.mp hp with hp | hp
      · exact hq4 p hp
      · rw [List.mem_singleton] at hp; subst hp; exact f1q
    · rw [upd_same, List.map_append]; rfl
    · intro k p hp
      rw [List.getElem?_append] at hp
      by_cases hk : k < qs.length
      · rw [if_pos hk] at hp
        have hpm : p ∈ qs := List.mem_of_getElem? hp
        rw [upd_ne (fun (z : p = D) => hq3 (z ▸ hpm))]
        exact c.2 k p hp
      · rw [if_neg hk] at hp
        have : p = q := by
          rw [List.getElem?_singleton] at hp
          split at hp
          · exact (Option.some.inj hp).symm
          · cases hp
        subst this
        rw [upd_ne nD.symm]
        exact upd_same
    · intro p hp
      rcases List.mem_append.mp hp with hp | hp
      · exact hq6 p hp
      · rw [List.mem_singleton] at hp; subst hp; exact hHq
  · rintro H' ⟨sm, sh, qs, hq1, hq2, hq3, hq4, hq5, hq6⟩
    rw [List.length_map] at hq1
    exact k D qs H' F1 m1 sm sh hq1 hq2 hq3 f1D hq4 hq5 hHD hq6
/-- the told house -/
theorem td_told {F H0 H : Hp} {hv : V} {n : Nat} {ps : List (List Int)} {A : Nat → List Int} {D : Addr} {qs : List Addr} {y2 y3 : Option V} {Q : VK} (m : Same F H) (hd : Den K F hv (ftHouse n ps)) (s0 : Same H0 H) (hl : qs.length ≤ 1000) (hc : Cells D qs A H)
    (k : ∀ v H', Same H0 H' → (∀ K' : Hp, (∀ b o, H0 b = none → H' b = some o → K' b = some o) → Den K K' v (ftHouse n ((List.range qs.length).map A))) → Q v H') :
    tTidR K Φ [some hv, some (.ref D), y2, y3, none] H Q := by
  show tE K Φ [] tdH0 _ H _
  refine ⟨⟨H, F, [], []⟩, F, [some (.val (ftHouse n ps)), none, none, none, none], fun r _ => r = .val (.int n), snap m rfl fun i s e => by
      rcases i with _ | _ | _ | _ | _ | i <;> simp [slot] at e
      subst e; exact ⟨_, _, rfl, rfl, hd⟩, td_first rfl, fun v H1 F1 r env1 m1 R1 rd hr => ?_⟩
  subst hr
  have s1 := snap_same R1
  cases rd
  have hc1 := hc.mono s1
  have s01 : Same H0 H1 := fun c o e => s1 c o (s0 c o e)
  refine ⟨.ref D, rfl, D, rfl, ⟨_, .inl (.inl hc1.1)⟩, fun D2 hD2 => ?_⟩
  have h0D2 : H0 D2 = none := none_sub s01 hD2
  refine lc_it (walk_list (xs := qs.map .ref)) (fun i H' => Same H0 H' ∧ Cells D qs A H' ∧ ∃ bs : List Addr, bs.length = i ∧ H' D2 = some (.lst (bs.map .ref)) ∧ ∀ k b, bs[k]? = some b → b ≠ D2 ∧ H0 b = none ∧ H' b = some (.tup ((A k).map .int))) ?_ ?_ ?_ ?_
  · exact ⟨same_fresh s01 h0D2, hc1.fresh hD2, [], rfl, upd_same, fun k b e => by simp at e⟩
  · rintro i H' _ ⟨_, h, _⟩
    exact .inl (.inl h.1)
  · rintro i x H' H'' hi ⟨sh, hc', bs, hb1, hb2, hb3⟩ ⟨rfl, hx⟩
    rw [List.length_map] at hi
    rw [List.getElem?_map, List.getElem?_eq_getElem hi] at hx
    cases hx
    refine ⟨rfl, ?_⟩
    refine ⟨.ref qs[i], rfl, qs[i], (A i).map .int, rfl, .inl (.inl (hc'.2 i _ (List.getElem?_eq_getElem hi))), fun b hb => ?_⟩
    have nb : D2 ≠ b := ne_of_none hb2 hb
    have h0b : H0 b = none := none_sub sh hb
    have hD2' : ∀ k q, qs[k]? = some q → q ≠ D2 := fun k q e z => by
      have := hc1.2 k q e
      rw [z, hD2] at this; cases this
    have nDD : D ≠ D2 := fun z => by
      have := hc1.1
      rw [z, hD2] at this; cases this
    refine ⟨bs.map .ref, by rw [upd_ne nb]; exact hb2, by rw [List.length_map, hb1, sizeLine_eq]; omega, same_fresh (same_fresh sh h0b) h0D2, ⟨?_, fun k q e => ?_⟩, bs ++ [b], by rw [List.length_append, hb1]; rfl, by rw [upd_same, List.map_append]; rfl, fun k p hp => ?_⟩
    · rw [upd_ne nDD]; exact (hc'.fresh hb).1
    · rw [upd_ne (hD2' k q e)]; exact (hc'.fresh hb).2 k q e
    · rw [List.getElem?_append] at hp
      by_cases hk : k < bs.length
      · rw [if_pos hk] at hp
        obtain ⟨h1, h2, h3⟩ := hb3 k p hp
        refine ⟨h1, h2, ?_⟩
        rw [upd_ne h1, upd_ne (ne_of_none h3 hb)]
        exact h3
      · rw [if_neg hk] at hp
        rw [List.getElem?_singleton] at hp
        split at hp
        · rename_i hz
          have e := Option.some.inj hp
          subst e
          have ek : k = i := by omega
          subst ek
          refine ⟨nb.symm, h0b, ?_⟩
          rw [upd_ne nb.symm]
          exact upd_same
        · cases hp
  · rintro H' ⟨sh, hc', bs, hb1, hb2, hb3⟩
    rw [List.length_map] at hb1
    refine ⟨D2, bs.map .ref, rfl, .inl (.inl hb2), fun t ht => ?_⟩
    refine ⟨by rw [sizeLine_eq]; show 2 ≤ _; omega, fun p hp => ?_⟩
    have h0t : H0 t = none := none_sub sh ht
    have st := same_add (o := HO.tup (bs.map V.ref)) ht
    have sh2 : Same H0 (upd H' t (.tup (bs.map .ref))) := same_fresh sh h0t
    have h0p : H0 p = none := none_sub sh2 hp
    have sp := same_add (o := HO.tup [V.int n, V.ref t]) hp
    refine k _ _ (same_fresh sh2 h0p) fun K' hK => ?_
    · refine .tup (.inl (.inl (hK p _ h0p upd_same))) (.cons (.int n) (.cons (.tup (.inl (.inl (hK t _ h0t (sp _ _ upd_same)))) (denAll_of ?_ fun i v d hv hd => ?_)) .nil))
      · rw [List.length_map, List.length_map, List.length_map, List.length_range, hb1]
      · rw [List.getElem?_map] at hv hd
        obtain ⟨b, hb, rfl⟩ := Option.map_eq_some_iff.mp hv
        obtain ⟨l, hl, rfl⟩ := Option.map_eq_some_iff.mp hd
        rw [List.getElem?_map] at hl
        obtain ⟨j, hj, rfl⟩ := Option.map_eq_some_iff.mp hl
        rw [List.getElem?_range] at hj
        · cases hj
          obtain ⟨h1, h2, h3⟩ := hb3 i b hb
          exact .tup (.inl (.inl (hK b _ h2 (sp _ _ (st _ _ h3))))) (DenAll.of_ints _)
        · have := (List.getElem?_eq_some_iff.mp hb).1; omega
/-- the def's body -/
theorem td_wp {F H : Hp} {D : L2.Ends} {hv : V} {n : Nat} {ps : List (List Int)} {P : List (Int × Int)} {sel : Int × Int → Bool} (m : Same F H) (hd : Den K F hv (ftHouse n ps)) (hl : ps.length ≤ 1000) (hP : P.length ≤ 10000) (hp : ∀ q ∈ P, ∃ k : Nat, k < ps.length ∧ q.1 = k)
    (wP : wpI Φ (.of tdP) [some (.val (ftHouse n ps)), none, none, none, none] (fun items _ => items = P.map pD2))
    (wC : ∀ q ∈ P, wpE Φ tdC [some (.val (ftHouse n ps)), none, some (.val (.int q.1)), some (.val (.int q.2)), none] (fun r env => isT r env fun b => b = sel q))
    (k : ∀ v H', Same H H' → (∀ K' : Hp, (∀ b o, H b = none → H' b = some o → K' b = some o) → Den K K' v (ftHouse n (tdL sel P ps.length))) → D.rt v H') : tTidB K Φ D [some hv, none, none, none, none] H := by
  unfold tTidB tSeq tAsg
  refine td_found m hd hl fun Da qs H1 F1 m1 sm1 sh1 hq1 hq2 hq3 f1D f1q hc hHD hHq => ?_
  show tI K Φ [] (.of tdP) [some hv, some (.ref Da), none, none, none] H1 _
  refine ⟨⟨H1, F1, [], []⟩, F1, [some (.val (ftHouse n ps)), none, none, none, none], fun items _ => items = P.map pD2, snap sm1 rfl fun i s e => by
      rcases i with _ | _ | _ | _ | _ | i <;> simp [slot] at e
      subst e; exact ⟨_, _, rfl, rfl, hd.mono m1⟩, wP, fun items J H3 F3 env3 m3 R3 gvs hit => ?_⟩
  subst hit
  have s3 := snap_same R3
  have f3D : F3 Da = none := snap_none R3 hc.1 f1D
  have f3q : ∀ q ∈ qs, F3 q = none := fun q hq => by
    obtain ⟨j, hj, e⟩ := List.getElem_of_mem hq
    exact snap_none R3 (hc.2 j q (by rw [List.getElem?_eq_getElem hj, e])) (f1q q hq)
  obtain ⟨Y, wk, hy⟩ := gvs
  refine for_it (D := _) wk (fun i σ' H' => ∃ y2 y3, σ' = [some hv, some (.ref Da), y2, y3, none] ∧ Same F3 H' ∧ Same H H' ∧ Cells Da qs (tdA sel (P.take i)) H') ?_ ?_ ?_ ?_
  · exact ⟨none, none, rfl, R3.sub, fun c o e => s3 c o (sh1 c o e), by rw [List.take_zero]; exact hc.mono s3⟩
  · rintro i σ' H' _ ⟨_, _, _, h, _⟩
    exact h
  · rintro i x σ' H' H'' hi ⟨y2, y3, rfl, sm, sh, hc'⟩ y
    rw [List.length_map] at hi
    obtain ⟨d, hdd, ho⟩ := hy i H' x H'' (by rw [List.length_map]; exact hi) sm y
    obtain ⟨q, rfl, hq⟩ := map_some hdd
    have hqm : q ∈ P := List.mem_of_getElem? hq
    have htk : P.take (i + 1) = P.take i ++ [q] := by rw [List.take_add_one, hq]; rfl
    have ho := ho F3 (Same.refl F3) sm
    obtain ⟨F4, m4, R4, dn⟩ := out_ok (snap (K := K) (σ := ([] : L2.St)) (env := []) sm rfl fun i s e => by simp [slot] at e) ho
    have dn : Den K F4 x (.tuple ([q.1, q.2].map .int)) := dn
    have s4 := snap_same R4
    obtain ⟨a, rfl, sq⟩ := den_pair dn
    refine ⟨a, _, rfl, same_sqT R4.sub sq, rfl, ?_⟩
    refine ⟨_, _, rfl, _, _, rfl, rfl, ?_⟩
    show tT K Φ [] tdC [some hv, some (.ref Da), some (.int q.1), some (.int q.2), none] H'' _
    refine ⟨⟨H'', F4, [], []⟩, F4, [some (.val (ftHouse n ps)), none, some (.val (.int q.1)), some (.val (.int q.2)), none], fun b _ => b = sel q, snap R4.sub rfl fun i s e => by
      rcases i with _ | _ | _ | _ | _ | i <;> simp [slot] at e
      · subst e; exact ⟨_, _, rfl, rfl, hd.mono fun c o e => m4 c o (m3 c o (m1 c o e))⟩
      · subst e; exact ⟨_, _, rfl, rfl, .int _⟩
      · subst e; exact ⟨_, _, rfl, rfl, .int _⟩, wC q hqm, fun b H5 F5 env5 m5 R5 hb => ?_⟩
    have s5 := snap_same R5
    have sm5 : Same F3 H5 := fun c o e => s5 c o (s4 c o (sm c o e))
    have sh5 : Same H H5 := fun c o e => s5 c o (s4 c o (sh c o e))
    have hc5 := hc'.mono fun c o e => s5 c o (s4 c o e)
    by_cases hs : sel q = true
    · rw [hb, hs]
      show if true = true then _ else _
      rw [if_pos rfl]
      obtain ⟨k1, hk1, e1⟩ := hp q hqm
      have hkq : k1 < qs.length := by rw [hq1]; exact hk1
      have hqk : qs[k1]? = some qs[k1] := List.getElem?_eq_getElem hkq
      have hin : qs[k1] ∈ qs := List.getElem_mem hkq
      have hcell := hc5.2 k1 _ hqk
      refine ⟨.ref Da, rfl, .int q.1, rfl, Da, qs.map .ref, q.1, .ref qs[k1], rfl, rfl, .inl (.inl hc5.1), ?_, .inl ⟨rfl, _, .inl (.inl hcell)⟩, .int q.2, rfl, qs[k1], _, .int q.2, rfl, rfl, hcell, ?_, ?_⟩
      · rw [e1]
        exact L2.atI_nat (by rw [List.getElem?_map, hqk]; rfl)
      · rw [List.length_map, sizeLine_eq]
        unfold tdA
        have h1 := List.length_filter_le (fun q => decide (q.1 = (k1 : Int)) && sel q) (P.take i)
        have h2 : (P.take i).length ≤ P.length := by rw [List.length_take]; omega
        rw [List.length_map]
        omega
      · refine ⟨_, _, rfl, same_fresh sm5 (f3q _ hin), same_fresh sh5 (hHq _ hin), ?_⟩
        have e2 : tdA sel (P.take (i + 1)) k1 = tdA sel (P.take i) k1 ++ [q.2] := by rw [htk, tdA_snoc, if_pos ⟨e1, hs⟩]
        have e3 : ((tdA sel (P.take i) k1).map V.int ++ [V.int q.2]) = (tdA sel (P.take (i + 1)) k1).map .int := by rw [e2, List.map_append]; rfl
        rw [e3]
        refine hc5.put hq2 hq3 hqk fun j hj => ?_
        rw [htk, tdA_snoc, if_neg (fun z => hj (by have := z.1; omega)), List.append_nil]
    · have hs2 : sel q = false := by simpa using hs
      rw [hb, hs2]
      show if false = true then _ else _
      rw [if_neg Bool.false_ne_true]
      refine ⟨_, _, rfl, sm5, sh5, ?_⟩
      have e : tdA sel (P.take (i + 1)) = tdA sel (P.take i) := funext fun j => by
        rw [htk, tdA_snoc, if_neg (fun z => hs z.2), List.append_nil]
      rw [e]
      exact hc5
  · rintro σ' H' ⟨y2, y3, rfl, sm, sh, hc'⟩
    rw [List.length_map, List.take_length] at hc'
    show tTidR K Φ [some hv, some (.ref Da), y2, y3, none] H' _
    refine td_told sm (hd.mono fun c o e => m3 c o (m1 c o e)) sh (by omega) hc' fun v H6 s6 hk => ?_
    rw [hq1] at hk
    exact k v H6 s6 hk
end
/-! ### the text -/
def mTid (L : List (String × List Bool)) (N : List Str) (sc : Scope) (fb : Str → Bool) : List Stmt → Bool
  | [.Assign [.Name f1 pf1] (.ListComp (.List [] _) [⟨.Name p1 _, hE, [], 0⟩] scope1 pos1) spos1,
      .For (.Tuple [.Name p2 q2, .Name e2 r2] k2 s2) pE [.If cE [.Expr (.Call (.Attribute (.Subscript (.Name f2 _) (.Name p3 _) _) ap apos) [.Name e3 _] [] cpos) _] [] _] [] _,
      .Return (some (.Tuple [h0E, .Call (.Name tu1 _) [.ListComp (.Call (.Name tu2 _) [.Name q3 _] [] _) [⟨.Name q4 _, .Name f3 _, [], 0⟩] scope2 _] [] _] _ _)) _] =>
    mSt N sc fb 1 f1 && swB sc scope1 f1 pf1 pos1 && blkC N sc scope1 (nmSl N [2]) && notSet hE && mE L N [] sc fb tdH hE && mSt N (relS scope1 sc) (blkFb scope1) 2 p1 &&
    mTg N sc fb (.tp [2, 3]) (.Tuple [.Name p2 q2, .Name e2 r2] k2 s2) && notSet pE && mE L N [] sc fb tdP pE && mE L N [] sc fb tdC cE && mVis N sc 1 f2 && mVis N sc 2 p3 && decide (ap = s_ "append") && (apos.endLine == cpos.line) && mVis N sc 3 e3 &&
    notStar h0E && mE L N [] sc fb tdH0 h0E && decide (tu1 = s_ "tuple") && gl sc tu1 && blkC N sc scope2 (nmSl N [4]) && mVis N sc 1 f3 && mSt N (relS scope2 sc) (blkFb scope2) 4 q4 && decide (tu2 = s_ "tuple") && gl (relS scope2 sc) tu2 && mVis N (relS scope2 sc) 4 q3
  | _ => false
section
variable {X : Cx} {L : List (String × List Bool)} {Φ : Tbl} {fb : Str → Bool}
theorem ps_tidF (C : Ctx X L Φ fb) {f1 p1 : Str} {pf1 q1 q2 pos1 spos1 : Pos} {hE : Expr} {scope : Scope} {vs : List Nat} (hv : (nmSl X.N [2]).map (·.2) = vs) (h1 : mSt X.N X.env.scope fb 1 f1 = true) (h2 : swB X.env.scope scope f1 pf1 pos1 = true) (h3 : blkC X.N X.env.scope scope (nmSl X.N [2]) = true)
    (h4 : notSet hE = true) (h5 : mE L X.N [] X.env.scope fb tdH hE = true) (h6 : mSt X.N (relS scope X.env.scope) (blkFb scope) 2 p1 = true) :
    PS X (.Assign [.Name f1 pf1] (.ListComp (.List [] q1) [⟨.Name p1 q2, hE, [], 0⟩] scope pos1) spos1) (tAsg (tLc (tI X.K Φ [] (.of tdH)) (gName 2) tYes (tLst tNil) vs) (gName 1)) := by
  subst hv
  have hk := (blkOk_by h3).kind
  have CB : ∀ (s : Shared) (H : Hp) (D : Addr) (cl : List (Str × Addr)) (fp : List Addr), Ctx (X.blk s H scope (compEnvC scope cl D X.env) fp) L Φ (blkFb scope) := fun s H D cl fp => C.blk hk
  have hx := h2
  unfold swB at hx
  simp only [Bool.and_eq_true] at hx
  have hlo : X.env.scope.names.lookup f1 = some .local := eq_of_beq hx.1.1
  exact ps_setLc C.calm C.nd (mSt_ok C h1).1 hlo (by rw [swB_ok C.kind, h2]) (i_of (sndE tdH _ X fb C rfl h5).pe) (blkOk_by h3) (fun s H D cl fp => pg_nm (CB s H D cl fp) h6) (fun s H D cl fp => pts_nil) (fun s H D cl fp => pe_lst pa_nil) fun x => folded_ok h4 X.env x
theorem pe_tidL (C : Ctx X L Φ fb) {f3 q3 q4 : Str} {p1 p2 p3 p4 p5 p6 : Pos} {scope : Scope} {vs : List Nat} (hv : (nmSl X.N [4]).map (·.2) = vs) (h20 : blkC X.N X.env.scope scope (nmSl X.N [4]) = true) (h21 : mVis X.N X.env.scope 1 f3 = true) (h22 : mSt X.N (relS scope X.env.scope) (blkFb scope) 4 q4 = true)
    (h24 : gl (relS scope X.env.scope) (s_ "tuple") = true) (h25 : mVis X.N (relS scope X.env.scope) 4 q3 = true) :
    PE X (.ListComp (.Call (.Name (s_ "tuple") p1) [.Name q3 p2] [] p3) [⟨.Name q4 p4, .Name f3 p5, [], 0⟩] scope p6) (tLc (iList X.K (tVar 1)) (gName 4) tYes (tCB (rTupL X.K) (tCons (tVar 4) tNil)) vs) := by
  subst hv
  have hk := (blkOk_by h20).kind
  have CB : ∀ (s : Shared) (H : Hp) (D : Addr) (cl : List (Str × Addr)) (fp : List Addr), Ctx (X.blk s H scope (compEnvC scope cl D X.env) fp) L Φ (blkFb scope) := fun s H D cl fp => C.blk hk
  exact pe_lc C.calm C.nd (pi_list (pv C h21)) (blkOk_by h20) (fun s H D cl fp => pg_nm (CB s H D cl fp) h22) (fun s H D cl fp => pts_nil)
    (fun s H D cl fp => pe_callTy tupleL (gl_ok h24) ((CB s H D cl fp).blt "tuple" (by decide)) boot_tuple (pa_cons (pv (CB s H D cl fp) h25) pa_nil (star_cons rfl [] _)) (by decide) (by decide) (star_cons rfl [] _)) fun x => folded_ok rfl X.env x
theorem sndTid (C : Ctx X L Φ fb) {b : List Stmt} (h : mTid L X.N X.env.scope fb b = true) : PSs X b (tTidB X.K Φ) := by
  unfold mTid at h
  split at h
  case h_2 => cases h
  simp only [Bool.and_eq_true, decide_eq_true_eq] at h
  obtain ⟨⟨⟨⟨⟨⟨⟨⟨⟨⟨⟨⟨⟨⟨⟨⟨⟨⟨⟨⟨⟨⟨⟨⟨h1, h2⟩, h3⟩, h4⟩, h5⟩, h6⟩, h7⟩, h8⟩, h9⟩, h10⟩, h11⟩, h12⟩, rfl⟩, h14⟩, h15⟩, h16⟩, h17⟩, rfl⟩, h19⟩, h20⟩, h21⟩, h22⟩, rfl⟩, h24⟩, h25⟩ := h
  refine pss_cons (ps_tidF C (nmSl_snd _ _) h1 h2 h3 h4 h5 h6) (pss_cons (ps_for (by rw [C.xe]; exact PassesOwn.never) C.calm (i_of (sndE tdP _ X fb C rfl h9).pe) (pg_T C h7)
    (pss_cons (ps_if (sndE tdC _ X fb C rfl h10).pt (pss_cons (ps_expr (pe_bm PySem.F.plainAttrs_list PySem.F.slot_list_append PySem.F.type_list_append mt_append (pe_ix ix_list (pv C h11) (pv C h12) (plainIx rfl)) (pa_cons (pv C h15) pa_nil (star_cons rfl [] X.env)) rfl (few1 rfl) h14 (star_cons rfl [] X.env) rfl)) pss_nil) pss_nil) pss_nil)
    fun x => folded_ok h8 X.env x) (pss_cons (ps_ret (pe_tup (pa_cons (sndE tdH0 _ X fb C rfl h17).pe (pa_cons (pe_callTy tupleL (gl_ok h19) (C.blt "tuple" (by decide)) boot_tuple (pa_cons (pe_tidL C (nmSl_snd _ _) h20 h21 h22 h24 h25) pa_nil (star_cons rfl [] X.env)) (by decide) (by decide) (star_cons rfl [] X.env)) pa_nil (star_cons rfl [] X.env)) (star_cons h16 _ X.env)))) pss_nil))
end
/-! ### the def -/
/-- what is asked of a promise of tidied, given those that it calls -/
def tdPre (Φ : Tbl) : Spec := fun ds Q => ∃ (n : Nat) (ps : List (List Int)) (P : List (Int × Int)) (sel : Int × Int → Bool), ds = [ftHouse n ps] ∧ ps.length ≤ 1000 ∧ P.length ≤ 10000 ∧ (∀ q ∈ P, ∃ k : Nat, k < ps.length ∧ q.1 = k) ∧ wpI Φ (.of tdP) [some (.val (ftHouse n ps)), none, none, none, none] (fun items _ => items = P.map pD2) ∧
  (∀ q ∈ P, wpE Φ tdC [some (.val (ftHouse n ps)), none, some (.val (.int q.1)), some (.val (.int q.2)), none] (fun r env => isT r env fun b => b = sel q)) ∧ Q (.val (ftHouse n (tdL sel P ps.length))) []
theorem td_fn {P : Program} {w : World} {K : Frag} {mg : Str → Option Value} {base : Heap} {k : Nat} {f : Addr} {x qual : Str} {st : Stmt} {fd : FuncData} {N ps : List Str} {L : List (String × List Bool)} {Φ : Tbl} {sp : Spec}
    (D : Fun K x qual st f fd) (Sc : FnScope N ps (defScope st)) (hps : ps.length = 1) (hN : N.length = 5) (sys : ∃ m, base.Ns sysModules m) (blt : ∀ x ∈ bltNames, mg (Str.ofString x) = none)
    (fns : ∀ p ∈ L, ∃ a fd ps, mg (Str.ofString p.1) = some (.ref a) ∧ PySem.W.keepIn K (.ref a) = true ∧ Binds K fd ps [] ∧ FnG P w K mg base k a fd ps (spOf K p.2 (Φ p.1)))
    (hm : mTid L N (defScope st) (fun _ => true) (defBody st) = true) (hsp : ∀ ds Q, sp ds Q → tdPre Φ ds Q) (hL : ∀ p ∈ L, p.2.length < 100 := by decide) : FnG P w K mg base (k + 1) f fd ps (spOf K [false] sp) := by
  refine fn_g D Sc (fun vs H Q E h => h.1.trans hps.symm) fun cdv A outer s H vs Q hr hg ⟨hl, F, ds, m, ha, nd, Qs, hs, hk⟩ => ?_
  have C : Ctx (cxOf CX0 P w K mg base N qual (defScope st) f cdv A outer s H E0).nox L Φ (fun _ => true) :=
    ⟨rfl, Sc.kind, fun _ _ => rfl, Sc.nd, rfl, by have := hr.un; show (A.deeper _).units + 100 < cLine; omega, hg, sys, blt, fun p hp hl => by
      obtain ⟨a, fd, ps, h1, h2, h3, h4⟩ := fns p hp
      exact ⟨k, a, fd, ps, h1, h2, h3, h4, hr⟩, fun p hp h => absurd (hL p hp) (by omega)⟩
  refine ⟨_, sndTid C hm, ?_⟩
  obtain ⟨n, pl, PP, sel, rfl, h1, h2, h3, h4, h5, hQ⟩ := hsp _ _ hs
  match vs, hl, ha with
  | [hv], _, ha =>
    have e : L2.start N [hv] = [some hv, none, none, none, none] := by
      unfold L2.start
      rw [hN]; rfl
    rw [e]
    refine td_wp m ha.1 h1 h2 h3 h4 h5 fun v H' s1 hden => ?_
    refine hk _ _ hQ v H' (fun b => if (H b).isSome then F b else H' b) (fun b o e => ?_) (fun b o e => ?_) (fun c o e _ => s1 c o e) (fun c o e hn => ?_) trivial (hden _ fun b o e1 e2 => ?_)
    · show (if (H b).isSome then F b else H' b) = some o
      rw [m b o e]
      exact e
    · have e : (if (H b).isSome then F b else H' b) = some o := e
      cases hb : H b with
      | none => rw [hb] at e; exact e
      | some o' => rw [hb] at e; exact s1 b o (m b o e)
    · show (if (H c).isSome then F c else H' c) = none
      rw [e]
      exact hn
    · show (if (H b).isSome then F b else H' b) = some o
      rw [e1]
      exact e2
end Co

namespace Co
open PySem PySem.Spec PyProof.Rows L2
def f_law_open_b1 : S := (.seq (.put 1 (.bin .mod (.b1 .int (.var 2)) (.cst (.int 12))) (.bin .add (.idx (.var 1) (.bin .mod (.b1 .int (.var 2)) (.cst (.int 12)))) (.var 3)))
    .skip)
def f_law_open : S := (.seq (.asg 1 (.b1 .list (.shi (.var 0) (.cst (.int 12)))))
    (.seq (.for (.tp [2, 3]) (.enum (.slh (.var 0) (.cst (.int 12)) (.cst (.int 63)))) f_law_open_b1)
    (.seq (.ret (.lst (.cons (.var 1) (.cons (.cst (.int 0)) (.cons (.cst (.int 0)) .nil)))))
    .skip)))
def N_law_open : List Str := [Str.ofString "script", Str.ofString "cells", Str.ofString "k", Str.ofString "cell"]
def L_law_open : List (String × List Bool) := []
def f_law_spread : S := (.seq (.ifs (.cmp .ge (.var 0) (.bin .pow (.cst (.int 10)) (.cst (.int 18))))
    (.seq (.ret (.var 0))
    .skip)
    .skip)
    (.seq (.asg 2 (.lst (.cons (.cst (.int 2147483629)) (.cons (.cst (.int 2147483587)) (.cons (.cst (.int 2147483579)) (.cons (.cst (.int 2147483563)) (.cons (.cst (.int 2147483549)) (.cons (.cst (.int 2147483543)) (.cons (.cst (.int 2147483497)) (.cons (.cst (.int 2147483489)) .nil))))))))))
    (.seq (.asg 2 (.bin .add (.var 2) (.lst (.cons (.cst (.int 2147483477)) (.cons (.cst (.int 2147483423)) (.cons (.cst (.int 2147483399)) (.cons (.cst (.int 2147483353)) (.cons (.cst (.int 2147483323)) .nil))))))))
    (.seq (.asg 3 (.bin .add (.bin .add (.bin .mul (.bin .mod (.b1 .int (.var 0)) (.cst (.int 1000000007))) (.bin .add (.bin .mul (.cst (.int 2)) (.var 1)) (.cst (.int 69069)))) (.bin .mul (.var 1) (.cst (.int 40503)))) (.cst (.int 977))))
    (.seq (.asg 3 (.bin .mod (.b1 .int (.bin .pow (.var 3) (.cst (.int 3)))) (.idx (.var 2) (.bin .mod (.b1 .int (.var 1)) (.cst (.int 13))))))
    (.seq (.asg 4 (.bin .mod (.b1 .int (.bin .pow (.bin .add (.bin .add (.bin .mul (.var 3) (.bin .add (.var 1) (.cst (.int 3)))) (.bin .mod (.b1 .int (.var 0)) (.cst (.int 65537)))) (.cst (.int 5))) (.cst (.int 5)))) (.idx (.var 2) (.bin .mod (.b1 .int (.bin .add (.var 1) (.cst (.int 5)))) (.cst (.int 13))))))
    (.seq (.asg 5 (.bin .mod (.b1 .int (.bin .pow (.bin .add (.bin .add (.var 4) (.bin .mod (.b1 .int (.var 3)) (.cst (.int 1009)))) (.var 1)) (.cst (.int 3)))) (.idx (.var 2) (.bin .mod (.b1 .int (.bin .add (.var 1) (.cst (.int 7)))) (.cst (.int 13))))))
    (.seq (.ret (.bin .add (.bin .mul (.bin .add (.bin .mul (.var 3) (.cst (.int 2147483647))) (.var 4)) (.cst (.int 2147483647))) (.var 5)))
    .skip))))))))
def N_law_spread : List Str := [Str.ofString "cell", Str.ofString "at", Str.ofString "primes", Str.ofString "u", Str.ofString "v", Str.ofString "w"]
def L_law_spread : List (String × List Bool) := []
def f_law_take : S := (.seq (.ifs (.cmp .lt (.idx (.var 0) (.cst (.int 2))) (.var 1))
    (.seq (.asg 3 (.idx (.var 0) (.cst (.int 1))))
    (.seq (.asg 4 (.cst (.int 0)))
    (.seq (.ifs (.cmp .lt (.var 3) (.b1 .len (.idx (.var 0) (.cst (.int 0)))))
    (.seq (.asg 4 (.idx (.idx (.var 0) (.cst (.int 0))) (.var 3)))
    .skip)
    (.seq (.ifs (.cmp .gt (.b1 .len (.idx (.var 0) (.cst (.int 0)))) (.cst (.int 0)))
    (.seq (.asg 4 (.bin .mod (.b1 .int (.idx (.idx (.var 0) (.cst (.int 0))) (.bin .mod (.b1 .int (.bin .add (.bin .mul (.var 3) (.cst (.int 5))) (.cst (.int 3)))) (.b1 .len (.idx (.var 0) (.cst (.int 0))))))) (.bin .add (.bin .pow (.cst (.int 10)) (.cst (.int 17))) (.var 3))))
    .skip)
    .skip)
    .skip))
    (.seq (.put 0 (.cst (.int 1)) (.bin .add (.var 3) (.cst (.int 1))))
    (.seq (.put 0 (.cst (.int 2)) (.call "_law_spread" [false, false] (.cons (.var 4) (.cons (.var 3) .nil))))
    .skip)))))
    .skip)
    (.seq (.asg 2 (.bin .mod (.b1 .int (.idx (.var 0) (.cst (.int 2)))) (.var 1)))
    (.seq (.put 0 (.cst (.int 2)) (.bin .fdiv (.idx (.var 0) (.cst (.int 2))) (.var 1)))
    (.seq (.ret (.var 2))
    .skip))))
def N_law_take : List Str := [Str.ofString "pen", Str.ofString "amount", Str.ofString "found", Str.ofString "at", Str.ofString "cell"]
def L_law_take : List (String × List Bool) := [("_law_spread", [false, false])]
def f_law_one_of : S := (.seq (.ret (.idx (.var 1) (.call "_law_take" [true, false] (.cons (.var 0) (.cons (.b1 .len (.var 1)) .nil)))))
    .skip)
def N_law_one_of : List Str := [Str.ofString "pen", Str.ofString "some"]
def L_law_one_of : List (String × List Bool) := [("_law_take", [true, false])]
def f_law_some_c1 : Es := (.cons (.cmp .eq (.call "_law_take" [true, false] (.cons (.var 0) (.cons (.var 2) .nil))) (.cst (.int 0))) .nil)
def f_law_some_e1 : E := (.var 3)
def f_law_some : S := (.seq (.ret (.b1 .tuple (.lc [3] (.nm 3) (.range1 (.var 1)) f_law_some_c1 f_law_some_e1)))
    .skip)
def N_law_some : List Str := [Str.ofString "pen", Str.ofString "many", Str.ofString "rare", Str.ofString "one"]
def L_law_some : List (String × List Bool) := [("_law_take", [true, false])]
def f_law_draw_house_b1 : S := (.seq (.expr (.append 5 (.call "_law_some" [true, false, false] (.cons (.var 0) (.cons (.var 4) (.cons (.call "_law_one_of" [true, false] (.cons (.var 0) (.cons (.lst (.cons (.cst (.int 1)) (.cons (.cst (.int 2)) (.cons (.cst (.int 2)) (.cons (.cst (.int 2)) (.cons (.cst (.int 3)) .nil)))))) .nil))) .nil))))))
    .skip)
def f_law_draw_house : S := (.seq (.par [4, 5] (.cons (.bin .add (.cst (.int 1)) (.call "_law_take" [true, false] (.cons (.var 0) (.cons (.var 1) .nil)))) (.cons (.lst .nil) .nil)))
    (.seq (.for (.nm 3) (.range1 (.call "_law_take" [true, false] (.cons (.var 0) (.cons (.bin .add (.var 2) (.cst (.int 1))) .nil)))) f_law_draw_house_b1)
    (.seq (.ret (.tup (.cons (.var 4) (.cons (.b1 .tuple (.var 5)) .nil))))
    .skip)))
def N_law_draw_house : List Str := [Str.ofString "pen", Str.ofString "most", Str.ofString "jobs", Str.ofString "post", Str.ofString "people", Str.ofString "found"]
def L_law_draw_house : List (String × List Bool) := [("_law_take", [true, false]), ("_law_some", [true, false, false]), ("_law_one_of", [true, false])]
def N_law_fit : List Str := [Str.ofString "house", Str.ofString "gone", Str.ofString "found", Str.ofString "people", Str.ofString "later", Str.ofString "taken", Str.ofString "one"]
def f_law_draw_kept_b1 : S := (.seq (.expr (.append 6 (.b1 .tuple (.b1 .sortset (.bin .add (.var 8) (.tup (.cons (.var 7) .nil)))))))
    .skip)
def f_law_draw_kept : S := (.seq (.asg 3 (.call "_law_draw_house" [true, false, false] (.cons (.var 0) (.cons (.var 1) (.cons (.var 2) .nil)))))
    (.seq (.asg 4 (.call "_law_some" [true, false, false] (.cons (.var 0) (.cons (.idx (.var 3) (.cst (.int 0))) (.cons (.cst (.int 5)) .nil)))))
    (.seq (.ifs (.call "_law_fit" [false, false] (.cons (.var 3) (.cons (.var 4) .nil)))
    (.seq (.ret (.tup (.cons (.var 3) (.cons (.var 4) .nil))))
    .skip)
    .skip)
    (.seq (.par [5, 6] (.cons (.b2 .max (.idx (.var 3) (.cst (.int 0))) (.b1 .len (.idx (.var 3) (.cst (.int 1))))) (.cons (.lst .nil) .nil)))
    (.seq (.for (.tp [7, 8]) (.enum (.idx (.var 3) (.cst (.int 1)))) f_law_draw_kept_b1)
    (.seq (.ret (.tup (.cons (.tup (.cons (.var 5) (.cons (.b1 .tuple (.var 6)) .nil))) (.cons (.tup .nil) .nil))))
    .skip))))))
def N_law_draw_kept : List Str := [Str.ofString "pen", Str.ofString "most", Str.ofString "jobs", Str.ofString "house", Str.ofString "gone", Str.ofString "people", Str.ofString "found", Str.ofString "post", Str.ofString "some"]
def L_law_draw_kept : List (String × List Bool) := [("_law_draw_house", [true, false, false]), ("_law_some", [true, false, false]), ("_law_fit", [false, false])]
def f_pairs_of_c1 : Es := (.cons (.cmp .notin (.var 5) (.var 1)) .nil)
def f_pairs_of_e1 : E := (.tup (.cons (.var 3) (.cons (.var 5) .nil)))
def f_pairs_of_b1 : S := (.seq (.expr (.extend 2 (.lc [5] (.nm 5) (.of (.var 4)) f_pairs_of_c1 f_pairs_of_e1)))
    .skip)
def f_pairs_of : S := (.seq (.asg 2 (.lst .nil))
    (.seq (.for (.tp [3, 4]) (.enum (.idx (.var 0) (.cst (.int 1)))) f_pairs_of_b1)
    (.seq (.ret (.var 2))
    .skip)))
def N_pairs_of : List Str := [Str.ofString "house", Str.ofString "gone", Str.ofString "found", Str.ofString "post", Str.ofString "people", Str.ofString "person"]
def L_pairs_of : List (String × List Bool) := []
def f_move_on_t1 : E := (.cst (.bool true))
def f_move_on_b1 : S := (.seq (.asg 5 (.idx (.var 0) (.var 4)))
    (.seq (.put 0 (.var 4) (.var 2))
    (.seq (.ifs (.cmp .eq (.var 4) (.var 3))
    (.seq .retn
    .skip)
    .skip)
    (.seq (.par [2, 4] (.cons (.var 5) (.cons (.idx (.var 1) (.var 5)) .nil)))
    .skip))))
def f_move_on : S := (.seq (.asg 4 (.idx (.var 1) (.var 2)))
    (.seq (.whl f_move_on_t1 f_move_on_b1)
    .skip))
def N_move_on : List Str := [Str.ofString "found", Str.ofString "came", Str.ofString "person", Str.ofString "post", Str.ofString "here", Str.ofString "before"]
def L_move_on : List (String × List Bool) := []
def f_place_t1 : E := (.cmp .lt (.var 6) (.b1 .len (.var 5)))
def f_place_c1 : Es := (.cons (.cmp .eq (.idx (.var 2) (.var 10)) (.var 8)) .nil)
def f_place_e1 : E := (.var 10)
def f_place_b1 : S := (.seq (.ifs (.or (.cmp .isin (.var 8) (.var 1)) (.cmp .isin (.var 8) (.var 4)))
    (.seq .cont
    .skip)
    .skip)
    (.seq (.put 4 (.var 8) (.var 7))
    (.seq (.asg 9 (.lc [10] (.nm 10) (.range1 (.b1 .len (.var 2))) f_place_c1 f_place_e1))
    (.seq (.ifs (.cmp .eq (.var 9) (.lst .nil))
    (.seq (.expr (.call "move_on" [true, false, false, false] (.cons (.var 2) (.cons (.var 4) (.cons (.var 8) (.cons (.var 3) .nil))))))
    (.seq (.ret (.tup (.cons (.cst (.bool true)) (.cons (.var 5) .nil))))
    .skip))
    .skip)
    (.seq (.expr (.append 5 (.idx (.var 9) (.cst (.int 0)))))
    .skip)))))
def f_place_b2 : S := (.seq (.asg 7 (.idx (.var 5) (.var 6)))
    (.seq (.aug 6 .add (.cst (.int 1)))
    (.seq (.for (.nm 8) (.of (.idx (.idx (.var 0) (.cst (.int 1))) (.var 7))) f_place_b1)
    .skip)))
def f_place : S := (.seq (.par [4, 5, 6] (.cons (.dct .nil) (.cons (.lst (.cons (.var 3) .nil)) (.cons (.cst (.int 0)) .nil))))
    (.seq (.whl f_place_t1 f_place_b2)
    (.seq (.ret (.tup (.cons (.cst (.bool false)) (.cons (.var 5) .nil))))
    .skip)))
def N_place : List Str := [Str.ofString "house", Str.ofString "gone", Str.ofString "found", Str.ofString "post", Str.ofString "came", Str.ofString "waiting", Str.ofString "k", Str.ofString "here", Str.ofString "person", Str.ofString "holders", Str.ofString "other"]
def L_place : List (String × List Bool) := [("move_on", [true, false, false, false])]
def f_settled_b1 : S := (.seq (.unpack [4, 5] (.call "place" [false, false, true, false] (.cons (.var 0) (.cons (.var 1) (.cons (.var 2) (.cons (.var 3) .nil))))))
    (.seq (.ifs (.not (.var 4))
    (.seq (.ret (.tup (.cons (.cst .none) (.cons (.b1 .tuple (.b1 .sorted (.var 5))) .nil))))
    .skip)
    .skip)
    .skip))
def f_settled : S := (.seq (.asg 2 (.lrep (.cons (.cst .none) .nil) (.b1 .len (.idx (.var 0) (.cst (.int 1))))))
    (.seq (.for (.nm 3) (.range1 (.b1 .len (.idx (.var 0) (.cst (.int 1))))) f_settled_b1)
    (.seq (.ret (.tup (.cons (.var 2) (.cons (.cst .none) .nil))))
    .skip)))
def N_settled : List Str := [Str.ofString "house", Str.ofString "gone", Str.ofString "found", Str.ofString "post", Str.ofString "went", Str.ofString "met"]
def L_settled : List (String × List Bool) := [("place", [false, false, true, false])]
def f_find_roster : S := (.seq (.unpack [2, 3] (.call "settled" [false, false] (.cons (.var 0) (.cons (.var 1) .nil))))
    (.seq (.ret (.ite (.isn (.var 2)) (.cst .none) (.b1 .tuple (.var 2))))
    .skip))
def N_find_roster : List Str := [Str.ofString "house", Str.ofString "gone", Str.ofString "found", Str.ofString "short"]
def L_find_roster : List (String × List Bool) := [("settled", [false, false])]
def f_without_post : S := (.seq (.ret (.tup (.cons (.idx (.var 0) (.cst (.int 0))) (.cons (.bin .add (.shi (.idx (.var 0) (.cst (.int 1))) (.var 1)) (.slo (.idx (.var 0) (.cst (.int 1))) (.bin .add (.var 1) (.cst (.int 1))))) .nil))))
    .skip)
def N_without_post : List Str := [Str.ofString "house", Str.ofString "post"]
def L_without_post : List (String × List Bool) := []
def f_with_person : S := (.seq (.ret (.b1 .tuple (.b1 .sorted (.bin .add (.var 0) (.tup (.cons (.var 1) .nil))))))
    .skip)
def N_with_person : List Str := [Str.ofString "gone", Str.ofString "person"]
def L_with_person : List (String × List Bool) := []
def f_find_with : S := (.seq (.asg 4 (.call "find_roster" [false, false] (.cons (.call "without_post" [false, false] (.cons (.var 0) (.cons (.var 2) .nil))) (.cons (.call "with_person" [false, false] (.cons (.var 1) (.cons (.var 3) .nil))) .nil))))
    (.seq (.ret (.ite (.isn (.var 4)) (.cst .none) (.bin .add (.bin .add (.shi (.var 4) (.var 2)) (.tup (.cons (.var 3) .nil))) (.slo (.var 4) (.var 2)))))
    .skip))
def N_find_with : List Str := [Str.ofString "house", Str.ofString "gone", Str.ofString "post", Str.ofString "person", Str.ofString "rest"]
def L_find_with : List (String × List Bool) := [("find_roster", [false, false]), ("without_post", [false, false]), ("with_person", [false, false])]
def N_tidied : List Str := [Str.ofString "house", Str.ofString "found", Str.ofString "post", Str.ofString "person", Str.ofString "people"]
def f_find_only_b1 : S := (.seq (.ifs (.cmp .notin (.var 3) (.idx (.idx (.var 1) (.cst (.int 1))) (.var 2)))
    (.seq (.asg 4 (.call "find_with" [false, false, false, false] (.cons (.var 0) (.cons (.tup .nil) (.cons (.var 2) (.cons (.var 3) .nil))))))
    (.seq (.ifs (.notn (.var 4))
    (.seq (.ret (.var 4))
    .skip)
    .skip)
    .skip))
    .skip)
    .skip)
def f_find_only : S := (.seq (.for (.tp [2, 3]) (.of (.call "pairs_of" [false, false] (.cons (.var 0) (.cons (.tup .nil) .nil)))) f_find_only_b1)
    (.seq (.ret (.cst .none))
    .skip))
def N_find_only : List Str := [Str.ofString "one", Str.ofString "other", Str.ofString "post", Str.ofString "person", Str.ofString "roster"]
def L_find_only : List (String × List Bool) := [("pairs_of", [false, false]), ("find_with", [false, false, false, false])]
def f_groups_of_c1 : Es := (.cons (.cmp .eq (.b1 .len (.var 4)) (.var 3)) .nil)
def f_groups_of_e1 : E := (.var 4)
def f_groups_of_e2 : E := (.bin .add (.var 4) (.tup (.cons (.var 2) .nil)))
def f_groups_of_b1 : S := (.seq (.asg 1 (.bin .add (.var 1) (.lc [4] (.nm 4) (.of (.var 1)) .nil f_groups_of_e2)))
    .skip)
def f_groups_of : S := (.seq (.asg 1 (.lst (.cons (.tup .nil) .nil)))
    (.seq (.for (.nm 2) (.of (.var 0)) f_groups_of_b1)
    (.seq (.ret (.lc2 [3, 4] (.nm 3) (.range1 (.bin .add (.b1 .len (.var 0)) (.cst (.int 1)))) .nil (.nm 4) (.of (.var 1)) f_groups_of_c1 f_groups_of_e1))
    .skip)))
def N_groups_of : List Str := [Str.ofString "people", Str.ofString "found", Str.ofString "person", Str.ofString "size", Str.ofString "group"]
def L_groups_of : List (String × List Bool) := []
def f_find_worse_b1 : S := (.seq (.ifs (.and (.isn (.call "find_roster" [false, false] (.cons (.var 0) (.cons (.var 2) .nil)))) (.notn (.call "find_roster" [false, false] (.cons (.var 1) (.cons (.var 2) .nil)))))
    (.seq (.ret (.var 2))
    .skip)
    .skip)
    .skip)
def f_find_worse : S := (.seq (.for (.nm 2) (.of (.call "groups_of" [false] (.cons (.rg1 (.idx (.var 0) (.cst (.int 0)))) .nil))) f_find_worse_b1)
    (.seq (.ret (.cst .none))
    .skip))
def N_find_worse : List Str := [Str.ofString "one", Str.ofString "other", Str.ofString "gone"]
def L_find_worse : List (String × List Bool) := [("groups_of", [false]), ("find_roster", [false, false])]
def f_bears_as_much : S := (.seq (.ret (.isn (.call "find_worse" [false, false] (.cons (.var 0) (.cons (.var 1) .nil)))))
    .skip)
def N_bears_as_much : List Str := [Str.ofString "one", Str.ofString "other"]
def L_bears_as_much : List (String × List Bool) := [("find_worse", [false, false])]
def N_counted : List Str := [Str.ofString "house", Str.ofString "gone", Str.ofString "post", Str.ofString "ways", Str.ofString "people", Str.ofString "later", Str.ofString "taken", Str.ofString "person", Str.ofString "more"]
def f_count_rosters : S := (.seq (.ret (.call "counted" [false, false, false] (.cons (.var 0) (.cons (.var 1) (.cons (.cst (.int 0)) .nil)))))
    .skip)
def N_count_rosters : List Str := [Str.ofString "house", Str.ofString "gone"]
def L_count_rosters : List (String × List Bool) := [("counted", [false, false, false])]
def f_law_c1 : Es := (.cons (.cmp .ne (.var 14) (.var 10)) .nil)
def f_law_e1 : E := (.var 14)
def f_law_b1 : S := (.seq (.asg 11 (.b1 .tuple (.lc [14] (.nm 14) (.of (.var 9)) f_law_c1 f_law_e1)))
    (.seq (.asg 12 (.tup (.cons (.idx (.var 6) (.cst (.int 0))) (.cons (.bin .add (.bin .add (.shi (.idx (.var 6) (.cst (.int 1))) (.var 8)) (.tup (.cons (.var 11) .nil))) (.slo (.idx (.var 6) (.cst (.int 1))) (.bin .add (.var 8) (.cst (.int 1))))) .nil))))
    (.seq (.asg 13 (.cmp .eq (.call "count_rosters" [false, false] (.cons (.var 12) (.cons (.tup .nil) .nil))) (.call "count_rosters" [false, false] (.cons (.var 6) (.cons (.tup .nil) .nil)))))
    (.seq (.ifs (.cmp .ne (.var 13) (.isn (.call "find_with" [false, false, false, false] (.cons (.var 6) (.cons (.tup .nil) (.cons (.var 8) (.cons (.var 10) .nil)))))))
    (.seq (.ret (.cst (.bool false)))
    .skip)
    .skip)
    .skip))))
def f_law_b2 : S := (.seq (.for (.nm 10) (.of (.shi (.var 9) (.cst (.int 2)))) f_law_b1)
    .skip)
def f_law_b3 : S := (.seq (.ifs (.cmp .ne (.call "count_rosters" [false, false] (.cons (.var 4) (.cons (.var 5) .nil))) (.call "count_rosters" [false, false] (.cons (.var 6) (.cons (.var 5) .nil))))
    (.seq (.ret (.cst (.bool false)))
    .skip)
    .skip)
    .skip)
def f_law_b4 : S := (.seq (.asg 3 (.call "_law_one_of" [true, false] (.cons (.var 1) (.cons (.lst (.cons (.tup (.cons (.cst (.int 7)) (.cons (.cst (.int 4)) .nil))) (.cons (.tup (.cons (.cst (.int 7)) (.cons (.cst (.int 4)) .nil))) (.cons (.tup (.cons (.cst (.int 8)) (.cons (.cst (.int 2)) .nil))) .nil)))) .nil))))
    (.seq (.unpack [6, 7] (.call "_law_draw_kept" [true, false, false] (.cons (.var 1) (.cons (.idx (.var 3) (.cst (.int 0))) (.cons (.idx (.var 3) (.cst (.int 1))) .nil)))))
    (.seq (.asg 4 (.call "tidied" [false] (.cons (.var 6) .nil)))
    (.seq (.ifs (.or (.cmp .ne (.call "tidied" [false] (.cons (.var 4) .nil)) (.var 4)) (.or (.notn (.call "find_only" [false, false] (.cons (.var 6) (.cons (.var 4) .nil)))) (.notn (.call "find_only" [false, false] (.cons (.var 4) (.cons (.var 6) .nil))))))
    (.seq (.ret (.cst (.bool false)))
    .skip)
    .skip)
    (.seq (.ifs (.or (.not (.call "bears_as_much" [false, false] (.cons (.var 6) (.cons (.var 4) .nil)))) (.not (.call "bears_as_much" [false, false] (.cons (.var 4) (.cons (.var 6) .nil)))))
    (.seq (.ret (.cst (.bool false)))
    .skip)
    .skip)
    (.seq (.for (.nm 5) (.of (.lst (.cons (.var 7) (.cons (.tup .nil) (.cons (.call "_law_some" [true, false, false] (.cons (.var 1) (.cons (.idx (.var 6) (.cst (.int 0))) (.cons (.cst (.int 3)) .nil)))) (.cons (.call "_law_some" [true, false, false] (.cons (.var 1) (.cons (.idx (.var 6) (.cst (.int 0))) (.cons (.cst (.int 2)) .nil)))) .nil)))))) f_law_b3)
    (.seq (.for (.tp [8, 9]) (.enum (.idx (.var 6) (.cst (.int 1)))) f_law_b2)
    .skip)))))))
def f_law : S := (.seq (.asg 1 (.call "_law_open" [false] (.cons (.var 0) .nil)))
    (.seq (.for (.nm 2) (.range1 (.cst (.int 3))) f_law_b4)
    (.seq (.ret (.cst (.bool true)))
    .skip)))
def N_law : List Str := [Str.ofString "script", Str.ofString "pen", Str.ofString "turn", Str.ofString "size", Str.ofString "tidy", Str.ofString "some", Str.ofString "house", Str.ofString "gone", Str.ofString "post", Str.ofString "people", Str.ofString "person", Str.ofString "less", Str.ofString "other", Str.ofString "is_same", Str.ofString "one"]
def L_law : List (String × List Bool) := [("_law_open", [false]), ("_law_one_of", [true, false]), ("_law_draw_kept", [true, false, false]), ("tidied", [false]), ("_law_some", [true, false, false]), ("find_only", [false, false]), ("bears_as_much", [false, false]), ("count_rosters", [false, false]), ("find_with", [false, false, false, false])]
def tops (i : Nat) : Stmt := PySem.Challenge.pw_sparehands_k64_whole_tidy_houses.main.body.getD i (.Pass ⟨0, 0, 0, 0⟩)
theorem m_law_open : mSs L_law_open N_law_open (ioOf 0 [false]) (defScope (tops 22)) (fun _ => true) f_law_open (defBody (tops 22)) = true := by decide +kernel
theorem sc_law_open : FnScope N_law_open [Str.ofString "script"] (defScope (tops 22)) := ⟨rfl, rfl, rfl, by decide +kernel, rfl, by decide +kernel, by decide +kernel⟩
theorem m_law_spread : mSs L_law_spread N_law_spread (ioOf 0 [false, false]) (defScope (tops 23)) (fun _ => true) f_law_spread (defBody (tops 23)) = true := by decide +kernel
theorem sc_law_spread : FnScope N_law_spread [Str.ofString "cell", Str.ofString "at"] (defScope (tops 23)) := ⟨rfl, rfl, rfl, by decide +kernel, rfl, by decide +kernel, by decide +kernel⟩
theorem m_law_take : mSs L_law_take N_law_take (ioOf 0 [true, false]) (defScope (tops 24)) (fun _ => true) f_law_take (defBody (tops 24)) = true := by decide +kernel
theorem sc_law_take : FnScope N_law_take [Str.ofString "pen", Str.ofString "amount"] (defScope (tops 24)) := ⟨rfl, rfl, rfl, by decide +kernel, rfl, by decide +kernel, by decide +kernel⟩
theorem m_law_one_of : mSs L_law_one_of N_law_one_of (ioOf 0 [true, false]) (defScope (tops 25)) (fun _ => true) f_law_one_of (defBody (tops 25)) = true := by decide +kernel
theorem sc_law_one_of : FnScope N_law_one_of [Str.ofString "pen", Str.ofString "some"] (defScope (tops 25)) := ⟨rfl, rfl, rfl, by decide +kernel, rfl, by decide +kernel, by decide +kernel⟩
theorem m_law_some : mSs L_law_some N_law_some (ioOf 0 [true, false, false]) (defScope (tops 26)) (fun _ => true) f_law_some (defBody (tops 26)) = true := by decide +kernel
theorem sc_law_some : FnScope N_law_some [Str.ofString "pen", Str.ofString "many", Str.ofString "rare"] (defScope (tops 26)) := ⟨rfl, rfl, rfl, by decide +kernel, rfl, by decide +kernel, by decide +kernel⟩
theorem m_law_draw_house : mSs L_law_draw_house N_law_draw_house (ioOf 0 [true, false, false]) (defScope (tops 27)) (fun _ => true) f_law_draw_house (defBody (tops 27)) = true := by decide +kernel
theorem sc_law_draw_house : FnScope N_law_draw_house [Str.ofString "pen", Str.ofString "most", Str.ofString "jobs"] (defScope (tops 27)) := ⟨rfl, rfl, rfl, by decide +kernel, rfl, by decide +kernel, by decide +kernel⟩
theorem m_law_fit : mFit [] N_law_fit (defScope (tops 29)) (fun _ => true) (defBody (tops 29)) = true := by decide +kernel
theorem sc_law_fit : FnScope N_law_fit [Str.ofString "house", Str.ofString "gone"] (defScope (tops 29)) := ⟨rfl, rfl, rfl, by decide +kernel, rfl, by decide +kernel, by decide +kernel⟩
theorem m_law_draw_kept : mSs L_law_draw_kept N_law_draw_kept (ioOf 0 [true, false, false]) (defScope (tops 28)) (fun _ => true) f_law_draw_kept (defBody (tops 28)) = true := by decide +kernel
theorem sc_law_draw_kept : FnScope N_law_draw_kept [Str.ofString "pen", Str.ofString "most", Str.ofString "jobs"] (defScope (tops 28)) := ⟨rfl, rfl, rfl, by decide +kernel, rfl, by decide +kernel, by decide +kernel⟩
theorem m_pairs_of : mSs L_pairs_of N_pairs_of (ioOf 0 [false, false]) (defScope (tops 10)) (fun _ => true) f_pairs_of (defBody (tops 10)) = true := by decide +kernel
theorem sc_pairs_of : FnScope N_pairs_of [Str.ofString "house", Str.ofString "gone"] (defScope (tops 10)) := ⟨rfl, rfl, rfl, by decide +kernel, rfl, by decide +kernel, by decide +kernel⟩
theorem m_move_on : mSs L_move_on N_move_on (ioOf 0 [true, false, false, false]) (defScope (tops 4)) (fun _ => true) f_move_on (defBody (tops 4)) = true := by decide +kernel
theorem sc_move_on : FnScope N_move_on [Str.ofString "found", Str.ofString "came", Str.ofString "person", Str.ofString "post"] (defScope (tops 4)) := ⟨rfl, rfl, rfl, by decide +kernel, rfl, by decide +kernel, by decide +kernel⟩
theorem m_place : mSs L_place N_place (ioOf 0 [false, false, true, false]) (defScope (tops 3)) (fun _ => true) f_place (defBody (tops 3)) = true := by decide +kernel
theorem sc_place : FnScope N_place [Str.ofString "house", Str.ofString "gone", Str.ofString "found", Str.ofString "post"] (defScope (tops 3)) := ⟨rfl, rfl, rfl, by decide +kernel, rfl, by decide +kernel, by decide +kernel⟩
theorem m_settled : mSs L_settled N_settled (ioOf 0 [false, false]) (defScope (tops 5)) (fun _ => true) f_settled (defBody (tops 5)) = true := by decide +kernel
theorem sc_settled : FnScope N_settled [Str.ofString "house", Str.ofString "gone"] (defScope (tops 5)) := ⟨rfl, rfl, rfl, by decide +kernel, rfl, by decide +kernel, by decide +kernel⟩
theorem m_find_roster : mSs L_find_roster N_find_roster (ioOf 0 [false, false]) (defScope (tops 6)) (fun _ => true) f_find_roster (defBody (tops 6)) = true := by decide +kernel
theorem sc_find_roster : FnScope N_find_roster [Str.ofString "house", Str.ofString "gone"] (defScope (tops 6)) := ⟨rfl, rfl, rfl, by decide +kernel, rfl, by decide +kernel, by decide +kernel⟩
theorem m_without_post : mSs L_without_post N_without_post (ioOf 0 [false, false]) (defScope (tops 11)) (fun _ => true) f_without_post (defBody (tops 11)) = true := by decide +kernel
theorem sc_without_post : FnScope N_without_post [Str.ofString "house", Str.ofString "post"] (defScope (tops 11)) := ⟨rfl, rfl, rfl, by decide +kernel, rfl, by decide +kernel, by decide +kernel⟩
theorem m_with_person : mSs L_with_person N_with_person (ioOf 0 [false, false]) (defScope (tops 1)) (fun _ => true) f_with_person (defBody (tops 1)) = true := by decide +kernel
theorem sc_with_person : FnScope N_with_person [Str.ofString "gone", Str.ofString "person"] (defScope (tops 1)) := ⟨rfl, rfl, rfl, by decide +kernel, rfl, by decide +kernel, by decide +kernel⟩
theorem m_find_with : mSs L_find_with N_find_with (ioOf 0 [false, false, false, false]) (defScope (tops 12)) (fun _ => true) f_find_with (defBody (tops 12)) = true := by decide +kernel
theorem sc_find_with : FnScope N_find_with [Str.ofString "house", Str.ofString "gone", Str.ofString "post", Str.ofString "person"] (defScope (tops 12)) := ⟨rfl, rfl, rfl, by decide +kernel, rfl, by decide +kernel, by decide +kernel⟩
theorem m_tidied : mTid [("pairs_of", [false, false]), ("find_with", [false, false, false, false])] N_tidied (defScope (tops 14)) (fun _ => true) (defBody (tops 14)) = true := by decide +kernel
theorem sc_tidied : FnScope N_tidied [Str.ofString "house"] (defScope (tops 14)) := ⟨rfl, rfl, rfl, by decide +kernel, rfl, by decide +kernel, by decide +kernel⟩
theorem m_find_only : mSs L_find_only N_find_only (ioOf 0 [false, false]) (defScope (tops 15)) (fun _ => true) f_find_only (defBody (tops 15)) = true := by decide +kernel
theorem sc_find_only : FnScope N_find_only [Str.ofString "one", Str.ofString "other"] (defScope (tops 15)) := ⟨rfl, rfl, rfl, by decide +kernel, rfl, by decide +kernel, by decide +kernel⟩
theorem m_groups_of : mSs L_groups_of N_groups_of (ioOf 0 [false]) (defScope (tops 8)) (fun _ => true) f_groups_of (defBody (tops 8)) = true := by decide +kernel
theorem sc_groups_of : FnScope N_groups_of [Str.ofString "people"] (defScope (tops 8)) := ⟨rfl, rfl, rfl, by decide +kernel, rfl, by decide +kernel, by decide +kernel⟩
theorem m_find_worse : mSs L_find_worse N_find_worse (ioOf 0 [false, false]) (defScope (tops 16)) (fun _ => true) f_find_worse (defBody (tops 16)) = true := by decide +kernel
theorem sc_find_worse : FnScope N_find_worse [Str.ofString "one", Str.ofString "other"] (defScope (tops 16)) := ⟨rfl, rfl, rfl, by decide +kernel, rfl, by decide +kernel, by decide +kernel⟩
theorem m_bears_as_much : mSs L_bears_as_much N_bears_as_much (ioOf 0 [false, false]) (defScope (tops 17)) (fun _ => true) f_bears_as_much (defBody (tops 17)) = true := by decide +kernel
theorem sc_bears_as_much : FnScope N_bears_as_much [Str.ofString "one", Str.ofString "other"] (defScope (tops 17)) := ⟨rfl, rfl, rfl, by decide +kernel, rfl, by decide +kernel, by decide +kernel⟩
theorem mw_person : mWp N_with_person (defScope (tops 1)) (fun _ => true) (defBody (tops 1)) = true := by decide +kernel
theorem m_counted : mCnt N_counted (defScope (tops 19)) (fun _ => true) (defBody (tops 19)) = true := by decide +kernel
theorem sc_counted : FnScope N_counted [Str.ofString "house", Str.ofString "gone", Str.ofString "post"] (defScope (tops 19)) := ⟨rfl, rfl, rfl, by decide +kernel, rfl, by decide +kernel, by decide +kernel⟩
theorem m_count_rosters : mSs L_count_rosters N_count_rosters (ioOf 0 [false, false]) (defScope (tops 20)) (fun _ => true) f_count_rosters (defBody (tops 20)) = true := by decide +kernel
theorem sc_count_rosters : FnScope N_count_rosters [Str.ofString "house", Str.ofString "gone"] (defScope (tops 20)) := ⟨rfl, rfl, rfl, by decide +kernel, rfl, by decide +kernel, by decide +kernel⟩
theorem m_law : mSs L_law N_law (ioOf 0 [false]) (defScope (tops 30)) (fun _ => true) f_law (defBody (tops 30)) = true := by decide +kernel
theorem sc_law : FnScope N_law [Str.ofString "script"] (defScope (tops 30)) := ⟨rfl, rfl, rfl, by decide +kernel, rfl, by decide +kernel, by decide +kernel⟩
end Co

set_option linter.all false
namespace Co
open PySem
local macro_rules | `(tactic| walk_at "wps") => `(tactic| simp -dsimp only [↓wpS, ↓wpE, ↓wpEs, ↓wpEs', ↓wpCs, ↓wpI, ↓callW, ↓okArgs, ↓sigOk, ↓inouts, ↓lents, ↓peeks, ↓peek, ↓pk, ↓slot, ↓setOwn, ↓setC, ↓freeze, ↓isOwn, ↓isIo, ↓slC, ↓isLst, ↓asV, ↓asS, ↓asVs, ↓asSs, ↓isT, ↓R.still, ↓setMany, ↓bindT, ↓wipeE, ↓unwipe, ↓binD, ↓intBin, ↓cmpD, ↓eqD, ↓ordD, ↓ordI, ↓startE, ↓endsOf, ↓ioOf, ↓newsOf, ↓Sl.r, ↓itemsOf, ↓slcD, ↓revD, ↓b1D, ↓b2D, ↓isNoneD, ↓noRefR, ↓noRef, ↓noRefs, ite_self, ↓isTy, ↓List.getElem?_cons_zero, ↓List.getElem?_cons_succ, ↓List.getElem?_nil, ↓Option.join_some, ↓Option.join_none, ↓Option.isSome_some, ↓Option.isSome_none, ↓List.set_cons_zero, ↓List.set_cons_succ, ↓List.replicate, ↓List.length_cons, ↓List.length_nil, ↓List.isEmpty_cons, ↓List.isEmpty_nil, ↓List.all_cons, ↓List.all_nil, ↓List.filterMap_cons, ↓List.filterMap_nil, ↓List.contains_cons, ↓List.contains_nil, ↓Bool.and_true, ↓Bool.true_and, ↓Bool.and_false, ↓Bool.false_and, ↓Bool.not_true, ↓Bool.not_false, ↓if_true, ↓sh_int, ↓sh_bool, ↓sh_none, ↓eqv_ii, ↓eqv_bb, ↓eqv_ss, ↓brn_true, ↓brn_false, brn_true, brn_false, ↓List.any_cons, ↓List.any_nil, ↓if_false, ↓ite_true, ↓ite_false, ↓true_and, ↓and_true, ↓Bool.false_eq_true, ↓reduceCtorEq, ↓decide_true, ↓decide_false, ↓List.map_cons, ↓List.map_nil, ↓Tg.slots, ↓List.nodup_cons, ↓List.nodup_nil, ↓List.not_mem_nil, ↓not_false_eq_true, ↓forall_const, ↓true_implies, ↓bI, Nat.reduceAdd, Nat.reduceSub, Nat.reduceEqDiff, Int.reduceLT, Int.reduceLE, Nat.reduceLT, Nat.reduceLeDiff, Int.reduceNeg, Nat.reduceBEq, ↓BEq.rfl, ↓beq_self_eq_true, ↓Bool.or_false, ↓Bool.or_true])
def Pen (t : Nat) (d : PyData) : Prop := ∃ (cells : List Int) (k num : Int), d = .list [.list (cells.map .int), .int k, .int num] ∧ 0 ≤ k ∧ k ≤ t ∧ 0 ≤ num
def takeSp : Spec := fun ds Q => ∃ t pen n, ds = [pen, .int n] ∧ Pen t pen ∧ t < 1000000 ∧ 0 < n ∧ n < 1000000 ∧ ∀ r pen', 0 ≤ r → r < n → Pen (t + 1) pen' → Q (.val (.int r)) [pen']
def oneOfSp : Spec := fun ds Q => ∃ t pen xs, ds = [pen, xs] ∧ Pen t pen ∧ t < 1000000 ∧ (∃ l, itemsOf xs = some l ∧ 0 < l.length ∧ l.length < 1000000 ∧ ∀ x pen', x ∈ l → Pen (t + 1) pen' → Q (.val x) [pen'])
theorem one_of_ok (Φ : Tbl) (h : Φ "_law_take" = takeSp) : Impl Φ [true, false] 2 f_law_one_of oneOfSp := by
  rintro ds Q ⟨t, pen, xs, rfl, hp, ht, l, hl, h1, h2, k⟩ _
  have atR : ∀ {l : List PyData} {r : Int}, 0 ≤ r → r < l.length → ∃ v, L2.atI l r = some v ∧ v ∈ l := fun {l r} a b => by
    have hr : r.toNat < l.length := by omega
    refine ⟨l[r.toNat], ?_, List.getElem_mem hr⟩
    unfold L2.atI L2.ixN
    rw [if_pos a, if_pos b]
    simp [hr]
  cases xs <;> simp [itemsOf] at hl <;> subst hl
  all_goals
    unfold f_law_one_of
    walk_at "wps"
    simp only [h]
    refine ⟨_, rfl, t, pen, _, rfl, hp, ht, by omega, by omega, fun r pen' a b c _ => ?_⟩
    walk_at "wps"
    obtain ⟨v, hv, hm⟩ := atR a (by simpa using b)
    exact ⟨v, hv, k v pen' hm c⟩

def openSp : Spec := fun ds Q => ∃ ns : List Int, ds = [.list (ns.map .int)] ∧ ns.length ≤ 63 ∧ ∀ p, Pen 0 p → Q (.own p) []
theorem open_ok (Φ : Tbl) : Impl Φ [false] 4 f_law_open openSp := by
  rintro ds Q ⟨ns, rfl, hl, k⟩ _
  unfold f_law_open
  walk_at "wps"
  have hc : ∃ cs : List Int, cut (ns.map PyData.int) none (some 12) = cs.map .int ∧ (cs.length = 12 ∨ ns.length < 12) := by
    refine ⟨_, cut_map _ _ _ _, ?_⟩
    simp [HT.sIx]
    omega
  obtain ⟨cs, hcs, hlen⟩ := hc
  rw [hcs]
  refine for_inv (fun i e => ∃ (cs : List Int) (a b : Option Sl), e = [some (.val (.list (ns.map .int))), some (.own (.list (cs.map .int))), a, b] ∧ (cs.length = 12 ∨ ns.length < 12)) ⟨cs, none, none, rfl, hlen⟩ ?_ ?_
  · rintro i x e N hx ⟨cs, a, b, rfl, hlen⟩ next
    obtain ⟨c, rfl, hc⟩ := enum_some hx
    rw [cut_map] at hc
    obtain ⟨c, rfl, hc⟩ := map_some hc
    have h12 : cs.length = 12 := by
      rcases hlen with h | h
      · exact h
      · exfalso
        have hl := (List.getElem?_eq_some_iff.mp hc).1
        simp [HT.sIx] at hl
        omega
    have hlt : (i : Int) % 12 < ((cs.map PyData.int).length : Nat) := by rw [List.length_map, h12]; omega
    have h0 : 0 ≤ (i : Int) % 12 := by omega
    unfold f_law_open_b1
    walk_at "wps"
    refine stp_at h0 hlt fun v hv _ => ?_
    obtain ⟨y, hy, rfl⟩ := List.mem_map.mp hv
    walk_at "wps"
    refine ⟨_, ix_ok h0 hlt, next _ ⟨cs.set ((i : Int) % 12).toNat (y + c), some (.val (.int (i : Int))), some (.val (.int c)), by rw [List.map_set], .inl (by simp [h12])⟩⟩
  · rintro e ⟨cs, a, b, rfl, _⟩
    walk_at "wps"
    exact k _ ⟨cs, 0, 0, rfl, by decide, by decide, by decide⟩
def spreadSp : Spec := fun ds Q => ∃ c a : Int, ds = [.int c, .int a] ∧ 0 ≤ a ∧ a < 1000000 ∧ ∀ r, 0 ≤ r → Q (.val (.int r)) []
theorem spread_ok (Φ : Tbl) : Impl Φ [false, false] 6 f_law_spread spreadSp := by
  rintro ds Q ⟨c, a, rfl, h1, h2, k⟩ _
  unfold f_law_spread
  walk_at "wps"
  refine ⟨⟨by decide, by decide, by decide⟩, brn_of (fun hb => ?_) (fun hb => ?_)⟩
  · walk_at "wps"
    exact k c (by simp at hb; omega)
  · have hpr : ∀ v ∈ [2147483629, 2147483587, 2147483579, 2147483563, 2147483549, 2147483543, 2147483497, 2147483489, 2147483477, 2147483423, 2147483399, 2147483353, 2147483323].map PyData.int, ∃ p : Int, v = .int p ∧ 2147483323 ≤ p ∧ p ≤ 2147483629 := by
      intro v hv
      obtain ⟨p, hp, rfl⟩ := List.mem_map.mp hv
      refine ⟨p, rfl, ?_⟩
      clear hv
      revert p
      decide
    have hc : 0 ≤ c % 1000000007 ∧ c % 1000000007 < 1000000007 := by omega
    have hone : 0 ≤ c % 1000000007 * (2 * a + 69069) + a * 40503 + 977 ∧ c % 1000000007 * (2 * a + 69069) + a * 40503 + 977 < 2 ^ 63 := by
      have h3 := Int.mul_nonneg hc.1 (show 0 ≤ 2 * a + 69069 by omega)
      have h4 : c % 1000000007 * (2 * a + 69069) ≤ 1000000007 * 2069069 := Int.mul_le_mul (by omega) (by omega) (by omega) (by omega)
      omega
    generalize hog : c % 1000000007 * (2 * a + 69069) + a * 40503 + 977 = one at hone
    walk_at "wps"
    refine ⟨by decide, .inl (by omega), .inl (by omega), .inr (by omega), ?_⟩
    rw [hog]
    refine ⟨⟨by decide, by decide, by omega⟩, stp_at (by omega) (by simp; omega) fun v hv _ => ?_⟩
    obtain ⟨p, rfl, p1, p2⟩ := hpr v (by simpa using hv)
    clear hv
    have ho1 : 0 ≤ one ^ Int.toNat 3 % p ∧ one ^ Int.toNat 3 % p < p := ⟨Int.emod_nonneg _ (by omega), Int.emod_lt_of_pos _ (by omega)⟩
    walk_at "wps"
    generalize one ^ Int.toNat 3 % p = o1 at ho1 ⊢
    have ht2 : 0 ≤ o1 * (a + 3) + c % 65537 + 5 ∧ o1 * (a + 3) + c % 65537 + 5 < 2 ^ 63 := by
      have h3 := Int.mul_nonneg ho1.1 (show 0 ≤ a + 3 by omega)
      have h4 : o1 * (a + 3) ≤ 2147483629 * 1000003 := Int.mul_le_mul (by omega) (by omega) (by omega) (by omega)
      omega
    refine ⟨by omega, .inl (by omega), ⟨by decide, by decide, by omega⟩, stp_at (by omega) (by simp; omega) fun v hv _ => ?_⟩
    obtain ⟨p', rfl, p1', p2'⟩ := hpr v (by simpa using hv)
    clear hv
    have ho2 : 0 ≤ (o1 * (a + 3) + c % 65537 + 5) ^ Int.toNat 5 % p' ∧ (o1 * (a + 3) + c % 65537 + 5) ^ Int.toNat 5 % p' < p' := ⟨Int.emod_nonneg _ (by omega), Int.emod_lt_of_pos _ (by omega)⟩
    walk_at "wps"
    generalize (o1 * (a + 3) + c % 65537 + 5) ^ Int.toNat 5 % p' = o2 at ho2 ⊢
    refine ⟨by omega, ⟨by decide, by decide, by omega⟩, stp_at (by omega) (by simp; omega) fun v hv _ => ?_⟩
    obtain ⟨p'', rfl, p1'', p2''⟩ := hpr v (by simpa using hv)
    clear hv
    have ho3 : 0 ≤ (o2 + o1 % 1009 + a) ^ Int.toNat 3 % p'' ∧ (o2 + o1 % 1009 + a) ^ Int.toNat 3 % p'' < p'' := ⟨Int.emod_nonneg _ (by omega), Int.emod_lt_of_pos _ (by omega)⟩
    walk_at "wps"
    generalize (o2 + o1 % 1009 + a) ^ Int.toNat 3 % p'' = o3 at ho3 ⊢
    refine ⟨by omega, .inr (by omega), .inr (by omega), k _ (by omega)⟩
theorem take_ok (Φ : Tbl) (h : Φ "_law_spread" = spreadSp) : Impl Φ [true, false] 5 f_law_take takeSp := by
  rintro ds Q ⟨t, pen, n, rfl, ⟨cells, at_, num, rfl, h1, h2, h3⟩, ht, hn, hn2, k⟩ _
  unfold f_law_take
  refine wps_seq (fun e => ∃ (a num' : Int) (e2 e3 e4 : Option Sl), e = [some (.io (.list [.list (cells.map .int), .int a, .int num'])), some (.val (.int n)), e2, e3, e4] ∧ 0 ≤ a ∧ a ≤ ((t + 1 : Nat) : Int) ∧ 0 ≤ num') (fun N next => ?_) ?_
  · walk_at "wps"
    refine stp_n (n := 2) rfl ?_
    walk_at "wps"
    refine brn_of (fun hb => ?_) (fun hb => ?_)
    · walk_at "wps"
      refine stp_n (n := 1) rfl ?_
      walk_at "wps"
      refine stp_n (n := 0) rfl ?_
      walk_at "wps"
      refine brn_of (fun hb => ?_) (fun hb => ?_)
      · walk_at "wps"
        refine stp_n (n := 0) rfl ?_
        walk_at "wps"
        simp only [decide_eq_true_eq] at hb
        refine stp_at h1 hb fun v hv _ => ?_
        obtain ⟨c, _, rfl⟩ := List.mem_map.mp hv
        walk_at "wps"
        refine ⟨1, rfl, _, rfl, ?_⟩
        rw [h]
        refine ⟨_, at_, rfl, h1, by omega, fun r hr _ => ?_⟩
        walk_at "wps"
        refine ⟨2, rfl, next _ ⟨at_ + 1, r, none, _, _, rfl, by omega, by omega, hr⟩⟩
      · walk_at "wps"
        refine stp_n (n := 0) rfl ?_
        walk_at "wps"
        refine brn_of (fun hb2 => ?_) (fun hb2 => ?_)
        · simp only [decide_eq_true_eq] at hb2
          walk_at "wps"
          refine stp_n (n := 0) rfl ?_
          walk_at "wps"
          refine ⟨.inr (by omega), stp_n (n := 0) rfl ?_⟩
          walk_at "wps"
          refine ⟨hb2, stp_at (Int.emod_nonneg _ (by omega)) (Int.emod_lt_of_pos _ hb2) fun v hv _ => ?_⟩
          obtain ⟨c, _, rfl⟩ := List.mem_map.mp hv
          walk_at "wps"
          refine ⟨⟨by decide, by decide, by decide⟩, Int.add_pos_of_pos_of_nonneg (by decide) h1, ?_⟩
          refine ⟨1, rfl, _, rfl, ?_⟩
          rw [h]
          refine ⟨_, at_, rfl, h1, by omega, fun r hr _ => ?_⟩
          walk_at "wps"
          refine ⟨2, rfl, next _ ⟨at_ + 1, r, none, _, _, rfl, by omega, by omega, hr⟩⟩
        · walk_at "wps"
          refine ⟨1, rfl, _, rfl, ?_⟩
          rw [h]
          refine ⟨_, at_, rfl, h1, by omega, fun r hr _ => ?_⟩
          walk_at "wps"
          refine ⟨2, rfl, next _ ⟨at_ + 1, r, none, _, _, rfl, by omega, by omega, hr⟩⟩
    · walk_at "wps"
      exact next _ ⟨at_, num, _, _, _, rfl, h1, by omega, h3⟩
  · rintro e ⟨a, num', e2, e3, e4, rfl, ha, hat, hnum⟩
    walk_at "wps"
    refine stp_n (n := 2) rfl ?_
    walk_at "wps"
    refine ⟨hn, stp_n (n := 2) rfl ?_⟩
    walk_at "wps"
    refine ⟨⟨hn, by omega⟩, 2, rfl, ?_⟩
    walk_at "wps"
    exact k _ _ (Int.emod_nonneg _ (by omega)) (Int.emod_lt_of_pos _ hn) ⟨cells, a, num' / n, rfl, ha, hat, Int.ediv_nonneg hnum (by omega)⟩
end Co

set_option linter.all false
namespace Co
open PySem
/-! ### equal data -/
mutual
def plainD : Nat → PyData → Bool
  | _, .none => true
  | _, .int _ => true
  | _, .bool _ => true
  | _, .str x => PyData.strOk x
  | k + 1, .tuple l => decide (l.length < 100000) && plainDs k l
  | k + 1, .list l => decide (l.length < 100000) && plainDs k l
  | _, _ => false
def plainDs : Nat → List PyData → Bool
  | _, [] => true
  | k, x :: l => plainD k x && plainDs k l
end
theorem plainDs_mem {k : Nat} : ∀ {l : List PyData} {x : PyData}, plainDs k l = true → x ∈ l → plainD k x = true
  | [], x, _, h => by simp at h
  | y :: l, x, h, hm => by
    simp only [plainDs, Bool.and_eq_true] at h
    rcases List.mem_cons.mp hm with rfl | hm
    · exact h.1
    · exact plainDs_mem h.2 hm
theorem no_false {α : Type} {l : List α} {K : Bool → Prop} (k : K false) : memD (.bool false) (.list (l.map fun _ => .bool true)) K := by
  refine ⟨rfl, (ok_list (k := 0) fun x hx => ?_).sh (by decide), ?_⟩
  · obtain ⟨_, _, rfl⟩ := List.mem_map.mp hx
    exact ok_bool
  · have e : ((l.map fun _ => PyData.bool true).any fun z => PyData.eqv z (.bool false)) = false := by
      rw [List.any_eq_false]
      intro x hx
      obtain ⟨_, _, rfl⟩ := List.mem_map.mp hx
      rw [eqv_bb]; decide
    rw [e]; exact k
def sameSp (k : Nat) : Spec := fun ds Q => (∃ d, ds = [d, d] ∧ plainD k d = true) ∧ Q (.val (.bool true)) []
end Co

set_option linter.all false
namespace Co
open PySem
/-! ### houses -/
def intsD (l : List Int) : PyData := .tuple (l.map .int)
def houseD (n : Nat) (ps : List (List Int)) : PyData := .tuple [.int n, .tuple (ps.map intsD)]
/-- ascending, below n -/
def asc (n : Nat) (l : List Int) : Prop := l.Pairwise (· < ·) ∧ ∀ x ∈ l, 0 ≤ x ∧ x < n
theorem Pen.mono {t u : Nat} {d : PyData} (h : Pen t d) (q : t ≤ u) : Pen u d := by
  obtain ⟨a, b, c, e, h1, h2, h3⟩ := h
  exact ⟨a, b, c, e, h1, by omega, h3⟩
def drawHouseSp : Spec := fun ds Q => ∃ t pen, ∃ people posts rare : Nat, ds = [pen, .int people, .int posts, .int rare] ∧ Pen t pen ∧ t < 900000 ∧ 0 < people ∧ people ≤ 20 ∧ posts ≤ 20 ∧ 0 < rare ∧ rare ≤ 100 ∧
  ∀ (n : Nat) (ps : List (List Int)) pen', 0 < n → n ≤ people → ps.length ≤ posts → (∀ l ∈ ps, asc n l) → Pen (t + 1000) pen' → Q (.val (houseD n ps)) [pen']
end Co

set_option linter.all false
namespace Co
open PySem
theorem wps_seq4 {Φ : Tbl} {a b c d r : S} {env : Env} {D : Ends} (I : Env → Prop) (h1 : ∀ N : Env → Prop, (∀ e, I e → N e) → wpS Φ (.seq a (.seq b (.seq c d))) env { D with nx := N }) (h2 : ∀ e, I e → wpS Φ r e D) : wpS Φ (.seq a (.seq b (.seq c (.seq d r)))) env D :=
  h1 (fun e => wpS Φ r e D) h2
def oddSp : Spec := fun ds Q => ∃ t pen, ds = [pen] ∧ Pen t pen ∧ t < 900000 ∧ ∀ x pen', gd B30 2 2 x = true → x.bulk ≤ 2 → Pen (t + 1) pen' → Q (.val x) [pen']
def oddL : List PyData := [.none, .bool true, .bool false, .int 0, .int 1, .int (-1), .str (Str.ofString ""), .str (Str.ofString "a"), .tuple [], .list [], .dict [], .tuple [.int 0], .tuple [.int 0, .int 0], .list [.tuple []], .tuple [.tuple []], .int 99, .int (10 ^ Int.toNat 20)]
theorem odd_all : (oddL.all fun x => gd B30 2 2 x && decide (x.bulk ≤ 2)) = true := by decide +kernel
def isR (r : Sl) : Prop := (∃ d, r = .val d) ∨ ∃ l, r = .own (.list l)
def bentSp (k : Nat) : Spec := fun ds Q => ∃ t pen v c, ds = [pen, v] ∧ Pen t pen ∧ t + 10 * k < 800000 ∧ k ≤ 10 ∧ 1 ≤ c ∧ c ≤ 10000 ∧ gd B12 c k v = true ∧
  ∀ r pen', gd B30 (c + 1) (k + 2) r.d = true → r.d.bulk ≤ 2 * v.bulk + 2 → isR r → Pen (t + 10 * (k + 1)) pen' → Q r [pen']
end Co

set_option linter.all false
namespace Co
open PySem
theorem eqv_nil {ns : List Int} : PyData.eqv (.list (ns.map .int)) (.list []) = decide (ns = []) := by
  cases ns <;> simp [PyData.eqv, PyData.eqvAll]
theorem eqv_nilT {ns : List Int} : PyData.eqv (.tuple (ns.map .int)) (.tuple []) = decide (ns = []) := by
  cases ns <;> simp [PyData.eqv, PyData.eqvAll]
theorem eqvAll_ints : ∀ {a b : List Int}, PyData.eqvAll (a.map .int) (b.map .int) = decide (a = b)
  | [], [] => rfl
  | [], y :: b => by simp [PyData.eqvAll]
  | x :: a, [] => by simp [PyData.eqvAll]
  | x :: a, y :: b => by
    simp only [List.map_cons, PyData.eqvAll, eqvAll_ints (a := a) (b := b), eqv_ii]
    by_cases h : x = y <;> simp [h]
theorem eqv_ints {a b : List Int} : PyData.eqv (.list (a.map .int)) (.list (b.map .int)) = decide (a = b) := by
  simp only [PyData.eqv, eqvAll_ints]
theorem sh_intsL {l : List Int} : SeqAt.shaped (.list (l.map .int)) = true := (ok_list (k := 0) fun x hx => by
  obtain ⟨_, _, rfl⟩ := List.mem_map.mp hx
  exact ok_int).sh (by decide)
theorem sh_intsT {l : List Int} : SeqAt.shaped (.tuple (l.map .int)) = true := (ok_tuple (k := 0) fun x hx => by
  obtain ⟨_, _, rfl⟩ := List.mem_map.mp hx
  exact ok_int).sh (by decide)
/-! ### in a drawn order -/
theorem er_map {α β : Type} (f : α → β) : ∀ (l : List α) (i : Nat), (l.map f).eraseIdx i = (l.eraseIdx i).map f
  | [], i => by simp
  | x :: l, 0 => rfl
  | x :: l, i + 1 => by simp [er_map f l i]
theorem er_perm {α : Type} : ∀ (l : List α) (i : Nat) (h : i < l.length), (l[i] :: l.eraseIdx i).Perm l
  | [], i, h => by simp at h
  | x :: l, 0, h => List.Perm.refl _
  | x :: l, i + 1, h => by
    have := er_perm l i (by simpa using h)
    exact (List.Perm.swap x _ _).trans (this.cons x)
def shufSp : Spec := fun ds Q => ∃ t pen, ∃ ns : List Int, ds = [pen, .tuple (ns.map .int)] ∧ Pen t pen ∧ t < 800000 ∧ ns.length ≤ 1000 ∧ ∀ (ns' : List Int) pen', ns'.Perm ns → Pen (t + ns.length) pen' → Q (.val (.tuple (ns'.map .int))) [pen']
/-! ### integers within bounds -/
def isI : PyData → Bool
  | .int _ => true
  | _ => false
def inR (lo hi : Int) : PyData → Bool
  | .int i => decide (lo ≤ i) && decide (i ≤ hi)
  | _ => false
def intSp : Spec := fun ds Q => ∃ d, ds = [d] ∧ Q (.val (.bool (isI d))) []
def withinSp : Spec := fun ds Q => ∃ d, ∃ lo hi : Int, ds = [d, .int lo, .int hi] ∧ Q (.val (.bool (inR lo hi d))) []
end Co

set_option linter.all false
namespace Co
open PySem
/-! ### ascending tuples -/
def adj : List Int → Bool
  | x :: y :: l => decide (x < y) && adj (y :: l)
  | _ => true
theorem adj_iff : ∀ {l : List Int}, adj l = true ↔ l.Pairwise (· < ·)
  | [] => by simp [adj]
  | [x] => by simp [adj]
  | x :: y :: l => by
    rw [adj, Bool.and_eq_true, decide_eq_true_eq, adj_iff (l := y :: l)]
    constructor
    · rintro ⟨h1, h2⟩
      refine List.Pairwise.cons (fun z hz => ?_) h2
      rcases List.mem_cons.mp hz with rfl | hz
      · exact h1
      · exact Int.lt_trans h1 ((List.pairwise_cons.mp h2).1 z hz)
    · intro h
      exact ⟨(List.pairwise_cons.mp h).1 y List.mem_cons_self, (List.pairwise_cons.mp h).2⟩
/-- whether d is an ascending tuple of ints from 0 to below m -/
def ascB (m : Int) : PyData → Bool
  | .tuple l => l.all (inR 0 (m - 1)) && (match intsOf l with
    | some ns => adj ns
    | none => false)
  | _ => false
theorem intsOf_map' (l : List Int) : intsOf (l.map .int) = some l := by
  induction l with
  | nil => rfl
  | cons x l ih => simp [intsOf, ih]
theorem all_inR {lo hi : Int} : ∀ {l : List PyData}, l.all (inR lo hi) = true → ∃ ns : List Int, l = ns.map .int ∧ ∀ x ∈ ns, lo ≤ x ∧ x ≤ hi
  | [], _ => ⟨[], rfl, by simp⟩
  | x :: l, h => by
    rw [List.all_cons, Bool.and_eq_true] at h
    obtain ⟨ns, rfl, hn⟩ := all_inR h.2
    cases x <;> simp only [inR, Bool.false_eq_true, false_and] at h
    rename_i i
    have h1 := h.1
    rw [Bool.and_eq_true, decide_eq_true_eq, decide_eq_true_eq] at h1
    exact ⟨i :: ns, rfl, fun y hy => by
      rcases List.mem_cons.mp hy with rfl | hy
      · exact h1
      · exact hn y hy⟩
theorem ascB_true {m : Int} {d : PyData} (h : ascB m d = true) : ∃ ns : List Int, d = .tuple (ns.map .int) ∧ ns.Pairwise (· < ·) ∧ ∀ x ∈ ns, 0 ≤ x ∧ x < m := by
  cases d <;> simp only [ascB, Bool.false_eq_true] at h
  rw [Bool.and_eq_true] at h
  obtain ⟨ns, rfl, hn⟩ := all_inR h.1
  have h2 := h.2
  rw [intsOf_map'] at h2
  exact ⟨ns, rfl, adj_iff.mp h2, fun x hx => by have := hn x hx; omega⟩
theorem boolsOf_map {α : Type} (f : α → Bool) (l : List α) : boolsOf (l.map fun x => PyData.bool (f x)) = some (l.map f) := by
  induction l with
  | nil => rfl
  | cons x l ih => simp [boolsOf, ih]
theorem all_id {α : Type} (f : α → Bool) (l : List α) : ((l.map f).all id) = l.all f := by simp [List.all_map, Function.comp_def]
theorem any_id {α : Type} (f : α → Bool) (l : List α) : ((l.map f).any id) = l.any f := by simp [List.any_map, Function.comp_def]
theorem adj_zip : ∀ (l : List Int), ((l.zip (l.drop 1)).all fun p => decide (p.1 < p.2)) = adj l
  | [] => rfl
  | [x] => rfl
  | x :: y :: l => by
    have := adj_zip (y :: l)
    simp only [List.drop_succ_cons, List.drop_zero, List.zip_cons_cons, List.all_cons] at this ⊢
    rw [adj, this]
theorem cut_drop1 (l : List PyData) : cut l (some 1) none = l.drop 1 := by
  cases l with
  | nil => simp [cut]
  | cons x l => rw [cut_drop (by decide) (by simp; omega)]; rfl
theorem pairs2_ints (a b : List Int) : pairs2 (a.map .int) (b.map .int) = (a.zip b).map fun p => .tuple [.int p.1, .int p.2] := by
  unfold pairs2
  rw [List.zip_map, List.map_map]; rfl
theorem any_false {α : Type} (f : α → Bool) : ∀ l : List α, ((l.map fun x => PyData.bool (f x)).any fun z => PyData.eqv z (.bool false)) = !(l.all f)
  | [] => rfl
  | x :: l => by
    rw [List.map_cons, List.any_cons, List.all_cons, eqv_bb, any_false f l]
    cases f x <;> simp
theorem mem_false {α : Type} {f : α → Bool} {l : List α} {K : Bool → Prop} (h1 : l.all f = false → K true) (h2 : l.all f = true → K false) : memD (.bool false) (.list (l.map fun x => .bool (f x))) K := by
  refine ⟨rfl, (ok_list (k := 0) fun x hx => ?_).sh (by decide), ?_⟩
  · obtain ⟨_, _, rfl⟩ := List.mem_map.mp hx
    exact ok_bool
  · rw [any_false]
    cases h : l.all f
    · exact h1 h
    · exact h2 h
def ascSp : Spec := fun ds Q => ∃ d, ∃ m : Int, ds = [d, .int m] ∧ (∀ l, d = .tuple l → l.length ≤ 63) ∧ Q (.val (.bool (ascB m d))) []
theorem sorted_uniq {a b : List Int} (ha : a.Pairwise (· < ·)) (hb : b.Pairwise (· < ·)) (h : ∀ x, x ∈ a ↔ x ∈ b) : a = b := by
  have na : a.Nodup := ha.imp fun h => by omega
  have nb : b.Nodup := hb.imp fun h => by omega
  exact List.Perm.eq_of_pairwise (le := fun x y : Int => x < y) (fun x y _ _ h1 h2 => by omega) ha hb ((List.perm_ext_iff_of_nodup na nb).mpr h)
end Co

set_option linter.all false
namespace Co
open PySem
def rng (n : Nat) : List Int := (List.range n).map fun (k : Nat) => (k : Int)
theorem rangeL_eq (n : Nat) : rangeL 0 n = (rng n).map .int := by
  unfold rangeL rng
  rw [List.map_map]
  exact List.map_congr_left fun k _ => by simp
theorem rng_len (n : Nat) : (rng n).length = n := by simp [rng]
theorem rng_mem {n : Nat} {x : Int} : x ∈ rng n ↔ 0 ≤ x ∧ x < n := by
  unfold rng
  constructor
  · intro h
    obtain ⟨k, hk, rfl⟩ := List.mem_map.mp h
    have := List.mem_range.mp hk
    omega
  · intro h
    exact List.mem_map.mpr ⟨x.toNat, List.mem_range.mpr (by omega), by omega⟩
theorem rng_asc (n : Nat) : asc n (rng n) := by
  refine ⟨?_, fun x hx => rng_mem.mp hx⟩
  unfold rng
  rw [List.pairwise_map]
  exact List.pairwise_lt_range.imp fun h => by omega
theorem any_ints {l : List Int} {x : Int} : ((l.map PyData.int).any fun z => PyData.eqv z (.int x)) = l.contains x := by
  induction l with
  | nil => rfl
  | cons y l ih =>
    rw [List.map_cons, List.any_cons, ih, eqv_ii, List.contains_cons]
    congr 1
    by_cases h : y = x
    · subst h; simp
    · simp [h, Ne.symm h]
theorem mem_ints {g : List Int} {x : Int} {K : Bool → Prop} (k : K (g.contains x)) : memD (.int x) (.tuple (g.map .int)) K :=
  ⟨rfl, sh_intsT, by rw [any_ints]; exact k⟩
theorem mem_intsL {g : List Int} {x : Int} {K : Bool → Prop} (k : K (g.contains x)) : memD (.int x) (.list (g.map .int)) K :=
  ⟨rfl, sh_intsL, by rw [any_ints]; exact k⟩
theorem fm_ints (p : Int → Bool) : ∀ l : List Int, (l.map PyData.int).filterMap (fun d => match d with | PyData.int x => if p x = true then some (PyData.int x) else none | _ => none) = (l.filter p).map PyData.int
  | [] => rfl
  | x :: l => by
    rw [List.map_cons, List.filterMap_cons, List.filter_cons]
    cases h : p x <;> simp [h, fm_ints p l]
theorem lc_ints {bind : PyData → Env → (Env → Prop) → Prop} {conds : Env → (Bool → Env → Prop) → Prop} {elt : Env → (PyData → Env → Prop) → Prop} {own : List Nat} {l : List Int} {env : Env} {K : List PyData → Env → Prop} (p : Int → Bool)
    (hs : ∀ x acc (N : List PyData → Env → Prop), x ∈ l → (∀ e, wipeE e own = wipeE env own → if p x = true then N (acc ++ [.int x]) e else N acc e) → bind (.int x) (wipeE env own) fun env1 => conds env1 fun b env2 =>
      if b = true then elt env2 fun y env3 => N (acc ++ [y]) env3 else N acc env2)
    (hd : K ((l.filter p).map .int) (wipeE env own)) : lcGo bind conds elt own (l.map .int) [] env K := by
  refine lc_pure (fun d => match d with | .int x => if p x = true then some (.int x) else none | _ => none) (fun d acc N hd next => ?_) (by rw [fm_ints]; exact hd)
  obtain ⟨x, hx, rfl⟩ := List.mem_map.mp hd
  refine hs x acc N hx fun e he => ?_
  have := next e he
  by_cases h : p x = true
  · rw [if_pos h]
    simp only [if_pos h] at this; exact this
  · rw [if_neg h]
    simp only [if_neg h] at this; exact this
/-! ### who can take some posts -/
def canB (ps : List (List Int)) (x : Int) (p : Int) : Bool := (ps.getD p.toNat []).contains x
def tkL (n : Nat) (ps : List (List Int)) (g ns : List Int) : List Int := (rng n).filter fun x => !g.contains x && ns.any (canB ps x)
def takersSp : Spec := fun ds Q => ∃ n ps g ns, ds = [houseD n ps, intsD g, intsD ns] ∧ n ≤ 20 ∧ ps.length ≤ 20 ∧ ns.length ≤ 1000 ∧ (∀ p ∈ ns, 0 ≤ p ∧ p < ps.length) ∧ Q (.own (.list ((tkL n ps g ns).map .int))) []
theorem idx_ps {Φ : Tbl} {ps : List (List Int)} {p : Int} {K : PyData → Prop} (h0 : 0 ≤ p) (h1 : p < ps.length) (k : K (intsD (ps.getD p.toNat []))) : stp (idxD (.tuple (ps.map intsD)) (.int p)) K .mk := by
  refine stp_atT h0 (by rw [List.length_map]; exact h1) fun v _ hv => ?_
  obtain ⟨l, rfl, hl⟩ := map_some hv
  have e : ps.getD p.toNat [] = l := by rw [List.getD_eq_getElem?_getD, hl]; rfl
  rw [e] at k; exact k
end Co

set_option linter.all false
namespace Co
open PySem
theorem filter_nil {α : Type} (f : α → Bool) (l : List α) : (!decide (l.filter f = [])) = l.any f := by
  induction l with
  | nil => rfl
  | cons x l ih =>
    rw [List.filter_cons, List.any_cons]
    cases h : f x
    · rw [if_neg (by decide), Bool.false_or]; exact ih
    · simp
def spareV (n : Nat) (ps : List (List Int)) (g ns : List Int) : Int := ((tkL n ps g ns).length : Nat) - (ns.length : Nat)
def spareSp : Spec := fun ds Q => ∃ n ps g ns, ds = [houseD n ps, intsD g, intsD ns] ∧ n ≤ 20 ∧ ps.length ≤ 20 ∧ ns.length ≤ 1000 ∧ (∀ p ∈ ns, 0 ≤ p ∧ p < ps.length) ∧ Q (.val (.int (spareV n ps g ns))) []
/-! ### drawn: who is gone; all sets -/
def goneSp : Spec := fun ds Q => ∃ t pen n ps, ∃ rare : Nat, ds = [pen, houseD n ps, .int rare] ∧ Pen t pen ∧ t < 800000 ∧ n ≤ 20 ∧ 0 < rare ∧ rare ≤ 100 ∧ ∀ g pen', asc n g → Pen (t + n) pen' → Q (.val (intsD g)) [pen']
def subs : Nat → List (List Int)
  | 0 => [[]]
  | m + 1 => subs m ++ (subs m).map (· ++ [(m : Int)])
theorem subs_len : ∀ m, (subs m).length = 2 ^ m
  | 0 => rfl
  | m + 1 => by rw [subs, List.length_append, List.length_map, subs_len m]; omega
theorem subs_mem : ∀ {m : Nat} {s : List Int}, s ∈ subs m → s.Pairwise (· < ·) ∧ (∀ x ∈ s, 0 ≤ x ∧ x < m) ∧ s.length ≤ m
  | 0, s, h => by simp [subs] at h; subst h; simp
  | m + 1, s, h => by
    rw [subs, List.mem_append] at h
    rcases h with h | h
    · obtain ⟨a, b, c⟩ := subs_mem h
      exact ⟨a, fun x hx => by have := b x hx; omega, by omega⟩
    · obtain ⟨s', hs, rfl⟩ := List.mem_map.mp h
      obtain ⟨a, b, c⟩ := subs_mem hs
      refine ⟨?_, fun x hx => ?_, by rw [List.length_append]; simp; omega⟩
      · rw [List.pairwise_append]
        exact ⟨a, List.pairwise_singleton _ _, fun x hx y hy => by
          rw [List.mem_singleton] at hy
          subst hy
          exact (b x hx).2⟩
      · rcases List.mem_append.mp hx with hx | hx
        · have := b x hx; omega
        · rw [List.mem_singleton] at hx
          subst hx
          omega
def setsSp : Spec := fun ds Q => ∃ m : Nat, ds = [.int m] ∧ m ≤ 10 ∧ Q (.own (.list ((subs m).map intsD))) []
end Co

set_option linter.all false
namespace Co
open PySem
theorem noRefs_of {l : List PyData} (h : ∀ x ∈ l, noRef x = true) : noRefs l = true := by
  induction l with
  | nil => rfl
  | cons x l ih =>
    rw [noRefs, Bool.and_eq_true]
    exact ⟨h x List.mem_cons_self, ih fun y hy => h y (List.mem_cons_of_mem _ hy)⟩
theorem noRef_intsD (l : List Int) : noRef (intsD l) = true := by
  unfold intsD
  rw [noRef]
  exact noRefs_of fun x hx => by
    obtain ⟨i, _, rfl⟩ := List.mem_map.mp hx
    rfl
theorem noRefs_subs (m : Nat) : noRefR (.own (.list ((subs m).map intsD))) = true := noRefs_of fun x hx => by
  obtain ⟨i, _, rfl⟩ := List.mem_map.mp hx
  exact noRef_intsD i
theorem gd_ints {B c k : Nat} {l : List Int} (hl : l.length ≤ c) (h : ∀ x ∈ l, x.natAbs < B) : gd B c (k + 1) (intsD l) = true := gd_tuple.mpr ⟨by rw [List.length_map]; exact hl, fun x hx => by
  obtain ⟨i, hi, rfl⟩ := List.mem_map.mp hx
  exact gd_int.mpr (h i hi)⟩
theorem bulk_ints (l : List Int) : PyData.bulkAll (l.map .int) = l.length := by
  induction l with
  | nil => rfl
  | cons x l ih => simp only [List.map_cons, PyData.bulkAll, PyData.bulk, ih, List.length_cons]; omega
theorem bulk_intsD (l : List Int) : (intsD l).bulk = l.length := bulk_ints l
/-- houses may be told -/
theorem gd_house {n : Nat} {ps : List (List Int)} (hn : n ≤ 20) (hps : ps.length ≤ 20) (h : ∀ l ∈ ps, asc n l) : gd B12 20 3 (houseD n ps) = true := by
  refine gd_tuple.mpr ⟨by simp, fun x hx => ?_⟩
  simp only [List.mem_cons, List.not_mem_nil, or_false] at hx
  rcases hx with rfl | rfl
  · exact gd_int.mpr (by have e : B12 = 10 ^ 12 := rfl; omega)
  · refine gd_tuple.mpr ⟨by rw [List.length_map]; exact hps, fun x hx => ?_⟩
    obtain ⟨l, hl, rfl⟩ := List.mem_map.mp hx
    have ha := h l hl
    have hle : l.length ≤ n := by
      have hnd : l.Nodup := ha.1.imp fun h => by omega
      have := hnd.length_le_of_subset (l₂ := rng n) fun a ha' => rng_mem.mpr (ha.2 a ha')
      rwa [rng_len] at this
    exact gd_ints (by omega) fun x hx => by
      have := ha.2 x hx
      have e : B12 = 10 ^ 12 := rfl
      omega
theorem asc_len {n : Nat} {l : List Int} (ha : asc n l) : l.length ≤ n := by
  have hnd : l.Nodup := ha.1.imp fun h => by omega
  have := hnd.length_le_of_subset (l₂ := rng n) fun a ha' => rng_mem.mpr (ha.2 a ha')
  rwa [rng_len] at this
theorem bulk_house {n : Nat} {ps : List (List Int)} (h : ∀ l ∈ ps, asc n l) : (houseD n ps).bulk ≤ 2 + (n + 1) * ps.length := by
  have : PyData.bulkAll (ps.map intsD) ≤ (n + 1) * (ps.map intsD).length := bulk_le fun x hx => by
    obtain ⟨l, hl, rfl⟩ := List.mem_map.mp hx
    rw [bulk_intsD]; exact asc_len (h l hl)
  rw [List.length_map] at this
  show 0 + 1 + (PyData.bulkAll (ps.map intsD) + 1 + 0) ≤ _
  omega
theorem gd_asc {n c k : Nat} {g : List Int} (hn : n ≤ c) (hc : c ≤ 1000) (ha : asc n g) : gd B12 c (k + 1) (intsD g) = true := gd_ints (Nat.le_trans (asc_len ha) hn) fun x hx => by
  have := ha.2 x hx
  have e : B12 = 10 ^ 12 := rfl
  omega
/-- (house, gone) may be told -/
theorem fits_hg {n : Nat} {ps : List (List Int)} {g : List Int} (hn : n ≤ 20) (hps : ps.length ≤ 20) (h : ∀ l ∈ ps, asc n l) (hg : asc n g) : fits (.tuple [houseD n ps, intsD g]) := by
  have h1 : gd B12 20 4 (.tuple [houseD n ps, intsD g]) = true := gd_tuple.mpr ⟨by simp, fun x hx => by
    simp only [List.mem_cons, List.not_mem_nil, or_false] at hx
    rcases hx with rfl | rfl
    · exact gd_house hn hps h
    · exact gd_asc hn (by decide) hg⟩
  refine (gd_tm (by decide) h1).fits ?_ (by decide)
  have h2 := bulk_house h
  have h3 := asc_len hg
  have h4 : (n + 1) * ps.length ≤ 21 * 20 := Nat.mul_le_mul (by omega) hps
  show (houseD n ps).bulk + 1 + ((intsD g).bulk + 1 + 0) ≤ _
  rw [bulk_intsD]
  omega
/-- a value that is_short is asked about -/
def good (v : PyData) : Prop := gd B30 20 8 v = true ∧ v.bulk ≤ 1000
theorem good.fits {v : PyData} (h : good v) : fits v := (gd_tm (by decide) h.1).fits (Nat.le_trans h.2 (by decide)) (by decide)
theorem good.len {v : PyData} (h : good v) : ∀ l, v = .tuple l → l.length ≤ 63 := fun l e => by
  subst e
  have := (gd_tuple (k := 7)).mp h.1 |>.1
  omega
end Co

set_option linter.all false
namespace Co
open PySem
theorem tupsOf_map (l : List (List Int)) : tupsOf (l.map intsD) = some l := by
  induction l with
  | nil => rfl
  | cons x l ih =>
    rw [List.map_cons]
    show (intsOf (x.map .int)).bind (fun i => (tupsOf (l.map intsD)).map (i :: ·)) = _
    rw [intsOf_map', ih]; rfl
theorem subs_cons (m : Nat) : subs m = [] :: (subs m).drop 1 := by
  induction m with
  | zero => rfl
  | succ m ih =>
    rw [subs]
    rw [ih]
    rfl
theorem subs_drop {m : Nat} {s : List Int} (h : s ∈ (subs m).drop 1) : s ≠ [] := by
  induction m with
  | zero => simp [subs] at h
  | succ m ih =>
    rw [subs] at h
    have e : (subs m ++ (subs m).map (· ++ [(m : Int)])).drop 1 = (subs m).drop 1 ++ (subs m).map (· ++ [(m : Int)]) := by
      rw [subs_cons m]; rfl
    rw [e] at h
    rcases List.mem_append.mp h with h | h
    · exact ih h
    · obtain ⟨s', _, rfl⟩ := List.mem_map.mp h
      simp
def setsOfSp : Spec := fun ds Q => ∃ m : Nat, ds = [.int m] ∧ m ≤ 10 ∧ ∀ ts : List (List Int), ts.Perm ((subs m).drop 1) → Q (.own (.list (ts.map intsD))) []
def spL (n : Nat) (ps : List (List Int)) (g : List Int) : List Int := ((subs ps.length).drop 1).map (spareV n ps g)
theorem subs_drop_ok {ps : List (List Int)} {s : List Int} (hs : s ∈ (subs ps.length).drop 1) (hps : ps.length ≤ 10) : s.length ≤ 1000 ∧ ∀ p ∈ s, 0 ≤ p ∧ p < ps.length := by
  obtain ⟨_, a, b⟩ := subs_mem (List.mem_of_mem_drop hs)
  exact ⟨by omega, a⟩
theorem spL_len (n : Nat) (ps : List (List Int)) (g : List Int) : (spL n ps g).length = 2 ^ ps.length - 1 := by
  unfold spL
  rw [List.length_map, List.length_drop, subs_len]
def leastSp : Spec := fun ds Q => ∃ n ps g, ds = [houseD n ps, intsD g] ∧ n ≤ 20 ∧ ps.length ≤ 10 ∧ (spL n ps g = [] → Q (.val .none) []) ∧ (∀ x, x ∈ spL n ps g → (∀ y ∈ spL n ps g, x ≤ y) → Q (.val (.int x)) [])
/-! ### narrow sets -/
def narrowB (n : Nat) (ps : List (List Int)) (g : List Int) (f : Int) (d : PyData) : Bool := ascB ps.length d && (match d with
  | .tuple l => (match intsOf l with
    | some ns => !decide (ns = []) && decide (spareV n ps g ns < f)
    | none => false)
  | _ => false)
theorem narrowB_asc {n : Nat} {ps : List (List Int)} {g ns : List Int} {f : Int} (h : ascB ps.length (.tuple (ns.map .int)) = true) : narrowB n ps g f (.tuple (ns.map .int)) = (!decide (ns = []) && decide (spareV n ps g ns < f)) := by
  simp only [narrowB, h, Bool.true_and, intsOf_map']
def isNarrowSp : Spec := fun ds Q => ∃ n ps g d, ∃ f : Int, ds = [houseD n ps, intsD g, .int f, d] ∧ n ≤ 20 ∧ ps.length ≤ 20 ∧ (∀ l, d = .tuple l → l.length ≤ 63) ∧ Q (.val (.bool (narrowB n ps g f d))) []
end Co

set_option linter.all false
namespace Co
open PySem
/-! ### rosters -/
theorem nodup_of_len : ∀ {ns ks : List Int}, ks.Nodup → (∀ k ∈ ks, k ∈ ns) → ns.length ≤ ks.length → ns.Nodup
  | [], ks, _, _, _ => List.nodup_nil
  | x :: ns, ks, hk, hs, hl => by
    rw [List.length_cons] at hl
    by_cases hx : x ∈ ns
    · have h1 : ∀ k ∈ ks, k ∈ ns := fun k hk' => by
        rcases List.mem_cons.mp (hs k hk') with rfl | h
        · exact hx
        · exact h
      have := hk.length_le_of_subset h1
      omega
    · refine List.nodup_cons.mpr ⟨hx, nodup_of_len (ks := ks.erase x) (hk.erase x) (fun k hk' => ?_) ?_⟩
      · have hne : k ≠ x := fun e => by
          subst e
          exact hk.not_mem_erase hk'
        rcases List.mem_cons.mp (hs k (List.mem_of_mem_erase hk')) with h | h
        · exact absurd h hne
        · exact h
      · by_cases hm : x ∈ ks
        · have := List.length_erase_of_mem hm
          have hp : 0 < ks.length := List.length_pos_of_mem hm
          omega
        · rw [List.erase_of_not_mem hm]; omega
theorem set_len {ns ks : List Int} (h1 : ks.Nodup) (h2 : ∀ k, k ∈ ks ↔ k ∈ ns) : decide (((ks.length : Nat) : Int) = ((ns.length : Nat) : Int)) = decide ns.Nodup := by
  rw [decide_eq_decide]
  constructor
  · intro e
    exact nodup_of_len h1 (fun k hk => (h2 k).mp hk) (by omega)
  · intro hn
    have := ((List.perm_ext_iff_of_nodup h1 hn).mpr h2).length_eq
    omega
def fitB (ps : List (List Int)) (g ns : List Int) : Bool := ns.all (fun x => !g.contains x) && (ns.zip ps).all (fun p => p.2.contains p.1) && decide ns.Nodup
def rosterB (n : Nat) (ps : List (List Int)) (g : List Int) : PyData → Bool
  | .tuple l => decide (l.length = ps.length) && l.all (inR 0 ((n : Int) - 1)) && (match intsOf l with
    | some ns => fitB ps g ns
    | none => false)
  | _ => false
def isRosterSp : Spec := fun ds Q => ∃ n ps g d, ds = [houseD n ps, intsD g, d] ∧ n ≤ 20 ∧ ps.length ≤ 20 ∧ Q (.val (.bool (rosterB n ps g d))) []
theorem pairs2_zip (a : List Int) (b : List (List Int)) : pairs2 (a.map .int) (b.map intsD) = (a.zip b).map fun p => .tuple [.int p.1, intsD p.2] := by
  unfold pairs2
  rw [List.zip_map, List.map_map]; rfl
/-! ### all rosters -/
theorem fm_ite (p : Int → Bool) (g : Int → PyData) : ∀ l : List Int, (l.map PyData.int).filterMap (fun d => match d with | PyData.int x => if p x = true then some (g x) else none | _ => none) = (l.filter p).map g
  | [] => rfl
  | x :: l => by
    rw [List.map_cons, List.filterMap_cons, List.filter_cons]
    cases h : p x <;> simp [h, fm_ite p g l]
theorem lc_ite {bind : PyData → Env → (Env → Prop) → Prop} {conds : Env → (Bool → Env → Prop) → Prop} {elt : Env → (PyData → Env → Prop) → Prop} {own : List Nat} {l : List Int} {env : Env} {K : List PyData → Env → Prop} (p : Int → Bool) (g : Int → PyData)
    (hs : ∀ x acc (N : List PyData → Env → Prop), x ∈ l → (∀ e, wipeE e own = wipeE env own → if p x = true then N (acc ++ [g x]) e else N acc e) → bind (.int x) (wipeE env own) fun env1 => conds env1 fun b env2 =>
      if b = true then elt env2 fun y env3 => N (acc ++ [y]) env3 else N acc env2)
    (hd : K ((l.filter p).map g) (wipeE env own)) : lcGo bind conds elt own (l.map .int) [] env K := by
  refine lc_pure (fun d => match d with | .int x => if p x = true then some (g x) else none | _ => none) (fun d acc N hd next => ?_) (by rw [fm_ite]; exact hd)
  obtain ⟨x, hx, rfl⟩ := List.mem_map.mp hd
  refine hs x acc N hx fun e he => ?_
  have := next e he
  by_cases h : p x = true
  · rw [if_pos h]
    simp only [if_pos h] at this; exact this
  · rw [if_neg h]
    simp only [if_neg h] at this; exact this
theorem tupsOf_map2 (l : List (List Int)) : tupsOf (l.map intsD) = some l := by
  induction l with
  | nil => rfl
  | cons x l ih =>
    rw [List.map_cons]
    show (intsOf (x.map .int)).bind (fun i => (tupsOf (l.map intsD)).map (i :: ·)) = _
    rw [intsOf_map', ih]; rfl
/-- of this length, of people -/
def rsOk (n m : Nat) (l : List Int) : Prop := l.length = m ∧ ∀ x ∈ l, 0 ≤ x ∧ x < n
def allRostersSp : Spec := fun ds Q => ∃ n ps g, ds = [houseD n ps, intsD g] ∧ 0 < n ∧ n ≤ 10 ∧ ps.length ≤ 6 ∧ (∀ l ∈ ps, asc n l) ∧ ∀ ts : List (List Int), (∀ t ∈ ts, rsOk n ps.length t) → Q (.own (.list (ts.map intsD))) []
end Co

set_option linter.all false
namespace Co
open PySem
/-! ### rosters found, or short sets: what the program reckons, in plain words -/
def optD : Option Int → PyData
  | none => .none
  | some x => .int x
def hasK (c : List (Int × Nat)) (x : Int) : Bool := c.any fun q => q.1 == x
def look (c : List (Int × Nat)) (x : Int) : Nat := match c.find? (fun q => q.1 == x) with
  | some q => q.2
  | none => 0
def holdN (F : List (Option Int)) (x : Int) : List Nat := (List.range F.length).filter fun i => F.getD i none == some x
def scanF (F : List (Option Int)) (g : List Int) (here : Nat) : List Int → List (Int × Nat) → List Nat → List (Int × Nat) × List Nat × Option Int
  | [], c, w => (c, w, none)
  | p :: l, c, w => if (g.contains p || hasK c p) = true then scanF F g here l c w else match holdN F p with
    | [] => (c ++ [(p, here)], w, some p)
    | h :: _ => scanF F g here l (c ++ [(p, here)]) (w ++ [h])
def bfsF (ps : List (List Int)) (F : List (Option Int)) (g : List Int) : Nat → Nat → List (Int × Nat) → List Nat → List (Int × Nat) × List Nat × Option Int
  | 0, _, c, w => (c, w, none)
  | fuel + 1, k, c, w => match w[k]? with
    | none => (c, w, none)
    | some here => match scanF F g here (ps.getD here []) c w with
      | (c', w', some p) => (c', w', some p)
      | (c', w', none) => bfsF ps F g fuel (k + 1) c' w'
def moveF (c : List (Int × Nat)) (post : Nat) : Nat → List (Option Int) → Int → Nat → List (Option Int)
  | 0, G, _, _ => G
  | fuel + 1, G, x, h => if h = post then G.set h (some x) else match G[h]? with
    | some (some y) => moveF c post fuel (G.set h (some x)) y (look c y)
    | _ => G
/-- injective, within what people can take, of those who are there -/
structure Mt (ps : List (List Int)) (g : List Int) (F : List (Option Int)) : Prop where
  len : F.length = ps.length
  inj : ∀ (i j : Nat) (p : Int), F[i]? = some (some p) → F[j]? = some (some p) → i = j
  ok : ∀ (i : Nat) (p : Int), F[i]? = some (some p) → p ∈ ps.getD i [] ∧ p ∉ g
/-- the posts that were met, the people by whom -/
structure Bf (ps : List (List Int)) (g : List Int) (F : List (Option Int)) (post : Nat) (c : List (Int × Nat)) (w : List Nat) : Prop where
  len : w.length = c.length + 1
  hd : w[0]? = some post
  nd : ∀ (t t' : Nat) (q q' : Int × Nat), c[t]? = some q → c[t']? = some q' → q.1 = q'.1 → t = t'
  pr : ∀ (t : Nat) (q : Int × Nat), c[t]? = some q → ∃ s, s ≤ t ∧ w[s]? = some q.2
  ho : ∀ (t : Nat) (q : Int × Nat), c[t]? = some q → ∃ h, w[t + 1]? = some h ∧ F[h]? = some (some q.1)
  ok : ∀ (t : Nat) (q : Int × Nat), c[t]? = some q → q.1 ∈ ps.getD q.2 [] ∧ q.1 ∉ g
theorem hasK_iff {c : List (Int × Nat)} {x : Int} : hasK c x = true ↔ ∃ (t : Nat) (q : Int × Nat), c[t]? = some q ∧ q.1 = x := by
  unfold hasK
  rw [List.any_eq_true]
  constructor
  · rintro ⟨q, hq, e⟩
    obtain ⟨t, ht⟩ := List.getElem?_of_mem hq
    exact ⟨t, q, ht, by simpa using e⟩
  · rintro ⟨t, q, ht, e⟩
    exact ⟨q, List.mem_of_getElem? ht, by simpa using e⟩
theorem look_at {c : List (Int × Nat)} (nd : ∀ (t t' : Nat) (q q' : Int × Nat), c[t]? = some q → c[t']? = some q' → q.1 = q'.1 → t = t') {t : Nat} {q : Int × Nat} (h : c[t]? = some q) : look c q.1 = q.2 := by
  unfold look
  cases e : c.find? (fun r => r.1 == q.1) with
  | none =>
    have := List.find?_eq_none.mp e q (List.mem_of_getElem? h)
    simp at this
  | some r =>
    have h1 := List.find?_some e
    have h2 := List.mem_of_find?_eq_some e
    obtain ⟨t', ht'⟩ := List.getElem?_of_mem h2
    have : t = t' := nd t t' q r h ht' (by simpa using (beq_iff_eq.mp h1).symm)
    subst this
    rw [h] at ht'
    cases ht'
    rfl
theorem look_app {c : List (Int × Nat)} {x y : Int} {h : Nat} (hy : hasK c y = true) : look (c ++ [(x, h)]) y = look c y := by
  unfold look
  rw [List.find?_append]
  cases e : c.find? (fun r => r.1 == y) with
  | none =>
    obtain ⟨t, q, ht, e2⟩ := hasK_iff.mp hy
    have := List.find?_eq_none.mp e q (List.mem_of_getElem? ht)
    simp [e2] at this
  | some r => rfl
theorem look_new {c : List (Int × Nat)} {x : Int} {h : Nat} (hx : hasK c x = false) : look (c ++ [(x, h)]) x = h := by
  unfold look
  have e : c.find? (fun r => r.1 == x) = none := by
    rw [List.find?_eq_none]
    intro q hq e
    have : hasK c x = true := List.any_eq_true.mpr ⟨q, hq, e⟩
    rw [hx] at this; cases this
  rw [List.find?_append, e]
  simp
section
variable {ps : List (List Int)} {g : List Int} {F : List (Option Int)} {post : Nat} {c : List (Int × Nat)} {w : List Nat}
theorem Bf.start (h : post < F.length) : Bf ps g F post [] [post] := ⟨rfl, rfl, by simp, by simp, by simp, by simp⟩
theorem Bf.c_at (B : Bf ps g F post c w) {t : Nat} (h : t + 1 < w.length) : ∃ q : Int × Nat, c[t]? = some q := by
  have := B.len
  exact ⟨c[t]'(by omega), List.getElem?_eq_getElem _⟩
theorem Bf.lt (B : Bf ps g F post c w) (hp : F[post]? = some none) {t h : Nat} (e : w[t]? = some h) : h < F.length := by
  cases t with
  | zero =>
    rw [B.hd] at e
    cases e
    exact (List.getElem?_eq_some_iff.mp hp).1
  | succ t =>
    obtain ⟨q, hq⟩ := B.c_at (List.getElem?_eq_some_iff.mp e).1
    obtain ⟨h', e1, e2⟩ := B.ho t q hq
    rw [e] at e1
    cases e1
    exact (List.getElem?_eq_some_iff.mp e2).1
theorem Bf.un (B : Bf ps g F post c w) (hp : F[post]? = some none) {t t' h : Nat} (e : w[t]? = some h) (e' : w[t']? = some h) : t = t' := by
  have key : ∀ {t t' : Nat}, w[t]? = some h → w[t' + 1]? = some h → t = t' + 1 := fun {t t'} e e' => by
    obtain ⟨q', hq'⟩ := B.c_at (List.getElem?_eq_some_iff.mp e').1
    obtain ⟨h', a1, a2⟩ := B.ho t' q' hq'
    rw [e'] at a1
    cases a1
    cases t with
    | zero =>
      rw [B.hd] at e
      cases e
      rw [hp] at a2
      cases a2
    | succ t =>
      obtain ⟨q, hq⟩ := B.c_at (List.getElem?_eq_some_iff.mp e).1
      obtain ⟨h', b1, b2⟩ := B.ho t q hq
      rw [e] at b1
      cases b1
      rw [a2] at b2
      have : q'.1 = q.1 := by simpa using b2
      rw [B.nd t' t q' q hq' hq this]
  cases t' with
  | zero =>
    cases t with
    | zero => rfl
    | succ t => exact (key e' e).symm
  | succ t' => exact key e e'
theorem Bf.nodup (B : Bf ps g F post c w) (hp : F[post]? = some none) : w.Nodup := by
  rw [List.nodup_iff_pairwise_ne, List.pairwise_iff_getElem]
  intro i j hi hj hij e
  have := B.un hp (List.getElem?_eq_getElem hi) (by rw [List.getElem?_eq_getElem hj, ← e])
  omega
theorem Bf.le (B : Bf ps g F post c w) (hp : F[post]? = some none) : w.length ≤ F.length := by
  have := (B.nodup hp).length_le_of_subset (l₂ := List.range F.length) fun x hx => by
    obtain ⟨t, ht⟩ := List.getElem?_of_mem hx
    exact List.mem_range.mpr (B.lt hp ht)
  rwa [List.length_range] at this
theorem holdN_mem {x : Int} {h : Nat} (hm : h ∈ holdN F x) : F[h]? = some (some x) := by
  unfold holdN at hm
  obtain ⟨h1, h2⟩ := List.mem_filter.mp hm
  have h1 := List.mem_range.mp h1
  rw [List.getD_eq_getElem?_getD, List.getElem?_eq_getElem h1] at h2
  rw [List.getElem?_eq_getElem h1]
  have : F[h] = some x := by simpa using h2
  rw [this]
theorem holdN_nil {x : Int} (hn : holdN F x = []) : ∀ i : Nat, F[i]? ≠ some (some x) := fun i e => by
  have h1 := (List.getElem?_eq_some_iff.mp e).1
  have : i ∈ holdN F x := by
    unfold holdN
    refine List.mem_filter.mpr ⟨List.mem_range.mpr h1, ?_⟩
    rw [List.getD_eq_getElem?_getD, e]
    simp
  rw [hn] at this
  simp at this
theorem getElem?_snoc {α : Type} {l : List α} {x y : α} {t : Nat} (h : (l ++ [x])[t]? = some y) : l[t]? = some y ∨ (t = l.length ∧ y = x) := by
  by_cases ht : t < l.length
  · rw [List.getElem?_append_left ht] at h
    exact .inl h
  · rw [List.getElem?_append_right (by omega)] at h
    have : t - l.length = 0 := by
      have := (List.getElem?_eq_some_iff.mp h).1
      simp at this
      omega
    rw [this] at h
    simp at h
    exact .inr ⟨by omega, h.symm⟩
theorem snoc_old {α : Type} {l : List α} {x y : α} {t : Nat} (h : l[t]? = some y) : (l ++ [x])[t]? = some y := by
  rw [List.getElem?_append_left (List.getElem?_eq_some_iff.mp h).1]; exact h
theorem Bf.step (B : Bf ps g F post c w) {p : Int} {here h s : Nat} (hs : w[s]? = some here) (hp : p ∈ ps.getD here []) (hg : p ∉ g) (hk : hasK c p = false) (hh : F[h]? = some (some p)) : Bf ps g F post (c ++ [(p, here)]) (w ++ [h]) := by
  have hsl := (List.getElem?_eq_some_iff.mp hs).1
  have hl := B.len
  have nk : ∀ (t : Nat) (q : Int × Nat), c[t]? = some q → q.1 ≠ p := fun t q hq e => by
    have : hasK c p = true := hasK_iff.mpr ⟨t, q, hq, e⟩
    rw [hk] at this; cases this
  refine ⟨by simp [hl], snoc_old B.hd, ?_, ?_, ?_, ?_⟩
  · intro t t' q q' h1 h2 e
    rcases getElem?_snoc h1 with h1 | ⟨rfl, rfl⟩
    · rcases getElem?_snoc h2 with h2 | ⟨rfl, rfl⟩
      · exact B.nd t t' q q' h1 h2 e
      · exact absurd e (nk t q h1)
    · rcases getElem?_snoc h2 with h2 | ⟨rfl, rfl⟩
      · exact absurd e.symm (nk t' q' h2)
      · rfl
  · intro t q h1
    rcases getElem?_snoc h1 with h1 | ⟨rfl, rfl⟩
    · obtain ⟨s', a, b⟩ := B.pr t q h1
      exact ⟨s', a, snoc_old b⟩
    · exact ⟨s, by omega, snoc_old hs⟩
  · intro t q h1
    rcases getElem?_snoc h1 with h1 | ⟨rfl, rfl⟩
    · obtain ⟨h', a, b⟩ := B.ho t q h1
      exact ⟨h', snoc_old a, b⟩
    · refine ⟨h, ?_, hh⟩
      rw [← hl]
      simp
  · intro t q h1
    rcases getElem?_snoc h1 with h1 | ⟨rfl, rfl⟩
    · exact B.ok t q h1
    · exact ⟨hp, hg⟩
/-! ### moving on -/
structure Mv (ps : List (List Int)) (g : List Int) (F : List (Option Int)) (w : List Nat) (G : List (Option Int)) (x : Int) (h s : Nat) : Prop where
  ws : w[s]? = some h
  mt : Mt ps g G
  fr : ∀ i : Nat, G[i]? ≠ some (some x)
  xo : x ∈ ps.getD h [] ∧ x ∉ g
  eq : ∀ t : Nat, t ≤ s → ∀ h' : Nat, w[t]? = some h' → G[h']? = F[h']?
  dm : ∀ i : Nat, (∃ p : Int, G[i]? = some (some p)) ↔ ∃ p : Int, F[i]? = some (some p)
theorem set_get {α : Type} {l : List α} {i j : Nat} {x : α} (hi : i < l.length) : (l.set i x)[j]? = if i = j then some x else l[j]? := by
  rw [List.getElem?_set]
  by_cases h : i = j
  · subst h; simp [hi]
  · simp [h]
theorem mt_set {G : List (Option Int)} {x : Int} {h : Nat} (M : Mt ps g G) (hh : h < G.length) (fr : ∀ i : Nat, G[i]? ≠ some (some x)) (xo : x ∈ ps.getD h [] ∧ x ∉ g) : Mt ps g (G.set h (some x)) := by
  refine ⟨by rw [List.length_set]; exact M.len, fun i j p e e' => ?_, fun i p e => ?_⟩
  · rw [set_get hh] at e e'
    by_cases h1 : h = i <;> by_cases h2 : h = j
    · omega
    · rw [if_pos h1] at e
      rw [if_neg h2] at e'
      have : x = p := by simpa using e
      subst this
      exact absurd e' (fr j)
    · rw [if_neg h1] at e
      rw [if_pos h2] at e'
      have : x = p := by simpa using e'
      subst this
      exact absurd e (fr i)
    · rw [if_neg h1] at e
      rw [if_neg h2] at e'
      exact M.inj i j p e e'
  · rw [set_get hh] at e
    by_cases h1 : h = i
    · rw [if_pos h1] at e
      have : x = p := by simpa using e
      subst this
      rw [← h1]; exact xo
    · rw [if_neg h1] at e
      exact M.ok i p e
theorem Mv.step (B : Bf ps g F post c w) (hp : F[post]? = some none) {G : List (Option Int)} {x : Int} {h s : Nat} (V : Mv ps g F w G x h s) (hne : h ≠ post) :
    ∃ (y : Int) (q : Int × Nat) (t : Nat), G[h]? = some (some y) ∧ c[t]? = some q ∧ q.1 = y ∧ t < s ∧ ∃ s', s' < s ∧ Mv ps g F w (G.set h (some x)) y q.2 s' := by
  cases s with
  | zero =>
    have := V.ws
    rw [B.hd] at this
    cases this
    exact absurd rfl hne
  | succ t =>
    obtain ⟨q, hq⟩ := B.c_at (List.getElem?_eq_some_iff.mp V.ws).1
    obtain ⟨h', e1, e2⟩ := B.ho t q hq
    rw [V.ws] at e1
    cases e1
    have eG : G[h]? = some (some q.1) := by rw [V.eq (t + 1) (Nat.le_refl _) h V.ws]; exact e2
    have hhl : h < G.length := (List.getElem?_eq_some_iff.mp eG).1
    obtain ⟨s', hs', ws'⟩ := B.pr t q hq
    refine ⟨q.1, q, t, eG, hq, rfl, by omega, s', by omega, ?_⟩
    refine ⟨ws', mt_set V.mt hhl V.fr V.xo, fun i e => ?_, B.ok t q hq, fun t2 ht2 h2 e2' => ?_, fun i => ?_⟩
    · rw [set_get hhl] at e
      by_cases h1 : h = i
      · rw [if_pos h1] at e
        have : x = q.1 := by simpa using e
        rw [← this] at eG
        exact V.fr h eG
      · rw [if_neg h1] at e
        exact h1 (V.mt.inj h i q.1 eG e)
    · have hn : h ≠ h2 := fun e => by
        subst e
        have := B.un hp e2' V.ws
        omega
      rw [set_get hhl, if_neg hn]
      exact V.eq t2 (by omega) h2 e2'
    · rw [← V.dm i, set_get hhl]
      by_cases h1 : h = i
      · subst h1
        rw [if_pos rfl]
        exact ⟨fun _ => ⟨_, eG⟩, fun _ => ⟨_, rfl⟩⟩
      · rw [if_neg h1]
theorem Mv.done {G : List (Option Int)} {x : Int} {s : Nat} (V : Mv ps g F w G x post s) (hp : F[post]? = some none) : Mt ps g (G.set post (some x)) ∧ ∀ i : Nat, (∃ p : Int, (G.set post (some x))[i]? = some (some p)) ↔ (∃ p : Int, F[i]? = some (some p)) ∨ i = post := by
  have hl : post < G.length := by
    have h1 := V.eq s (Nat.le_refl _) post V.ws
    rw [hp] at h1
    exact (List.getElem?_eq_some_iff.mp h1).1
  refine ⟨mt_set V.mt hl V.fr V.xo, fun i => ?_⟩
  rw [set_get hl]
  by_cases h1 : post = i
  · rw [if_pos h1]
    exact ⟨fun _ => .inr h1.symm, fun _ => ⟨_, rfl⟩⟩
  · rw [if_neg h1, V.dm i]
    exact ⟨.inl, fun e => e.elim id fun e => absurd e.symm h1⟩
end
end Co

set_option linter.all false
namespace Co
open PySem
local macro_rules | `(tactic| walk_at "wps") => `(tactic| simp -dsimp only [↓wpS, ↓wpE, ↓wpEs, ↓wpEs', ↓wpCs, ↓wpI, ↓callW, ↓okArgs, ↓sigOk, ↓inouts, ↓lents, ↓peeks, ↓peek, ↓pk, ↓slot, ↓setOwn, ↓setC, ↓freeze, ↓isOwn, ↓isIo, ↓slC, ↓isLst, ↓asV, ↓asS, ↓asVs, ↓asSs, ↓isT, ↓R.still, ↓setMany, ↓bindT, ↓wipeE, ↓unwipe, ↓binD, ↓intBin, ↓cmpD, ↓eqD, ↓ordD, ↓ordI, ↓startE, ↓endsOf, ↓ioOf, ↓newsOf, ↓Sl.r, ↓itemsOf, ↓slcD, ↓revD, ↓b1D, ↓b2D, ↓isNoneD, ↓noRefR, ↓noRef, ↓noRefs, ite_self, ↓isTy, ↓List.getElem?_cons_zero, ↓List.getElem?_cons_succ, ↓List.getElem?_nil, ↓Option.join_some, ↓Option.join_none, ↓Option.isSome_some, ↓Option.isSome_none, ↓List.set_cons_zero, ↓List.set_cons_succ, ↓List.replicate, ↓List.length_cons, ↓List.length_nil, ↓List.isEmpty_cons, ↓List.isEmpty_nil, ↓List.all_cons, ↓List.all_nil, ↓List.filterMap_cons, ↓List.filterMap_nil, ↓List.contains_cons, ↓List.contains_nil, ↓Bool.and_true, ↓Bool.true_and, ↓Bool.and_false, ↓Bool.false_and, ↓Bool.not_true, ↓Bool.not_false, ↓if_true, ↓sh_int, ↓sh_bool, ↓sh_none, ↓eqv_ii, ↓eqv_bb, ↓eqv_ss, ↓brn_true, ↓brn_false, brn_true, brn_false, ↓List.any_cons, ↓List.any_nil, ↓if_false, ↓ite_true, ↓ite_false, ↓true_and, ↓and_true, ↓Bool.false_eq_true, ↓reduceCtorEq, ↓decide_true, ↓decide_false, ↓List.map_cons, ↓List.map_nil, ↓Tg.slots, ↓List.nodup_cons, ↓List.nodup_nil, ↓List.not_mem_nil, ↓not_false_eq_true, ↓forall_const, ↓true_implies, ↓bI, Nat.reduceAdd, Nat.reduceSub, Nat.reduceEqDiff, Int.reduceLT, Int.reduceLE, Nat.reduceLT, Nat.reduceLeDiff, Int.reduceNeg, Nat.reduceBEq, ↓BEq.rfl, ↓beq_self_eq_true, ↓Bool.or_false, ↓Bool.or_true])
def kvD (q : Int × Nat) : PyData × PyData := (.int q.1, .int (q.2 : Int))
def cD (c : List (Int × Nat)) : PyData := .dict (c.map kvD)
def fD (F : List (Option Int)) : PyData := .list (F.map optD)
theorem lookK_c {c : List (Int × Nat)} {x : Int} : lookK (c.map kvD) (.int x) = if hasK c x = true then some (.int (look c x : Int)) else none := by
  have hf : ∀ c : List (Int × Nat), (c.map kvD).find? (fun p => PyData.eqv p.1 (.int x)) = (c.find? fun q => q.1 == x).map kvD := fun c => by
    induction c with
    | nil => rfl
    | cons q c ih =>
      rw [List.map_cons, List.find?_cons, List.find?_cons]
      have e : PyData.eqv (kvD q).1 (.int x) = (q.1 == x) := by
        show PyData.eqv (.int q.1) (.int x) = _
        rw [eqv_ii]
        by_cases h : q.1 = x <;> simp [h]
      rw [e]
      cases q.1 == x
      · exact ih
      · rfl
  unfold lookK
  rw [hf]
  unfold look
  cases e : c.find? (fun q => q.1 == x) with
  | none =>
    have : hasK c x = false := by
      cases h : hasK c x with
      | false => rfl
      | true =>
        obtain ⟨q, hq, e2⟩ := List.any_eq_true.mp h
        exact absurd e2 (List.find?_eq_none.mp e q hq)
    rw [this]; rfl
  | some q =>
    have : hasK c x = true := List.any_eq_true.mpr ⟨q, List.mem_of_find?_eq_some e, by have := List.find?_some e; exact this⟩
    rw [this]; rfl
theorem putK_c {c : List (Int × Nat)} {x : Int} {h : Nat} (hn : hasK c x = false) : putK (c.map kvD) (.int x) (.int (h : Int)) = (c ++ [(x, h)]).map kvD := by
  have e : ((c.map kvD).any fun p => PyData.eqv p.1 (.int x)) = hasK c x := by
    unfold hasK
    rw [List.any_map]
    congr 1
  unfold putK
  rw [e, hn, if_neg (by decide), List.map_append]
  rfl
def dmOk (F F' : List (Option Int)) (post : Nat) : Prop := ∀ i : Nat, (∃ p : Int, F'[i]? = some (some p)) ↔ (∃ p : Int, F[i]? = some (some p)) ∨ i = post
def moveSp : Spec := fun ds Q => ∃ ps g F post c w c' x s, ds = [fD F, cD c', .int x, .int ((post : Nat) : Int)] ∧ Bf ps g F post c w ∧ F[post]? = some none ∧ (∀ q ∈ c, hasK c' q.1 = true ∧ look c' q.1 = q.2) ∧ hasK c' x = true ∧ Mv ps g F w F x (look c' x) s ∧
  ∀ F', F' = moveF c' post (F.length + 1) F x (look c' x) → Mt ps g F' → dmOk F F' post → Q (.val .none) [fD F']
theorem move_on_ok (Φ : Tbl) : Impl Φ [true, false, false, false] 6 f_move_on moveSp := by
  rintro ds Q ⟨ps, g, F, post, c, w, c', x0, s0, rfl, B, hp, hc, hx, V, k⟩ _
  unfold f_move_on cD fD
  walk_at "wps"
  refine ⟨rfl, _, by rw [lookK_c, if_pos hx], ?_⟩
  have hsl : s0 < F.length + 1 := by
    have h1 := (List.getElem?_eq_some_iff.mp V.ws).1
    have h2 := B.le hp
    omega
  walk_at "wps"
  refine ⟨fun m e => ∃ (G : List (Option Int)) (x : Int) (h s : Nat) (y5 : Option Sl), e = [some (.io (.list (G.map optD))), some (.val (.dict (c'.map kvD))), some (.val (.int x)), some (.val (.int (post : Int))), some (.val (.int (h : Int))), y5] ∧ Mv ps g F w G x h s ∧ m = s ∧
    ∃ fuel, s < fuel ∧ moveF c' post fuel G x h = moveF c' post (F.length + 1) F x0 (look c' x0), ⟨s0, F, x0, look c' x0, s0, _, rfl, V, rfl, F.length + 1, hsl, rfl⟩, ?_⟩
  rintro m e ⟨G, x, h, s, y5, rfl, V1, rfl, fuel, hfu, hmv⟩
  obtain ⟨fuel, rfl⟩ : ∃ f, fuel = f + 1 := ⟨fuel - 1, by omega⟩
  have hhl : h < G.length := by
    have h1 := B.lt hp V1.ws
    rw [V1.mt.len, ← V.mt.len]; exact h1
  have hset : ∀ y : Int, (G.map optD).set h (.int y) = (G.set h (some y)).map optD := fun y => by rw [List.map_set]; rfl
  have hix : L2.ixN (G.map optD).length (h : Int) = some h := by
    rw [List.length_map, ix_ok (by omega) (by omega), Int.toNat_natCast]
  unfold f_move_on_t1 f_move_on_b1
  by_cases hpo : h = post
  · subst hpo
    have e1 : moveF c' h (fuel + 1) G x h = G.set h (some x) := by rw [moveF, if_pos rfl]
    obtain ⟨d1, d2⟩ := V1.done hp
    have hG : G[h]? = some none := by rw [V1.eq m (Nat.le_refl _) h V1.ws]; exact hp
    walk_at "wps"
    refine stp_n (n := h) (v := .none) (by rw [List.getElem?_map, hG]; rfl) ?_
    walk_at "wps"
    refine ⟨h, hix, ?_⟩
    rw [hset]
    exact k (G.set h (some x)) (by rw [← hmv, e1]) d1 d2
  · obtain ⟨y, q, t, hG, hq, rfl, ht, s', hs', V2⟩ := V1.step B hp hpo
    obtain ⟨k1, k2⟩ := hc q (List.mem_of_getElem? hq)
    walk_at "wps"
    refine stp_n (n := h) (v := .int q.1) (by rw [List.getElem?_map, hG]; rfl) ?_
    walk_at "wps"
    refine ⟨h, hix, ?_⟩
    rw [hset]
    have hne : decide ((h : Int) = (post : Int)) = false := decide_eq_false (by omega)
    rw [hne]
    walk_at "wps"
    refine ⟨rfl, _, by rw [lookK_c, if_pos k1], ?_⟩
    walk_at "wps"
    rw [k2]
    refine ⟨s', hs', G.set h (some x), q.1, q.2, s', _, rfl, V2, rfl, fuel, by omega, ?_⟩
    rw [← hmv, moveF, if_neg hpo, hG]
    show _ = moveF c' post fuel (G.set h (some x)) q.1 (look c' q.1)
    rw [k2]
end Co

set_option linter.all false
namespace Co
open PySem
local macro_rules | `(tactic| walk_at "wps") => `(tactic| simp -dsimp only [↓wpS, ↓wpE, ↓wpEs, ↓wpEs', ↓wpCs, ↓wpI, ↓callW, ↓okArgs, ↓sigOk, ↓inouts, ↓lents, ↓peeks, ↓peek, ↓pk, ↓slot, ↓setOwn, ↓setC, ↓freeze, ↓isOwn, ↓isIo, ↓slC, ↓isLst, ↓asV, ↓asS, ↓asVs, ↓asSs, ↓isT, ↓R.still, ↓setMany, ↓bindT, ↓wipeE, ↓unwipe, ↓binD, ↓intBin, ↓cmpD, ↓eqD, ↓ordD, ↓ordI, ↓startE, ↓endsOf, ↓ioOf, ↓newsOf, ↓Sl.r, ↓itemsOf, ↓slcD, ↓revD, ↓b1D, ↓b2D, ↓isNoneD, ↓noRefR, ↓noRef, ↓noRefs, ite_self, ↓isTy, ↓List.getElem?_cons_zero, ↓List.getElem?_cons_succ, ↓List.getElem?_nil, ↓Option.join_some, ↓Option.join_none, ↓Option.isSome_some, ↓Option.isSome_none, ↓List.set_cons_zero, ↓List.set_cons_succ, ↓List.replicate, ↓List.length_cons, ↓List.length_nil, ↓List.isEmpty_cons, ↓List.isEmpty_nil, ↓List.all_cons, ↓List.all_nil, ↓List.filterMap_cons, ↓List.filterMap_nil, ↓List.contains_cons, ↓List.contains_nil, ↓Bool.and_true, ↓Bool.true_and, ↓Bool.and_false, ↓Bool.false_and, ↓Bool.not_true, ↓Bool.not_false, ↓if_true, ↓sh_int, ↓sh_bool, ↓sh_none, ↓eqv_ii, ↓eqv_bb, ↓eqv_ss, ↓brn_true, ↓brn_false, brn_true, brn_false, ↓List.any_cons, ↓List.any_nil, ↓if_false, ↓ite_true, ↓ite_false, ↓true_and, ↓and_true, ↓Bool.false_eq_true, ↓reduceCtorEq, ↓decide_true, ↓decide_false, ↓List.map_cons, ↓List.map_nil, ↓Tg.slots, ↓List.nodup_cons, ↓List.nodup_nil, ↓List.not_mem_nil, ↓not_false_eq_true, ↓forall_const, ↓true_implies, ↓bI, Nat.reduceAdd, Nat.reduceSub, Nat.reduceEqDiff, Int.reduceLT, Int.reduceLE, Nat.reduceLT, Nat.reduceLeDiff, Int.reduceNeg, Nat.reduceBEq, ↓BEq.rfl, ↓beq_self_eq_true, ↓Bool.or_false, ↓Bool.or_true])
def natsD (w : List Nat) : PyData := .list (w.map fun h => .int ((h : Nat) : Int))
abbrev BR := List (Int × Nat) × List Nat × Option Int
/-- what follows when a post's people were looked at -/
def goOn (ps : List (List Int)) (F : List (Option Int)) (g : List Int) (fuel k : Nat) (r : BR) : BR := match r with
  | (c', w', some p) => (c', w', some p)
  | (c', w', none) => bfsF ps F g fuel (k + 1) c' w'
def placeF (ps : List (List Int)) (F : List (Option Int)) (g : List Int) (post : Nat) : List (Option Int) × Bool × List Nat := match bfsF ps F g (F.length + 1) 0 [] [post] with
  | (c, w, some x) => (moveF c post (F.length + 1) F x (look c x), true, w)
  | (_, w, none) => (F, false, w)
/-- posts with too few people -/
def tooFew (ps : List (List Int)) (g : List Int) (w : List Nat) : Prop := w.Nodup ∧ (∀ h ∈ w, h < ps.length) ∧ ∃ K : List Int, K.length + 1 = w.length ∧ ∀ h ∈ w, ∀ p ∈ ps.getD h [], p ∉ g → p ∈ K
def placeSp : Spec := fun ds Q => ∃ n ps g F, ∃ post : Nat, ds = [houseD n ps, intsD g, fD F, .int (post : Int)] ∧ ps.length ≤ 20 ∧ (∀ l ∈ ps, l.length ≤ 20) ∧ Mt ps g F ∧ F[post]? = some none ∧
  ∀ F' b w, placeF ps F g post = (F', b, w) → (b = true → Mt ps g F' ∧ dmOk F F' post) → (b = false → F' = F ∧ tooFew ps g w) → Q (.val (.tuple [.bool b, natsD w])) [fD F']
theorem hold_eq (F : List (Option Int)) (x : Int) : (rng F.length).filter (fun i => F.getD i.toNat none == some x) = (holdN F x).map fun h => ((h : Nat) : Int) := by
  unfold rng holdN
  rw [List.filter_map]
  congr 1
theorem eqv_opt {o : Option Int} {x : Int} : PyData.eqv (optD o) (.int x) = (o == some x) := by
  cases o with
  | none => simp [optD, PyData.eqv]
  | some y =>
    show PyData.eqv (.int y) (.int x) = _
    rw [eqv_ii]
    by_cases h : y = x <;> simp [h]
theorem eqv_nats {w : List Nat} : PyData.eqv (.list ((w.map fun h => ((h : Nat) : Int)).map .int)) (.list []) = decide (w = []) := by
  rw [eqv_nil]
  cases w <;> simp
theorem natsD_eq (w : List Nat) : natsD w = .list ((w.map fun h => ((h : Nat) : Int)).map .int) := by
  unfold natsD
  rw [List.map_map]; rfl
theorem hasK_app {c : List (Int × Nat)} {q : Int} {r : Int × Nat} (h : hasK c q = true) : hasK (c ++ [r]) q = true := by
  unfold hasK at h ⊢
  rw [List.any_append, h]; rfl
theorem place_ok (Φ : Tbl) (h : Φ "move_on" = moveSp) : Impl Φ [false, false, true, false] 11 f_place placeSp := by
  rintro ds Q ⟨n, ps, g, F, post, rfl, hps, hpl, M, hp, kk⟩ _
  unfold f_place
  have hh : houseD n ps = .tuple [.int n, .tuple (ps.map intsD)] := rfl
  have hFl := M.len
  have hpF : post < F.length := (List.getElem?_eq_some_iff.mp hp).1
  rw [hh]
  unfold fD
  walk_at "wps"
  refine ⟨by decide, ?_⟩
  refine ⟨fun m e => ∃ (k : Nat) (c : List (Int × Nat)) (w : List Nat) (y7 y8 y9 y10 : Option Sl), e = [some (.val (.tuple [.int n, .tuple (ps.map intsD)])), some (.val (intsD g)), some (.io (.list (F.map optD))), some (.val (.int (post : Int))), some (.own (.dict (c.map kvD))), some (.own (.list ((w.map fun h => ((h : Nat) : Int)).map .int))), some (.val (.int (k : Int))), y7, y8, y9, y10] ∧
    Bf ps g F post c w ∧ k ≤ w.length ∧ m = F.length + 1 - k ∧ (∀ j, j < k → ∀ h', w[j]? = some h' → ∀ p ∈ ps.getD h' [], p ∈ g ∨ hasK c p = true) ∧ bfsF ps F g (F.length + 1 - k) k c w = bfsF ps F g (F.length + 1) 0 [] [post],
    ⟨F.length + 1, 0, [], [post], _, _, _, _, rfl, Bf.start hpF, by simp, rfl, by simp, rfl⟩, ?_⟩
  rintro m e ⟨k, c, w, y7, y8, y9, y10, rfl, B, hk, rfl, hsc, htot⟩
  have hwl := B.le hp
  unfold f_place_t1 f_place_b2
  walk_at "wps"
  rw [List.length_map, List.length_map]
  refine brn_of (fun hb => ?_) (fun hb => ?_)
  · have hkw : k < w.length := by simpa using hb
    obtain ⟨here, hhere⟩ : ∃ x, w[k]? = some x := ⟨_, List.getElem?_eq_getElem hkw⟩
    have hhl : here < ps.length := by rw [← hFl]; exact B.lt hp hhere
    obtain ⟨l, hl⟩ : ∃ l, ps[here]? = some l := ⟨_, List.getElem?_eq_getElem hhl⟩
    have hlD : ps.getD here [] = l := by rw [List.getD_eq_getElem?_getD, hl]; rfl
    obtain ⟨fu, hfu⟩ : ∃ fu, F.length + 1 - k = fu + 1 := ⟨F.length - k, by omega⟩
    have htot2 : goOn ps F g fu k (scanF F g here l c w) = bfsF ps F g (F.length + 1) 0 [] [post] := by
      rw [← htot, hfu, bfsF, hhere]
      show _ = goOn ps F g fu k (scanF F g here (ps.getD here []) c w)
      rw [hlD]
    walk_at "wps"
    refine stp_n (n := k) (v := .int (here : Int)) (by rw [List.getElem?_map, List.getElem?_map, hhere]; rfl) ?_
    walk_at "wps"
    refine ⟨_, _, rfl, rfl, ?_⟩
    refine stp_nT (n := 1) rfl ?_
    walk_at "wps"
    refine stp_nT (n := here) (v := intsD l) (by rw [List.getElem?_map, hl]; rfl) ?_
    simp only [intsD]
    walk_at "wps"
    refine for_inv (fun i e => ∃ (c : List (Int × Nat)) (w : List Nat) (y8 y9 y10 : Option Sl), e = [some (.val (.tuple [.int n, .tuple (ps.map intsD)])), some (.val (intsD g)), some (.io (.list (F.map optD))), some (.val (.int (post : Int))), some (.own (.dict (c.map kvD))), some (.own (.list ((w.map fun h => ((h : Nat) : Int)).map .int))), some (.val (.int ((k : Int) + 1))), some (.val (.int (here : Int))), y8, y9, y10] ∧
      Bf ps g F post c w ∧ w[k]? = some here ∧ (∀ j, j < k → ∀ h', w[j]? = some h' → ∀ p ∈ ps.getD h' [], p ∈ g ∨ hasK c p = true) ∧ (∀ p ∈ l.take i, p ∈ g ∨ hasK c p = true) ∧ goOn ps F g fu k (scanF F g here (l.drop i) c w) = bfsF ps F g (F.length + 1) 0 [] [post])
      ⟨c, w, _, _, _, rfl, B, hhere, hsc, by simp, htot2⟩ ?_ ?_
    · clear htot2 htot hsc hhere B hk hwl hkw hb
      rintro i x e N hx ⟨c, w, y8, y9, y10, rfl, B, hhere, hsc, hdone, htot⟩ next
      obtain ⟨p, rfl, hpx⟩ := map_some hx
      have hwl := B.le hp
      have hdr : l.drop i = p :: l.drop (i + 1) := by
        obtain ⟨hi, e⟩ := List.getElem?_eq_some_iff.mp hpx
        rw [List.drop_eq_getElem_cons hi, e]
      have htk : l.take (i + 1) = l.take i ++ [p] := by rw [List.take_succ, hpx]; rfl
      rw [hdr, scanF] at htot
      unfold f_place_b1
      walk_at "wps"
      have skip : (g.contains p || hasK c p) = true → goOn ps F g fu k (scanF F g here (l.drop (i + 1)) c w) = bfsF ps F g (F.length + 1) 0 [] [post] ∧ ∀ q ∈ l.take (i + 1), q ∈ g ∨ hasK c q = true := fun e1 => by
        rw [if_pos e1] at htot
        refine ⟨htot, fun q hq => ?_⟩
        rw [htk] at hq
        rcases List.mem_append.mp hq with hq | hq
        · exact hdone q hq
        · rw [List.mem_singleton] at hq
          subst hq
          rw [Bool.or_eq_true] at e1
          rcases e1 with e1 | e1
          · exact .inl (List.contains_iff_mem.mp e1)
          · exact .inr e1
      refine mem_ints (g := g) ?_
      refine brn_of (fun hg => ?_) (fun hg => ?_)
      · obtain ⟨s1, s2⟩ := skip (by rw [hg]; rfl)
        walk_at "wps"
        exact next _ ⟨c, w, _, _, _, rfl, B, hhere, hsc, s2, s1⟩
      · walk_at "wps"
        refine ⟨rfl, ?_⟩
        rw [lookK_c]
        by_cases hk : hasK c p = true
        · obtain ⟨s1, s2⟩ := skip (by rw [hk, Bool.or_true])
          rw [if_pos hk]
          simp only [Option.isSome_some]
          walk_at "wps"
          exact next _ ⟨c, w, _, _, _, rfl, B, hhere, hsc, s2, s1⟩
        · have hk' : hasK c p = false := by cases e : hasK c p with
            | false => rfl
            | true => exact absurd e hk
          have hgm : p ∉ g := fun e => by
            rw [List.contains_iff_mem.mpr e] at hg; cases hg
          have hpl' : p ∈ ps.getD here [] := by rw [hlD]; exact List.mem_of_getElem? hpx
          rw [if_neg hk]
          rw [if_neg (by rw [hg, hk']; decide)] at htot
          have hcl : c.length ≤ 20 := by have := B.len; omega
          simp only [Option.isSome_none]
          walk_at "wps"
          rw [List.length_map]
          refine ⟨rfl, by show _ < 16777216; omega, ?_⟩
          rw [putK_c hk', List.length_map]
          refine ⟨by omega, by omega, by rw [rangeL_length]; show _ < 16777216; omega, ?_⟩
          rw [Int.toNat_natCast, rangeL_eq]
          refine lc_ints (fun j => F.getD j.toNat none == some p) (fun j acc N3 hj next3 => ?_) ?_
          · obtain ⟨j0, j1⟩ := rng_mem.mp hj
            unfold f_place_c1 f_place_e1
            walk_at "wps"
            refine stp_at j0 (by rw [List.length_map]; exact j1) fun v _ hv => ?_
            obtain ⟨o, rfl, ho⟩ := map_some hv
            have eo : F.getD j.toNat none = o := by rw [List.getD_eq_getElem?_getD, ho]; rfl
            rw [eo] at next3
            cases o with
            | none =>
              simp only [optD]
              walk_at "wps"
              have q := fun e he => next3 e he
              simp only [show ((none : Option Int) == some p) = false from rfl, Bool.false_eq_true, if_false] at q
              have e5 : PyData.eqv .none (.int p) = false := by simp [PyData.eqv]
              rw [e5]
              exact q _ rfl
            | some y =>
              simp only [optD]
              walk_at "wps"
              have q := fun e he => next3 e he
              have e5 : decide (y = p) = (some y == some p) := by by_cases h : y = p <;> simp [h]
              rw [e5]
              exact q _ rfl
          · rw [hold_eq]
            walk_at "wps"
            refine ⟨sh_intsL, by decide, ?_⟩
            rw [eqv_nats]
            have hnew : hasK (c ++ [(p, here)]) p = true := by
              unfold hasK
              rw [List.any_append]
              simp
            refine brn_of (fun hb => ?_) (fun hb => ?_)
            · have hnil : holdN F p = [] := by simpa using hb
              rw [hnil] at htot
              have htot : (c ++ [(p, here)], w, some p) = bfsF ps F g (F.length + 1) 0 [] [post] := htot
              walk_at "wps"
              rw [h]
              refine ⟨_, rfl, ps, g, F, post, c, w, c ++ [(p, here)], p, k, rfl, B, hp, fun q hq => ?_, hnew, ?_, fun F' hF' m1 m2 _ => ?_⟩
              · obtain ⟨t, ht⟩ := List.getElem?_of_mem hq
                have hq1 : hasK c q.1 = true := hasK_iff.mpr ⟨t, q, ht, rfl⟩
                exact ⟨hasK_app hq1, by rw [look_app hq1]; exact look_at B.nd ht⟩
              · rw [look_new hk']
                exact ⟨hhere, M, holdN_nil hnil, ⟨hpl', hgm⟩, fun _ _ _ _ => rfl, fun _ => Iff.rfl⟩
              · have hpF2 : placeF ps F g post = (F', true, w) := by
                  unfold placeF
                  rw [← htot, hF']
                walk_at "wps"
                have q := kk F' true w hpF2 (fun _ => ⟨m1, m2⟩) (fun e => by cases e)
                rw [natsD_eq] at q
                exact q
            · obtain ⟨h0, rest, hho⟩ : ∃ h0 rest, holdN F p = h0 :: rest := by
                cases e : holdN F p with
                | nil => rw [e] at hb; simp at hb
                | cons a b => exact ⟨a, b, rfl⟩
              rw [hho] at htot
              have hh0 : F[h0]? = some (some p) := holdN_mem (by rw [hho]; exact List.mem_cons_self)
              have B2 := B.step hhere hpl' hgm hk' hh0
              walk_at "wps"
              refine stp_n (n := 0) (v := .int ((h0 : Nat) : Int)) (by rw [hho]; rfl) ?_
              walk_at "wps"
              have ew : (w.map fun h => ((h : Nat) : Int)).map PyData.int ++ [.int ((h0 : Nat) : Int)] = ((w ++ [h0]).map fun h => ((h : Nat) : Int)).map PyData.int := by simp
              rw [ew]
              refine ⟨by rw [List.length_map, List.length_map]; show _ < 16777216; omega, next _ ⟨c ++ [(p, here)], w ++ [h0], _, _, _, rfl, B2, snoc_old hhere, fun j hj h' e q hq => ?_, fun q hq => ?_, htot⟩⟩
              · have hjw : j < w.length := by have := (List.getElem?_eq_some_iff.mp hhere).1; omega
                rw [List.getElem?_append_left hjw] at e
                rcases hsc j hj h' e q hq with r | r
                · exact .inl r
                · exact .inr (hasK_app r)
              · rw [htk] at hq
                rcases List.mem_append.mp hq with hq | hq
                · rcases hdone q hq with r | r
                  · exact .inl r
                  · exact .inr (hasK_app r)
                · rw [List.mem_singleton] at hq
                  rw [hq]; exact .inr hnew
    · rintro e ⟨c, w, y8, y9, y10, rfl, B, hhere, hsc, hdone, htot⟩
      have hkw := (List.getElem?_eq_some_iff.mp hhere).1
      have hwl := B.le hp
      rw [List.length_map, List.take_length] at hdone
      rw [List.length_map, List.drop_length] at htot
      have htot : bfsF ps F g fu (k + 1) c w = bfsF ps F g (F.length + 1) 0 [] [post] := htot
      refine ⟨F.length + 1 - (k + 1), by omega, k + 1, c, w, _, _, _, _, rfl, B, by omega, rfl, fun j hj h' e q hq => ?_, ?_⟩
      · by_cases hjk : j < k
        · exact hsc j hjk h' e q hq
        · have : j = k := by omega
          subst this
          rw [hhere] at e
          cases e
          rw [hlD] at hq
          exact hdone q hq
      · have : F.length + 1 - (k + 1) = fu := by omega
        rw [this]; exact htot
  · have hkw : ¬ k < w.length := by simpa using hb
    obtain ⟨fu, hfu⟩ : ∃ fu, F.length + 1 - k = fu + 1 := ⟨F.length - k, by omega⟩
    have hk2 : k = w.length := by omega
    have htot2 : (c, w, none) = bfsF ps F g (F.length + 1) 0 [] [post] := by
      rw [← htot, hfu, bfsF, hk2, List.getElem?_eq_none (Nat.le_refl _)]
    have hpF2 : placeF ps F g post = (F, false, w) := by
      unfold placeF
      rw [← htot2]
    walk_at "wps"
    have q := kk F false w hpF2 (fun e => by cases e) (fun _ => ⟨rfl, B.nodup hp, fun h' hh' => ?_, c.map (·.1), ?_, fun h' hh' q hq hqg => ?_⟩)
    · rw [natsD_eq] at q
      exact q
    · obtain ⟨t, ht⟩ := List.getElem?_of_mem hh'
      rw [← hFl]; exact B.lt hp ht
    · rw [List.length_map]; exact B.len.symm
    · obtain ⟨t, ht⟩ := List.getElem?_of_mem hh'
      rcases hsc t (by rw [hk2]; exact (List.getElem?_eq_some_iff.mp ht).1) h' ht q hq with r | r
      · exact absurd r hqg
      · obtain ⟨t', q', e1, e2⟩ := hasK_iff.mp r
        rw [← e2]
        exact List.mem_map.mpr ⟨q', List.mem_of_getElem? e1, rfl⟩
end Co

set_option linter.all false
namespace Co
open PySem
local macro_rules | `(tactic| walk_at "wps") => `(tactic| simp -dsimp only [↓wpS, ↓wpE, ↓wpEs, ↓wpEs', ↓wpCs, ↓wpI, ↓callW, ↓okArgs, ↓sigOk, ↓inouts, ↓lents, ↓peeks, ↓peek, ↓pk, ↓slot, ↓setOwn, ↓setC, ↓freeze, ↓isOwn, ↓isIo, ↓slC, ↓isLst, ↓asV, ↓asS, ↓asVs, ↓asSs, ↓isT, ↓R.still, ↓setMany, ↓bindT, ↓wipeE, ↓unwipe, ↓binD, ↓intBin, ↓cmpD, ↓eqD, ↓ordD, ↓ordI, ↓startE, ↓endsOf, ↓ioOf, ↓newsOf, ↓Sl.r, ↓itemsOf, ↓slcD, ↓revD, ↓b1D, ↓b2D, ↓isNoneD, ↓noRefR, ↓noRef, ↓noRefs, ite_self, ↓isTy, ↓List.getElem?_cons_zero, ↓List.getElem?_cons_succ, ↓List.getElem?_nil, ↓Option.join_some, ↓Option.join_none, ↓Option.isSome_some, ↓Option.isSome_none, ↓List.set_cons_zero, ↓List.set_cons_succ, ↓List.replicate, ↓List.length_cons, ↓List.length_nil, ↓List.isEmpty_cons, ↓List.isEmpty_nil, ↓List.all_cons, ↓List.all_nil, ↓List.filterMap_cons, ↓List.filterMap_nil, ↓List.contains_cons, ↓List.contains_nil, ↓Bool.and_true, ↓Bool.true_and, ↓Bool.and_false, ↓Bool.false_and, ↓Bool.not_true, ↓Bool.not_false, ↓if_true, ↓sh_int, ↓sh_bool, ↓sh_none, ↓eqv_ii, ↓eqv_bb, ↓eqv_ss, ↓brn_true, ↓brn_false, brn_true, brn_false, ↓List.any_cons, ↓List.any_nil, ↓if_false, ↓ite_true, ↓ite_false, ↓true_and, ↓and_true, ↓Bool.false_eq_true, ↓reduceCtorEq, ↓decide_true, ↓decide_false, ↓List.map_cons, ↓List.map_nil, ↓Tg.slots, ↓List.nodup_cons, ↓List.nodup_nil, ↓List.not_mem_nil, ↓not_false_eq_true, ↓forall_const, ↓true_implies, ↓bI, Nat.reduceAdd, Nat.reduceSub, Nat.reduceEqDiff, Int.reduceLT, Int.reduceLE, Nat.reduceLT, Nat.reduceLeDiff, Int.reduceNeg, Nat.reduceBEq, ↓BEq.rfl, ↓beq_self_eq_true, ↓Bool.or_false, ↓Bool.or_true])
def setF (ps : List (List Int)) (g : List Int) : Nat → Nat → List (Option Int) → Sum (List (Option Int)) (List Nat)
  | 0, _, F => .inl F
  | k + 1, i, F => match placeF ps F g i with
    | (F', true, _) => setF ps g k (i + 1) F'
    | (_, false, w) => .inr w
def settledF (ps : List (List Int)) (g : List Int) : Sum (List (Option Int)) (List Nat) := setF ps g ps.length 0 (List.replicate ps.length none)
def full (ps : List (List Int)) (F : List (Option Int)) : Prop := ∀ i : Nat, i < ps.length → ∃ p : Int, F[i]? = some (some p)
/-- as an ascending list of ints -/
def upI (w : List Nat) : List Int := isort (fun a b => decide (a ≤ b)) (w.map fun h => ((h : Nat) : Int))
def settledSp : Spec := fun ds Q => ∃ n ps g, ds = [houseD n ps, intsD g] ∧ ps.length ≤ 20 ∧ (∀ l ∈ ps, l.length ≤ 20) ∧
  (∀ F, settledF ps g = .inl F → Mt ps g F → full ps F → Q (.val (.tuple [fD F, .none])) []) ∧ (∀ w, settledF ps g = .inr w → tooFew ps g w → Q (.val (.tuple [.none, intsD (upI w)])) [])
theorem settled_ok (Φ : Tbl) (h : Φ "place" = placeSp) : Impl Φ [false, false] 6 f_settled settledSp := by
  rintro ds Q ⟨n, ps, g, rfl, hps, hpl, k1, k2⟩ _
  unfold f_settled
  have hh : houseD n ps = .tuple [.int n, .tuple (ps.map intsD)] := rfl
  rw [hh]
  walk_at "wps"
  refine stp_nT (n := 1) rfl ?_
  walk_at "wps"
  rw [List.length_map]
  have e0 : (List.replicate ((ps.length : Nat) : Int).toNat [PyData.none]).flatten = (List.replicate ps.length (none : Option Int)).map optD := by
    rw [Int.toNat_natCast, List.map_replicate]
    generalize ps.length = m
    induction m with
    | zero => rfl
    | succ m ih =>
      rw [List.replicate_succ, List.flatten_cons, ih, List.replicate_succ]; rfl
  rw [e0]
  refine ⟨by omega, by omega, by rw [Int.toNat_natCast]; show _ ≤ 16777216; omega, ?_⟩
  refine stp_nT (n := 1) rfl ?_
  walk_at "wps"
  rw [List.length_map]
  refine ⟨by omega, by omega, for_inv (fun i e => ∃ (F : List (Option Int)) (y3 y4 y5 : Option Sl), e = [some (.val (.tuple [.int n, .tuple (ps.map intsD)])), some (.val (intsD g)), some (.own (fD F)), y3, y4, y5] ∧ Mt ps g F ∧ (∀ j : Nat, (∃ p : Int, F[j]? = some (some p)) ↔ j < i) ∧ i ≤ ps.length ∧ setF ps g (ps.length - i) i F = settledF ps g)
    ⟨_, none, none, none, rfl, ⟨by simp, fun i j p e => ?_, fun i p e => ?_⟩, fun j => ?_, Nat.zero_le _, rfl⟩ ?_ ?_⟩
  · rw [List.getElem?_replicate] at e
    split at e <;> cases e
  · rw [List.getElem?_replicate] at e
    split at e <;> cases e
  · constructor
    · rintro ⟨p, e⟩
      rw [List.getElem?_replicate] at e
      split at e <;> cases e
    · omega
  · rintro i x e N hx ⟨F, y3, y4, y5, rfl, M, hdom, hi, htot⟩ next
    obtain ⟨rfl, hi'⟩ := range_some hx
    rw [Int.toNat_natCast] at hi'
    have hp : F[i]? = some none := by
      have hlt : i < F.length := by rw [M.len]; exact hi'
      rw [List.getElem?_eq_getElem hlt]
      cases e : F[i] with
      | none => rfl
      | some p =>
        have := (hdom i).mp ⟨p, by rw [List.getElem?_eq_getElem hlt, e]⟩
        omega
    obtain ⟨fu, hfu⟩ : ∃ fu, ps.length - i = fu + 1 := ⟨ps.length - i - 1, by omega⟩
    rw [hfu, setF] at htot
    unfold f_settled_b1 fD
    walk_at "wps"
    refine ⟨_, rfl, ?_⟩
    rw [h]
    refine ⟨n, ps, g, F, i, by rw [Int.zero_add]; rfl, hps, hpl, M, hp, fun F' b w hpl2 t1 t2 _ => ?_⟩
    rw [hpl2] at htot
    cases b with
    | true =>
      obtain ⟨M', dm⟩ := t1 rfl
      walk_at "wps"
      refine next _ ⟨F', _, _, _, rfl, M', fun j => ?_, by omega, ?_⟩
      · rw [dm j, hdom j]
        omega
      · have : ps.length - (i + 1) = fu := by omega
        rw [this]; exact htot
    | false =>
      obtain ⟨rfl, tf⟩ := t2 rfl
      have htot : Sum.inr w = settledF ps g := htot
      rw [natsD_eq]
      walk_at "wps"
      rw [List.length_map, List.length_map]
      have hwl : w.length ≤ 20 := by
        have := tf.1.length_le_of_subset (l₂ := List.range ps.length) fun x hx => List.mem_range.mpr (tf.2.1 x hx)
        rw [List.length_range] at this
        omega
      refine ⟨by show _ ≤ 16777216; omega, .inl ⟨_, intsOf_map' _, ?_⟩⟩
      exact k2 w htot.symm tf
  · rintro e ⟨F, y3, y4, y5, rfl, M, hdom, hi, htot⟩
    rw [rangeL_length, Int.toNat_natCast] at hdom htot
    rw [Nat.sub_self, setF] at htot
    unfold fD
    walk_at "wps"
    exact k1 F htot.symm M fun i hi => (hdom i).mpr hi
def findSp : Spec := fun ds Q => ∃ n ps g, ds = [houseD n ps, intsD g] ∧ ps.length ≤ 20 ∧ (∀ l ∈ ps, l.length ≤ 20) ∧
  (∀ F, settledF ps g = .inl F → Mt ps g F → full ps F → Q (.val (.tuple (F.map optD))) []) ∧ (∀ w, settledF ps g = .inr w → tooFew ps g w → Q (.val .none) [])
def findShortSp : Spec := fun ds Q => ∃ n ps g, ds = [houseD n ps, intsD g] ∧ ps.length ≤ 20 ∧ (∀ l ∈ ps, l.length ≤ 20) ∧
  (∀ F, settledF ps g = .inl F → Mt ps g F → full ps F → Q (.val .none) []) ∧ (∀ w, settledF ps g = .inr w → tooFew ps g w → Q (.val (intsD (upI w))) [])
theorem find_roster_ok (Φ : Tbl) (h : Φ "settled" = settledSp) : Impl Φ [false, false] 4 f_find_roster findSp := by
  rintro ds Q ⟨n, ps, g, rfl, hps, hpl, k1, k2⟩ _
  unfold f_find_roster
  walk_at "wps"
  refine ⟨_, rfl, ?_⟩
  rw [h]
  refine ⟨n, ps, g, rfl, hps, hpl, fun F a b c _ => ?_, fun w a b _ => ?_⟩
  · unfold fD
    walk_at "wps"
    exact k1 F a b c
  · unfold intsD
    walk_at "wps"
    exact k2 w a b
/-! ### what is told is right -/
theorem full_some {ps : List (List Int)} {g : List Int} {F : List (Option Int)} (M : Mt ps g F) (hf : full ps F) : ∃ rs : List Int, F = rs.map some := by
  refine ⟨F.map fun o => o.getD 0, ?_⟩
  rw [List.map_map]
  refine (List.map_id F).symm.trans (List.map_congr_left fun o ho => ?_)
  obtain ⟨i, hi⟩ := List.getElem?_of_mem ho
  obtain ⟨p, hp⟩ := hf i (by rw [← M.len]; exact (List.getElem?_eq_some_iff.mp hi).1)
  rw [hp] at hi
  cases hi
  rfl
theorem roster_right {n : Nat} {ps : List (List Int)} {g rs : List Int} (hasc : ∀ l ∈ ps, asc n l) (M : Mt ps g (rs.map some)) : rosterB n ps g (intsD rs) = true := by
  have hl : rs.length = ps.length := by have := M.len; rwa [List.length_map] at this
  have at' : ∀ (i : Nat) (p : Int), rs[i]? = some p → p ∈ ps.getD i [] ∧ p ∉ g := fun i p e => M.ok i p (by rw [List.getElem?_map, e]; rfl)
  have hin : ∀ (i : Nat) (p : Int), rs[i]? = some p → 0 ≤ p ∧ p < n := fun i p e => by
    have h1 := (at' i p e).1
    have hi : i < ps.length := by rw [← hl]; exact (List.getElem?_eq_some_iff.mp e).1
    rw [List.getD_eq_getElem?_getD, List.getElem?_eq_getElem hi] at h1
    exact (hasc _ (List.getElem_mem hi)).2 p h1
  show rosterB n ps g (.tuple (rs.map .int)) = true
  simp only [rosterB, intsOf_map', fitB, Bool.and_eq_true, decide_eq_true_eq, List.all_eq_true, List.length_map]
  refine ⟨⟨hl, fun x hx => ?_⟩, ⟨fun x hx => ?_, fun q hq => ?_⟩, ?_⟩
  · obtain ⟨p, hp, rfl⟩ := List.mem_map.mp hx
    obtain ⟨i, hi⟩ := List.getElem?_of_mem hp
    have := hin i p hi
    simp only [inR, Bool.and_eq_true, decide_eq_true_eq]
    omega
  · obtain ⟨i, hi⟩ := List.getElem?_of_mem hx
    have := (at' i x hi).2
    simpa using this
  · obtain ⟨i, hi⟩ := List.getElem?_of_mem hq
    obtain ⟨g1, g2⟩ := List.getElem?_zip_eq_some.mp hi
    have := (at' i q.1 g1).1
    rw [List.getD_eq_getElem?_getD, g2] at this
    exact List.contains_iff_mem.mpr this
  · rw [List.nodup_iff_pairwise_ne, List.pairwise_iff_getElem]
    intro i j hi hj hij e
    have := M.inj i j rs[j] (by rw [List.getElem?_map, List.getElem?_eq_getElem hi, e]; rfl) (by rw [List.getElem?_map, List.getElem?_eq_getElem hj]; rfl)
    omega
theorem upI_perm (w : List Nat) : (upI w).Perm (w.map fun h => ((h : Nat) : Int)) := List.mergeSort_perm _ _
theorem upI_asc {m : Nat} {w : List Nat} (h1 : w.Nodup) (h2 : ∀ h ∈ w, h < m) : (upI w).Pairwise (· < ·) ∧ ∀ x ∈ upI w, 0 ≤ x ∧ x < m := by
  have hp := upI_perm w
  have hn : (upI w).Nodup := hp.nodup_iff.mpr (by
    rw [List.nodup_iff_pairwise_ne, List.pairwise_map]
    rw [List.nodup_iff_pairwise_ne] at h1
    exact h1.imp fun h e => h (by omega))
  have hs : (upI w).Pairwise (· ≤ ·) := by
    have := List.pairwise_mergeSort (le := fun a b : Int => decide (a ≤ b)) (fun a b c x y => by simp at x y ⊢; omega) (fun a b => by simp; omega) (w.map fun h => ((h : Nat) : Int))
    exact this.imp fun h => by simpa using h
  refine ⟨?_, fun x hx => ?_⟩
  · rw [List.nodup_iff_pairwise_ne] at hn
    exact (hs.and hn).imp fun h => by omega
  · obtain ⟨h, hh, rfl⟩ := List.mem_map.mp (hp.mem_iff.mp hx)
    have := h2 h hh
    omega
theorem upI_ascB {m : Nat} {w : List Nat} (h1 : w.Nodup) (h2 : ∀ h ∈ w, h < m) : ascB m (intsD (upI w)) = true := by
  obtain ⟨a, b⟩ := upI_asc h1 h2
  show ascB m (.tuple ((upI w).map .int)) = true
  simp only [ascB, intsOf_map', Bool.and_eq_true, List.all_eq_true]
  refine ⟨fun x hx => ?_, adj_iff.mpr a⟩
  obtain ⟨p, hp, rfl⟩ := List.mem_map.mp hx
  have := b p hp
  simp only [inR, Bool.and_eq_true, decide_eq_true_eq]
  omega
theorem short_right {n : Nat} {ps : List (List Int)} {g : List Int} {w : List Nat} (hasc : ∀ l ∈ ps, asc n l) (T : tooFew ps g w) : ascB ps.length (intsD (upI w)) = true ∧ upI w ≠ [] ∧ spareV n ps g (upI w) < 0 := by
  obtain ⟨h1, h2, K, hK, hK2⟩ := T
  have hl := (upI_perm w).length_eq
  rw [List.length_map] at hl
  refine ⟨upI_ascB h1 h2, fun e => by rw [e] at hl; simp at hl; omega, ?_⟩
  have hnd : (tkL n ps g (upI w)).Nodup := by
    unfold tkL
    exact ((rng_asc n).1.filter _).imp fun h => by omega
  have := hnd.length_le_of_subset (l₂ := K) fun x hx => by
    unfold tkL at hx
    obtain ⟨_, hx2⟩ := List.mem_filter.mp hx
    rw [Bool.and_eq_true, List.any_eq_true] at hx2
    obtain ⟨hg, p, hp, hc⟩ := hx2
    obtain ⟨h, hh, rfl⟩ := List.mem_map.mp ((upI_perm w).mem_iff.mp hp)
    unfold canB at hc
    rw [Int.toNat_natCast] at hc
    exact hK2 h hh x (List.contains_iff_mem.mp hc) (by simpa using hg)
  unfold spareV
  omega
end Co

set_option linter.all false
namespace Co
open PySem
theorem lc_filter {α : Type} (enc : α → PyData) {bind : PyData → Env → (Env → Prop) → Prop} {conds : Env → (Bool → Env → Prop) → Prop} {elt : Env → (PyData → Env → Prop) → Prop} {own : List Nat} {l : List α} {env : Env} {K : List PyData → Env → Prop} (p : α → Bool) (g : α → PyData)
    (hs : ∀ x acc (N : List PyData → Env → Prop), x ∈ l → (∀ e, wipeE e own = wipeE env own → if p x = true then N (acc ++ [g x]) e else N acc e) → bind (enc x) (wipeE env own) fun env1 => conds env1 fun b env2 =>
      if b = true then elt env2 fun y env3 => N (acc ++ [y]) env3 else N acc env2)
    (hd : K ((l.filter p).map g) (wipeE env own)) : lcGo bind conds elt own (l.map enc) [] env K := by
  refine lc_inv (fun i acc e => acc = ((l.take i).filter p).map g ∧ wipeE e own = wipeE env own) ⟨by simp, rfl⟩ ?_ ?_
  · rintro i d acc e N hx ⟨ha, he⟩ k
    obtain ⟨x, rfl, hxl⟩ := map_some hx
    rw [he]
    have ht : l.take (i + 1) = l.take i ++ [x] := by rw [List.take_succ, hxl]; rfl
    refine hs x acc N (List.mem_of_getElem? hxl) fun e2 h2 => ?_
    by_cases hp : p x = true
    · rw [if_pos hp]
      exact k _ e2 ⟨by rw [ht, List.filter_append, List.map_append, ← ha]; simp [hp], h2⟩
    · rw [if_neg hp]
      exact k _ e2 ⟨by rw [ht, List.filter_append, List.map_append, ← ha]; simp [hp], h2⟩
  · rintro acc e ⟨ha, he⟩
    rw [he, ha, List.length_map, List.take_length]
    exact hd
theorem sh_tups {ts : List (List Int)} : SeqAt.shaped (.list (ts.map intsD)) = true := (ok_list (k := 1) fun x hx => by
  obtain ⟨t, _, rfl⟩ := List.mem_map.mp hx
  exact ok_tuple (k := 0) fun y hy => by
    obtain ⟨i, _, rfl⟩ := List.mem_map.mp hy
    exact ok_int).sh (by decide)
theorem eqv_tupsNil {ts : List (List Int)} : PyData.eqv (.list (ts.map intsD)) (.list []) = decide (ts = []) := by
  cases ts <;> simp [PyData.eqv, PyData.eqvAll]
theorem eqv_intsD {a b : List Int} : PyData.eqv (intsD a) (intsD b) = decide (a = b) := by
  show PyData.eqv (.tuple (a.map .int)) (.tuple (b.map .int)) = _
  simp only [PyData.eqv, eqvAll_ints]
theorem any_tups {ts : List (List Int)} {t : List Int} : ((ts.map intsD).any fun z => PyData.eqv z (intsD t)) = ts.contains t := by
  induction ts with
  | nil => rfl
  | cons x l ih =>
    rw [List.map_cons, List.any_cons, ih, eqv_intsD, List.contains_cons]
    congr 1
    by_cases h : x = t
    · subst h; simp
    · simp [h, Ne.symm h]
theorem mem_tupsL {ts : List (List Int)} {t : List Int} {K : Bool → Prop} (k : K (ts.contains t)) : memD (intsD t) (.list (ts.map intsD)) K :=
  ⟨by unfold shapedIn; rw [show SeqAt.shaped (intsD t) = true from sh_intsT]; rfl, sh_tups, by rw [any_tups]; exact k⟩
/-! ### all rosters, exactly -/
def ext (g l f : List Int) : List (List Int) := (l.filter fun x => !f.contains x && !g.contains x).map fun x => f ++ [x]
def allF (g : List Int) : List (List Int) → List (List Int) → List (List Int)
  | [], fs => fs
  | l :: ps, fs => allF g ps (fs.flatMap (ext g l))
/-- s, behind f, fills the posts -/
structure Ro (g : List Int) (ps : List (List Int)) (f s : List Int) : Prop where
  len : s.length = ps.length
  ok : ∀ (i : Nat) (x : Int), s[i]? = some x → x ∈ ps.getD i [] ∧ x ∉ g
  nd : (f ++ s).Nodup
theorem ext_mem {g l f t : List Int} : t ∈ ext g l f ↔ ∃ x, x ∈ l ∧ x ∉ f ∧ x ∉ g ∧ t = f ++ [x] := by
  unfold ext
  constructor
  · intro h
    obtain ⟨x, hx, rfl⟩ := List.mem_map.mp h
    obtain ⟨h1, h2⟩ := List.mem_filter.mp hx
    rw [Bool.and_eq_true] at h2
    exact ⟨x, h1, by simpa using h2.1, by simpa using h2.2, rfl⟩
  · rintro ⟨x, h1, h2, h3, rfl⟩
    exact List.mem_map.mpr ⟨x, List.mem_filter.mpr ⟨h1, by simp [h2, h3]⟩, rfl⟩
theorem allF_mem {g : List Int} : ∀ {ps fs : List (List Int)} {t : List Int}, (∀ f ∈ fs, f.Nodup) → (t ∈ allF g ps fs ↔ ∃ f ∈ fs, ∃ s, t = f ++ s ∧ Ro g ps f s)
  | [], fs, t, hn => by
    constructor
    · intro h
      exact ⟨t, h, [], by simp, rfl, by simp, by rw [List.append_nil]; exact hn t h⟩
    · rintro ⟨f, hf, s, rfl, R⟩
      have : s = [] := List.eq_nil_of_length_eq_zero R.len
      subst this
      rw [List.append_nil]; exact hf
  | l :: ps, fs, t, hn => by
    have hn2 : ∀ f ∈ fs.flatMap (ext g l), f.Nodup := fun f' hf' => by
      obtain ⟨f, hf, hx⟩ := List.mem_flatMap.mp hf'
      obtain ⟨x, h1, h2, h3, rfl⟩ := ext_mem.mp hx
      rw [List.nodup_append]
      exact ⟨hn f hf, by simp, fun a ha b hb e => by
        rw [List.mem_singleton] at hb
        subst hb e
        exact h2 ha⟩
    rw [allF, allF_mem hn2]
    constructor
    · rintro ⟨f', hf', s, rfl, R⟩
      obtain ⟨f, hf, hx⟩ := List.mem_flatMap.mp hf'
      obtain ⟨x, h1, h2, h3, rfl⟩ := ext_mem.mp hx
      refine ⟨f, hf, x :: s, by simp, by simp [R.len], fun i y e => ?_, ?_⟩
      · cases i with
        | zero =>
          have : x = y := by simpa using e
          subst this
          exact ⟨h1, h3⟩
        | succ i => exact R.ok i y (by simpa using e)
      · have := R.nd
        simpa using this
    · rintro ⟨f, hf, s, rfl, R⟩
      cases s with
      | nil => have := R.len; simp at this
      | cons x s =>
        have h0 := R.ok 0 x rfl
        have hnd := R.nd
        refine ⟨f ++ [x], List.mem_flatMap.mpr ⟨f, hf, ext_mem.mpr ⟨x, h0.1, fun hx => ?_, h0.2, rfl⟩⟩, s, by simp, by have := R.len; simpa using this, fun i y e => R.ok (i + 1) y (by simpa using e), by simpa using hnd⟩
        rw [List.nodup_append] at hnd
        exact hnd.2.2 x hx x List.mem_cons_self rfl
def allL (g : List Int) (ps : List (List Int)) : List (List Int) := allF g ps [[]]
theorem allL_mem {g : List Int} {ps : List (List Int)} {t : List Int} : t ∈ allL g ps ↔ Ro g ps [] t := by
  unfold allL
  rw [allF_mem (by simp)]
  constructor
  · rintro ⟨f, hf, s, rfl, R⟩
    rw [List.mem_singleton] at hf
    subst hf
    exact R
  · intro R
    exact ⟨[], by simp, t, rfl, R⟩
def allR2Sp : Spec := fun ds Q => ∃ n ps g, ds = [houseD n ps, intsD g] ∧ 0 < n ∧ n ≤ 10 ∧ ps.length ≤ 6 ∧ (∀ l ∈ ps, asc n l) ∧ ∀ ts : List (List Int), ts.Perm (allL g ps) → ts.Pairwise (fun a b => HT.lexLt b a = false) → Q (.own (.list (ts.map intsD))) []
theorem ext_len (g l f : List Int) : (ext g l f).length ≤ l.length := by
  unfold ext
  rw [List.length_map]
  exact List.length_filter_le _ _
theorem flat_len {g l : List Int} {n : Nat} (hl : l.length ≤ n) : ∀ fs : List (List Int), (fs.flatMap (ext g l)).length ≤ fs.length * n
  | [] => by simp
  | f :: fs => by
    have h1 := ext_len g l f
    have h2 := flat_len (g := g) hl fs
    rw [List.flatMap_cons, List.length_append, List.length_cons, Nat.add_mul, Nat.one_mul]
    omega
end Co

set_option linter.all false
namespace Co
open PySem
theorem ro_of_mt {ps : List (List Int)} {g rs : List Int} (M : Mt ps g (rs.map some)) : Ro g ps [] rs := by
  refine ⟨by have := M.len; rwa [List.length_map] at this, fun i x e => M.ok i x (by rw [List.getElem?_map, e]; rfl), ?_⟩
  rw [List.nil_append, List.nodup_iff_pairwise_ne, List.pairwise_iff_getElem]
  intro i j hi hj hij e
  have := M.inj i j rs[j] (by rw [List.getElem?_map, List.getElem?_eq_getElem hi, e]; rfl) (by rw [List.getElem?_map, List.getElem?_eq_getElem hj]; rfl)
  omega
/-- with a roster no posts have too few people -/
theorem hall_easy {n : Nat} {ps : List (List Int)} {g t s : List Int} (hasc : ∀ l ∈ ps, asc n l) (R : Ro g ps [] t) (h1 : s.Nodup) (h2 : ∀ p ∈ s, 0 ≤ p ∧ p < ps.length) : 0 ≤ spareV n ps g s := by
  have hn : t.Nodup := by have := R.nd; rwa [List.nil_append] at this
  have at' : ∀ p ∈ s, t[p.toNat]? = some (t.getD p.toNat 0) := fun p hp => by
    have := h2 p hp
    rw [List.getD_eq_getElem?_getD, List.getElem?_eq_getElem (by rw [R.len]; omega)]; rfl
  have hm : (s.map fun p => t.getD p.toNat 0).Nodup := by
    rw [List.nodup_iff_pairwise_ne, List.pairwise_map]
    rw [List.nodup_iff_pairwise_ne] at h1
    refine h1.imp_of_mem fun {a b} ha hb hne e => hne ?_
    have e1 := at' a ha
    have e2 := at' b hb
    rw [e] at e1
    obtain ⟨l1, q1⟩ := List.getElem?_eq_some_iff.mp e1
    obtain ⟨l2, q2⟩ := List.getElem?_eq_some_iff.mp e2
    have : a.toNat = b.toNat := by
      rw [List.nodup_iff_pairwise_ne, List.pairwise_iff_getElem] at hn
      rcases Nat.lt_trichotomy a.toNat b.toNat with h | h | h
      · exact absurd (q1.trans q2.symm) (hn _ _ l1 l2 h)
      · exact h
      · exact absurd (q2.trans q1.symm) (hn _ _ l2 l1 h)
    have := h2 a ha
    have := h2 b hb
    omega
  have := hm.length_le_of_subset (l₂ := tkL n ps g s) fun x hx => by
    obtain ⟨p, hp, rfl⟩ := List.mem_map.mp hx
    obtain ⟨a, b⟩ := R.ok p.toNat _ (at' p hp)
    have hp2 := h2 p hp
    have hps : ps.getD p.toNat [] ∈ ps := by
      rw [List.getD_eq_getElem?_getD, List.getElem?_eq_getElem (by omega)]
      exact List.getElem_mem _
    unfold tkL
    refine List.mem_filter.mpr ⟨rng_mem.mpr ((hasc _ hps).2 _ a), ?_⟩
    rw [Bool.and_eq_true, List.any_eq_true]
    exact ⟨by simpa using b, p, hp, List.contains_iff_mem.mpr a⟩
  rw [List.length_map] at this
  unfold spareV
  omega
theorem subs_all : ∀ {m : Nat} {s : List Int}, s.Pairwise (· < ·) → (∀ x ∈ s, 0 ≤ x ∧ x < m) → s ∈ subs m
  | 0, s, _, h => by
    cases s with
    | nil => simp [subs]
    | cons x s => have := h x List.mem_cons_self; omega
  | m + 1, s, hp, h => by
    rw [subs, List.mem_append]
    rcases List.eq_nil_or_concat s with rfl | ⟨s', x, rfl⟩
    · exact .inl (subs_all .nil (by simp))
    · have hp' : (s' ++ [x]).Pairwise (· < ·) := by simpa using hp
      have h' : ∀ y ∈ s' ++ [x], 0 ≤ y ∧ y < (m + 1 : Nat) := by simpa using h
      obtain ⟨p1, _, p3⟩ := List.pairwise_append.mp hp'
      have hx := h' x (by simp)
      by_cases e : x = m
      · refine .inr (List.mem_map.mpr ⟨s', subs_all p1 fun y hy => ?_, by rw [e]; simp⟩)
        have := p3 y hy x (by simp)
        have := h' y (by simp [hy])
        omega
      · refine .inl (subs_all (by simpa using hp') fun y hy => ?_)
        have hy' : y ∈ s' ++ [x] := by simpa using hy
        have := h' y hy'
        rcases List.mem_append.mp hy' with hy' | hy'
        · have := p3 y hy' x (by simp)
          omega
        · rw [List.mem_singleton] at hy'
          omega
theorem subs_cons2 (m : Nat) : subs m = [] :: (subs m).drop 1 := by
  induction m with
  | zero => rfl
  | succ m ih =>
    rw [subs]
    rw [ih]
    rfl
theorem subs_drop2 {m : Nat} {s : List Int} (h : s ∈ (subs m).drop 1) : s ≠ [] := by
  induction m with
  | zero => simp [subs] at h
  | succ m ih =>
    rw [subs] at h
    have e : (subs m ++ (subs m).map (· ++ [(m : Int)])).drop 1 = (subs m).drop 1 ++ (subs m).map (· ++ [(m : Int)]) := by
      rw [subs_cons2 m]; rfl
    rw [e] at h
    rcases List.mem_append.mp h with h | h
    · exact ih h
    · obtain ⟨s', _, rfl⟩ := List.mem_map.mp h
      simp
theorem subs_all1 {m : Nat} {s : List Int} (h1 : s.Pairwise (· < ·)) (h2 : ∀ x ∈ s, 0 ≤ x ∧ x < m) (h3 : s ≠ []) : s ∈ (subs m).drop 1 := by
  have := subs_all h1 h2
  rw [subs_cons2 m] at this
  rcases List.mem_cons.mp this with h | h
  · exact absurd h h3
  · exact h
end Co

set_option linter.all false
namespace Co
open PySem
/-! ### plans -/
/-- a post so many times more -/
def cp (ps : List (List Int)) (p f : Nat) : List (List Int) := ps ++ List.replicate f (ps.getD p [])
def copySp : Spec := fun ds Q => ∃ n ps, ∃ p f : Nat, ds = [houseD n ps, .int (p : Int), .int (f : Int)] ∧ ps.length ≤ 10 ∧ p < ps.length ∧ f ≤ 10 ∧ Q (.val (houseD n (cp ps p f))) []
theorem rep_flat {α : Type} (d : α) : ∀ f : Nat, (List.replicate f [d]).flatten = List.replicate f d
  | 0 => rfl
  | f + 1 => by
    rw [List.replicate_succ, List.flatten_cons, rep_flat d f, List.replicate_succ]; rfl
theorem noRef_house (n : Nat) (ps : List (List Int)) : noRef (houseD n ps) = true := by
  have h : noRefs (ps.map intsD) = true := noRefs_of fun x hx => by
    obtain ⟨l, _, rfl⟩ := List.mem_map.mp hx
    exact noRef_intsD l
  unfold houseD
  rw [noRef, noRefs, noRefs, noRefs, noRef, noRef, h]
  rfl
def partD (m : Nat) (rs : List Int) : PyData := .tuple [intsD (rs.take m), intsD (isort (fun a b => decide (a ≤ b)) (rs.drop m))]
def planF (ps : List (List Int)) (g : List Int) (f : Nat) : Nat → Nat → List (List Int) → Option (List (List Int))
  | 0, _, acc => some acc
  | k + 1, p, acc => match settledF (cp ps p f) g with
    | .inl F => planF ps g f k (p + 1) (acc ++ [F.map fun o => o.getD 0])
    | .inr _ => none
theorem cp_len (ps : List (List Int)) (p f : Nat) : (cp ps p f).length = ps.length + f := by simp [cp]
theorem cp_asc {n : Nat} {ps : List (List Int)} {p f : Nat} (hp : p < ps.length) (h : ∀ l ∈ ps, asc n l) : ∀ l ∈ cp ps p f, asc n l := fun l hl => by
  unfold cp at hl
  rcases List.mem_append.mp hl with hl | hl
  · exact h l hl
  · obtain ⟨_, rfl⟩ := List.mem_replicate.mp hl
    rw [List.getD_eq_getElem?_getD, List.getElem?_eq_getElem hp]
    exact h _ (List.getElem_mem hp)
def planSp : Spec := fun ds Q => ∃ n ps g, ∃ f : Nat, ds = [houseD n ps, intsD g, .int (f : Int)] ∧ n ≤ 20 ∧ ps.length ≤ 10 ∧ f ≤ 10 ∧ (∀ l ∈ ps, asc n l) ∧
  (∀ rss, planF ps g f ps.length 0 [] = some rss → rss.length = ps.length → (∀ (p : Nat) (rs : List Int), rss[p]? = some rs → Mt (cp ps p f) g (rs.map some)) → Q (.val (.tuple (rss.map (partD ps.length)))) []) ∧
  (planF ps g f ps.length 0 [] = none → (∃ p w, p < ps.length ∧ tooFew (cp ps p f) g w) → Q (.val .none) [])
end Co

set_option linter.all false
namespace Co
open PySem
def furB (ps : List (List Int)) (g : List Int) (p : Nat) (rs fs : List Int) : Bool := fs.all fun x => (ps.getD p []).contains x && !rs.contains x && !g.contains x
def partB (n : Nat) (ps : List (List Int)) (g : List Int) (f : Int) (p : Nat) : PyData → Bool
  | .tuple [a, b] => rosterB n ps g a && ascB n b && (match a, b with
    | .tuple la, .tuple lb => decide (((lb.length : Nat) : Int) = f) && (match intsOf la, intsOf lb with
      | some rs, some fs => furB ps g p rs fs
      | _, _ => false)
    | _, _ => false)
  | _ => false
theorem rosterB_true {n : Nat} {ps : List (List Int)} {g : List Int} {a : PyData} (h : rosterB n ps g a = true) : ∃ rs : List Int, a = .tuple (rs.map .int) ∧ rs.length = ps.length := by
  cases a <;> simp only [rosterB, Bool.false_eq_true] at h
  simp only [Bool.and_eq_true, decide_eq_true_eq] at h
  obtain ⟨rs, rfl, _⟩ := all_inR h.1.2
  exact ⟨rs, rfl, by have := h.1.1; rwa [List.length_map] at this⟩
theorem partB_two {n : Nat} {ps : List (List Int)} {g rs fs : List Int} {f : Int} {p : Nat} (h1 : rosterB n ps g (.tuple (rs.map .int)) = true) (h2 : ascB n (.tuple (fs.map .int)) = true) :
    partB n ps g f p (.tuple [.tuple (rs.map .int), .tuple (fs.map .int)]) = (decide (((fs.length : Nat) : Int) = f) && furB ps g p rs fs) := by
  simp only [partB, h1, h2, Bool.true_and, intsOf_map', List.length_map]
def isPartSp : Spec := fun ds Q => ∃ n ps g d, ∃ f : Int, ∃ p : Nat, ds = [houseD n ps, intsD g, .int f, .int (p : Int), d] ∧ n ≤ 20 ∧ ps.length ≤ 20 ∧ p < ps.length ∧ (∀ a l, d = .tuple [a, .tuple l] → l.length ≤ 63) ∧ Q (.val (.bool (partB n ps g f p d))) []
/-! ### plans -/
def planB (n : Nat) (ps : List (List Int)) (g : List Int) (f : Int) : PyData → Bool
  | .tuple l => decide (l.length = ps.length) && l.zipIdx.all fun q => partB n ps g f q.2 q.1
  | _ => false
theorem enumL_eq (l : List PyData) : enumL l = l.zipIdx.map fun q => .tuple [.int ((q.2 : Nat) : Int), q.1] := by
  refine List.ext_getElem? fun i => ?_
  rw [List.getElem?_map, List.getElem?_zipIdx]
  by_cases hi : i < l.length
  · have h1 : (enumL l)[i]? = some (.tuple [.int (0 + (i : Int)), l[i]]) := pairs2_get (rangeL_get hi) (List.getElem?_eq_getElem hi)
    rw [h1, List.getElem?_eq_getElem hi]
    simp
  · have h1 : (enumL l)[i]? = none := by
      rw [List.getElem?_eq_none]
      unfold enumL
      rw [pairs2_length, rangeL_length]
      omega
    rw [h1, List.getElem?_eq_none (by omega)]
    rfl
def isPlanSp : Spec := fun ds Q => ∃ n ps g d, ∃ f : Int, ds = [houseD n ps, intsD g, .int f, d] ∧ n ≤ 20 ∧ ps.length ≤ 20 ∧ (∀ l a l', d = .tuple l → .tuple [a, .tuple l'] ∈ l → l'.length ≤ 63) ∧ Q (.val (.bool (planB n ps g f d))) []
end Co

set_option linter.all false
namespace Co
open PySem
/-! ### lists of tuples in order -/
def lexLe (a b : List Int) : Bool := !HT.lexLt b a
theorem lex_anti : ∀ {a b : List Int}, HT.lexLt b a = false → HT.lexLt a b = false → a = b
  | [], [], _, _ => rfl
  | [], y :: b, h1, h2 => by rw [HT.lexLt_nil_cons] at h2; cases h2
  | x :: a, [], h1, h2 => by rw [HT.lexLt_nil_cons] at h1; cases h1
  | x :: a, y :: b, h1, h2 => by
    rw [HT.lexLt_cons] at h1 h2
    by_cases e : x = y
    · rw [if_pos e.symm] at h1
      rw [if_pos e] at h2
      rw [e, lex_anti h1 h2]
    · rw [if_neg (fun q => e q.symm), decide_eq_false_iff_not] at h1
      rw [if_neg e, decide_eq_false_iff_not] at h2
      omega
def srt (l : List (List Int)) : List (List Int) := l.mergeSort lexLe
theorem srt_perm (l : List (List Int)) : (srt l).Perm l := List.mergeSort_perm _ _
theorem srt_pw (l : List (List Int)) : (srt l).Pairwise (fun a b => HT.lexLt b a = false) := by
  have := List.pairwise_mergeSort (le := lexLe) (fun a b c x y => by
    unfold lexLe at x y ⊢
    rw [Bool.not_eq_true'] at x y ⊢
    exact NtL.lex_tr a b c x y) (fun a b => by
    unfold lexLe
    cases h : HT.lexLt b a
    · rfl
    · rw [NtL.lex_asym b a h]; rfl) l
  exact this.imp fun {a b} h => by
    unfold lexLe at h
    rw [Bool.not_eq_true'] at h
    exact h
theorem srt_uniq {l ts : List (List Int)} (h1 : ts.Perm l) (h2 : ts.Pairwise (fun a b => HT.lexLt b a = false)) : ts = srt l :=
  List.Perm.eq_of_pairwise (le := fun a b => HT.lexLt b a = false) (fun a b _ _ x y => lex_anti x y) h2 (srt_pw l) (h1.trans (srt_perm l).symm)
def setL (m : Nat) : List (List Int) := srt ((subs m).drop 1)
def setsOf2Sp : Spec := fun ds Q => ∃ m : Nat, ds = [.int m] ∧ m ≤ 10 ∧ Q (.own (.list ((setL m).map intsD))) []
theorem setL_mem {m : Nat} {s : List Int} : s ∈ setL m ↔ s ∈ (subs m).drop 1 := (srt_perm _).mem_iff
theorem setL_len (m : Nat) : (setL m).length = 2 ^ m - 1 := by
  unfold setL
  rw [(srt_perm _).length_eq, List.length_drop, subs_len]
theorem noRefs_tups (ts : List (List Int)) : noRefR (.own (.list (ts.map intsD))) = true := noRefs_of fun x hx => by
  obtain ⟨i, _, rfl⟩ := List.mem_map.mp hx
  exact noRef_intsD i
/-! ### a narrow set told -/
def findNarrowSp : Spec := fun ds Q => ∃ n ps g, ∃ f : Int, ds = [houseD n ps, intsD g, .int f] ∧ n ≤ 20 ∧ ps.length ≤ 10 ∧
  (∀ s, (setL ps.length).find? (fun s => decide (spareV n ps g s < f)) = some s → Q (.val (intsD s)) []) ∧ ((setL ps.length).find? (fun s => decide (spareV n ps g s < f)) = none → Q (.val .none) [])
theorem subs_drop_in {m : Nat} {s : List Int} (hs : s ∈ (subs m).drop 1) (hm : m ≤ 10) : s.length ≤ 1000 ∧ ∀ p ∈ s, 0 ≤ p ∧ p < m := by
  obtain ⟨_, a, b⟩ := subs_mem (List.mem_of_mem_drop hs)
  exact ⟨by omega, a⟩
/-! ### the least spare -/
def least2Sp : Spec := fun ds Q => ∃ n ps g, ds = [houseD n ps, intsD g] ∧ n ≤ 20 ∧ ps.length ≤ 10 ∧ (ps.length = 0 → Q (.val .none) []) ∧
  (∀ x, (∃ s ∈ (subs ps.length).drop 1, spareV n ps g s = x) → (∀ s ∈ (subs ps.length).drop 1, x ≤ spareV n ps g s) → Q (.val (.int x)) [])
end Co

set_option linter.all false
namespace Co
open PySem
/-! ### plans and narrow sets, in plain words -/
theorem isort_perm (l : List Int) : (isort (fun a b => decide (a ≤ b)) l).Perm l := List.mergeSort_perm _ _
theorem isort_asc {l : List Int} (h : l.Nodup) : (isort (fun a b => decide (a ≤ b)) l).Pairwise (· < ·) := by
  have hn := (isort_perm l).nodup_iff.mpr h
  have hs : (isort (fun a b => decide (a ≤ b)) l).Pairwise (· ≤ ·) := by
    have := List.pairwise_mergeSort (le := fun a b : Int => decide (a ≤ b)) (fun a b c x y => by simp at x y ⊢; omega) (fun a b => by simp; omega) l
    exact this.imp fun h => by simpa using h
  rw [List.nodup_iff_pairwise_ne] at hn
  exact (hs.and hn).imp fun h => by omega
theorem mt_nodup {ps : List (List Int)} {g rs : List Int} (M : Mt ps g (rs.map some)) : rs.Nodup := by
  rw [List.nodup_iff_pairwise_ne, List.pairwise_iff_getElem]
  intro i j hi hj hij e
  have := M.inj i j rs[j] (by rw [List.getElem?_map, List.getElem?_eq_getElem hi, e]; rfl) (by rw [List.getElem?_map, List.getElem?_eq_getElem hj]; rfl)
  omega
theorem mt_at {ps : List (List Int)} {g rs : List Int} (M : Mt ps g (rs.map some)) {i : Nat} {x : Int} (e : rs[i]? = some x) : x ∈ ps.getD i [] ∧ x ∉ g := M.ok i x (by rw [List.getElem?_map, e]; rfl)
theorem cp_old {ps : List (List Int)} {p f i : Nat} (h : i < ps.length) : (cp ps p f).getD i [] = ps.getD i [] := by
  unfold cp
  have e : (ps ++ List.replicate f (ps.getD p []))[i]? = ps[i]? := List.getElem?_append_left h
  simp only [List.getD_eq_getElem?_getD] at e ⊢
  rw [e]
theorem cp_new {ps : List (List Int)} {p f i : Nat} (h : ps.length ≤ i) (h2 : i < ps.length + f) : (cp ps p f).getD i [] = ps.getD p [] := by
  unfold cp
  have e : (ps ++ List.replicate f (ps.getD p []))[i]? = some (ps.getD p []) := by
    rw [List.getElem?_append_right h, List.getElem?_replicate, if_pos (by omega)]
  rw [List.getD_eq_getElem?_getD, e]
  rfl
theorem mt_take {ps : List (List Int)} {g rs : List Int} {p f : Nat} (M : Mt (cp ps p f) g (rs.map some)) : Mt ps g ((rs.take ps.length).map some) := by
  have hl : rs.length = ps.length + f := by have := M.len; rwa [List.length_map, cp_len] at this
  have at' : ∀ (i : Nat) (x : Int), ((rs.take ps.length).map some)[i]? = some (some x) → i < ps.length ∧ rs[i]? = some x := fun i x e => by
    rw [List.getElem?_map] at e
    cases h : (rs.take ps.length)[i]? with
    | none => rw [h] at e; cases e
    | some y =>
      rw [h] at e
      cases e
      have hi := (List.getElem?_eq_some_iff.mp h).1
      rw [List.length_take] at hi
      rw [List.getElem?_take, if_pos (by omega)] at h
      exact ⟨by omega, h⟩
  refine ⟨by rw [List.length_map, List.length_take]; omega, fun i j x e e' => ?_, fun i x e => ?_⟩
  · have h1 := (at' i x e).2
    have h2 := (at' j x e').2
    exact M.inj i j x (by rw [List.getElem?_map, h1]; rfl) (by rw [List.getElem?_map, h2]; rfl)
  · obtain ⟨h0, h1⟩ := at' i x e
    have := mt_at M h1
    rw [cp_old h0] at this
    exact this
theorem part_right {n : Nat} {ps : List (List Int)} {g rs : List Int} {p f : Nat} (hp : p < ps.length) (hasc : ∀ l ∈ ps, asc n l) (M : Mt (cp ps p f) g (rs.map some)) : partB n ps g f p (partD ps.length rs) = true := by
  have hl : rs.length = ps.length + f := by have := M.len; rwa [List.length_map, cp_len] at this
  have hR := roster_right (n := n) hasc (mt_take M)
  have hnd := mt_nodup M
  have hdn : (rs.drop ps.length).Nodup := hnd.sublist (List.drop_sublist _ _)
  have hfa := isort_asc hdn
  have hin : ∀ x ∈ isort (fun a b => decide (a ≤ b)) (rs.drop ps.length), (x ∈ ps.getD p [] ∧ x ∉ g) ∧ x ∉ rs.take ps.length := fun x hx => by
    have hx := (isort_perm _).mem_iff.mp hx
    obtain ⟨j, hj⟩ := List.getElem?_of_mem hx
    have hjl := (List.getElem?_eq_some_iff.mp hj).1
    rw [List.length_drop] at hjl
    rw [List.getElem?_drop] at hj
    have := mt_at M hj
    rw [cp_new (by omega) (by omega)] at this
    refine ⟨this, fun ht => ?_⟩
    have := hnd
    rw [← List.take_append_drop ps.length rs, List.nodup_append] at this
    exact this.2.2 x ht x hx rfl
  have hpa : asc n (ps.getD p []) := by
    rw [List.getD_eq_getElem?_getD, List.getElem?_eq_getElem hp]
    exact hasc _ (List.getElem_mem hp)
  have hA : ascB n (.tuple ((isort (fun a b => decide (a ≤ b)) (rs.drop ps.length)).map .int)) = true := by
    simp only [ascB, intsOf_map', Bool.and_eq_true, List.all_eq_true]
    refine ⟨fun x hx => ?_, adj_iff.mpr hfa⟩
    obtain ⟨y, hy, rfl⟩ := List.mem_map.mp hx
    have := hpa.2 y (hin y hy).1.1
    simp only [inR, Bool.and_eq_true, decide_eq_true_eq]
    omega
  have e := partB_two (f := (f : Int)) (p := p) hR hA
  show partB n ps g f p (.tuple [.tuple ((rs.take ps.length).map .int), .tuple ((isort (fun a b => decide (a ≤ b)) (rs.drop ps.length)).map .int)]) = true
  rw [e, Bool.and_eq_true, decide_eq_true_eq, (isort_perm _).length_eq, List.length_drop]
  refine ⟨by omega, ?_⟩
  unfold furB
  rw [List.all_eq_true]
  intro x hx
  obtain ⟨⟨a, b⟩, c⟩ := hin x hx
  have b' : g.contains x = false := by simpa using b
  have c' : (rs.take ps.length).contains x = false := by simpa using c
  rw [List.contains_iff_mem.mpr a, b', c']
  rfl
theorem plan_right {n : Nat} {ps : List (List Int)} {g : List Int} {f : Nat} {rss : List (List Int)} (hasc : ∀ l ∈ ps, asc n l) (hl : rss.length = ps.length) (hM : ∀ (p : Nat) (rs : List Int), rss[p]? = some rs → Mt (cp ps p f) g (rs.map some)) :
    planB n ps g f (.tuple (rss.map (partD ps.length))) = true := by
  simp only [planB, Bool.and_eq_true, decide_eq_true_eq, List.length_map, List.all_eq_true]
  refine ⟨hl, fun q hq => ?_⟩
  obtain ⟨i, hi⟩ := List.getElem?_of_mem hq
  rw [List.getElem?_zipIdx] at hi
  obtain ⟨y, hy, e⟩ := Option.map_eq_some_iff.mp hi
  obtain ⟨rs, rfl, hrs⟩ := map_some hy
  have hip : i < ps.length := by rw [← hl]; exact (List.getElem?_eq_some_iff.mp hrs).1
  rw [← e]
  show partB n ps g f (0 + i) (partD ps.length rs) = true
  rw [Nat.zero_add]
  exact part_right hip hasc (hM i rs hrs)
/-- a plan leaves all posts as many to spare -/
theorem plan_spare {n : Nat} {ps : List (List Int)} {g rs s : List Int} {p f : Nat} (hasc : ∀ l ∈ ps, asc n l) (M : Mt (cp ps p f) g (rs.map some)) (h1 : s.Nodup) (h2 : ∀ q ∈ s, 0 ≤ q ∧ q < ps.length) (hp : (p : Int) ∈ s) : (f : Int) ≤ spareV n ps g s := by
  have hl : rs.length = ps.length + f := by have := M.len; rwa [List.length_map, cp_len] at this
  have hnd := mt_nodup M
  have hi : ∀ i ∈ s.map Int.toNat ++ (List.range f).map (ps.length + ·), i < rs.length := fun i hi => by
    rcases List.mem_append.mp hi with hi | hi
    · obtain ⟨q, hq, rfl⟩ := List.mem_map.mp hi
      have := h2 q hq
      omega
    · obtain ⟨j, hj, rfl⟩ := List.mem_map.mp hi
      have := List.mem_range.mp hj
      omega
  have hin : (s.map Int.toNat ++ (List.range f).map (ps.length + ·)).Nodup := by
    rw [List.nodup_append]
    refine ⟨?_, ?_, fun a ha b hb e => ?_⟩
    · rw [List.nodup_iff_pairwise_ne, List.pairwise_map]
      rw [List.nodup_iff_pairwise_ne] at h1
      refine h1.imp_of_mem fun {a b} ha hb hne e => hne ?_
      have := h2 a ha
      have := h2 b hb
      omega
    · rw [List.nodup_iff_pairwise_ne, List.pairwise_map]
      have := List.nodup_range (n := f)
      rw [List.nodup_iff_pairwise_ne] at this
      exact this.imp fun h e => h (by omega)
    · obtain ⟨q, hq, rfl⟩ := List.mem_map.mp ha
      obtain ⟨j, hj, rfl⟩ := List.mem_map.mp hb
      have := h2 q hq
      omega
  have hmn : ((s.map Int.toNat ++ (List.range f).map (ps.length + ·)).map fun i => rs.getD i 0).Nodup := by
    rw [List.nodup_iff_pairwise_ne, List.pairwise_map]
    rw [List.nodup_iff_pairwise_ne] at hin
    refine hin.imp_of_mem fun {a b} ha hb hne e => hne ?_
    have la := hi a ha
    have lb := hi b hb
    rw [List.getD_eq_getElem?_getD, List.getD_eq_getElem?_getD, List.getElem?_eq_getElem la, List.getElem?_eq_getElem lb] at e
    have e : rs[a] = rs[b] := e
    rw [List.nodup_iff_pairwise_ne, List.pairwise_iff_getElem] at hnd
    rcases Nat.lt_trichotomy a b with h | h | h
    · exact absurd e (hnd a b la lb h)
    · exact h
    · exact absurd e.symm (hnd b a lb la h)
  have := hmn.length_le_of_subset (l₂ := tkL n ps g s) fun x hx => by
    obtain ⟨i, hii, rfl⟩ := List.mem_map.mp hx
    have li := hi i hii
    have ei : rs[i]? = some (rs.getD i 0) := by rw [List.getD_eq_getElem?_getD, List.getElem?_eq_getElem li]; rfl
    obtain ⟨a, b⟩ := mt_at M ei
    obtain ⟨q, hq, hqa⟩ : ∃ q ∈ s, rs.getD i 0 ∈ ps.getD q.toNat [] := by
      rcases List.mem_append.mp hii with hii | hii
      · obtain ⟨q, hq, rfl⟩ := List.mem_map.mp hii
        have := h2 q hq
        rw [cp_old (by omega)] at a
        exact ⟨q, hq, a⟩
      · obtain ⟨j, hj, rfl⟩ := List.mem_map.mp hii
        have := List.mem_range.mp hj
        rw [cp_new (by omega) (by omega)] at a
        exact ⟨p, hp, by rw [Int.toNat_natCast]; exact a⟩
    have hq2 := h2 q hq
    have hps : ps.getD q.toNat [] ∈ ps := by
      rw [List.getD_eq_getElem?_getD, List.getElem?_eq_getElem (by omega)]
      exact List.getElem_mem _
    unfold tkL
    refine List.mem_filter.mpr ⟨rng_mem.mpr ((hasc _ hps).2 _ hqa), ?_⟩
    rw [Bool.and_eq_true, List.any_eq_true]
    exact ⟨by simpa using b, q, hq, List.contains_iff_mem.mpr hqa⟩
  rw [List.length_map, List.length_append, List.length_map, List.length_map, List.length_range] at this
  unfold spareV
  omega
theorem len_split {α : Type} (p : α → Bool) : ∀ l : List α, l.length = (l.filter p).length + (l.filter fun x => !p x).length
  | [] => rfl
  | x :: l => by
    have := len_split p l
    cases h : p x <;> simp [List.filter_cons, h] <;> omega
/-- too few people for posts with copies: a narrow set -/
theorem few_narrow {n : Nat} {ps : List (List Int)} {g : List Int} {p f : Nat} {w : List Nat} (hp : p < ps.length) (T : tooFew (cp ps p f) g w) : ∃ s ∈ (subs ps.length).drop 1, spareV n ps g s < f := by
  obtain ⟨h1, h2, K, hK, hK2⟩ := T
  rw [cp_len] at h2
  have hsplit := len_split (fun h => decide (h < ps.length)) w
  have hC : (w.filter fun h => !decide (h < ps.length)).length ≤ f := by
    have hn : (w.filter fun h => !decide (h < ps.length)).Nodup := h1.sublist List.filter_sublist
    have := hn.length_le_of_subset (l₂ := (List.range f).map (ps.length + ·)) fun x hx => by
      obtain ⟨a, b⟩ := List.mem_filter.mp hx
      have := h2 x a
      have : ¬ x < ps.length := by simpa using b
      exact List.mem_map.mpr ⟨x - ps.length, List.mem_range.mpr (by omega), by omega⟩
    rwa [List.length_map, List.length_range] at this
  let S : List Int := (rng ps.length).filter fun i => (w.contains i.toNat) || (decide ((w.filter fun h => !decide (h < ps.length)) ≠ []) && decide (i = (p : Int)))
  have hSa : S.Pairwise (· < ·) := (rng_asc _).1.filter _
  have hSb : ∀ x ∈ S, 0 ≤ x ∧ x < ps.length := fun x hx => rng_mem.mp (List.mem_filter.mp hx).1
  have hSA : (w.filter fun h => decide (h < ps.length)).length ≤ S.length := by
    have hn : ((w.filter fun h => decide (h < ps.length)).map fun h => ((h : Nat) : Int)).Nodup := by
      rw [List.nodup_iff_pairwise_ne, List.pairwise_map]
      have := h1.sublist (List.filter_sublist (p := fun h => decide (h < ps.length)))
      rw [List.nodup_iff_pairwise_ne] at this
      exact this.imp fun h e => h (by omega)
    have := hn.length_le_of_subset (l₂ := S) fun x hx => by
      obtain ⟨h, hh, rfl⟩ := List.mem_map.mp hx
      obtain ⟨a, b⟩ := List.mem_filter.mp hh
      have b : h < ps.length := by simpa using b
      refine List.mem_filter.mpr ⟨rng_mem.mpr (by omega), ?_⟩
      rw [Int.toNat_natCast, List.contains_iff_mem.mpr a]
      rfl
    rwa [List.length_map] at this
  have hne : S ≠ [] := fun e => by
    cases w with
    | nil => simp at hK
    | cons h w =>
      by_cases hh : h < ps.length
      · have : ((h : Nat) : Int) ∈ S := List.mem_filter.mpr ⟨rng_mem.mpr (by omega), by rw [Int.toNat_natCast, List.contains_iff_mem.mpr List.mem_cons_self]; rfl⟩
        rw [e] at this
        simp at this
      · have hc : ((h :: w).filter fun h => !decide (h < ps.length)) ≠ [] := fun e2 => by
          have : h ∈ ((h :: w).filter fun h => !decide (h < ps.length)) := List.mem_filter.mpr ⟨List.mem_cons_self, by simpa using hh⟩
          rw [e2] at this
          simp at this
        have : ((p : Nat) : Int) ∈ S := List.mem_filter.mpr ⟨rng_mem.mpr (by omega), by rw [decide_eq_true hc, decide_eq_true rfl]; simp⟩
        rw [e] at this
        simp at this
  refine ⟨S, subs_all1 hSa hSb hne, ?_⟩
  have hnd : (tkL n ps g S).Nodup := by
    unfold tkL
    exact ((rng_asc n).1.filter _).imp fun h => by omega
  have := hnd.length_le_of_subset (l₂ := K) fun x hx => by
    unfold tkL at hx
    obtain ⟨_, hx2⟩ := List.mem_filter.mp hx
    rw [Bool.and_eq_true, List.any_eq_true] at hx2
    obtain ⟨hg, q, hq, hc⟩ := hx2
    have hg : x ∉ g := by simpa using hg
    unfold canB at hc
    have hc := List.contains_iff_mem.mp hc
    obtain ⟨hq1, hq2⟩ := List.mem_filter.mp hq
    have hq1 := rng_mem.mp hq1
    rw [Bool.or_eq_true] at hq2
    rcases hq2 with hq2 | hq2
    · have hqw := List.contains_iff_mem.mp hq2
      exact hK2 q.toNat hqw x (by rw [cp_old (by omega)]; exact hc) hg
    · rw [Bool.and_eq_true, decide_eq_true_eq, decide_eq_true_eq] at hq2
      obtain ⟨hne2, rfl⟩ := hq2
      obtain ⟨h, hh⟩ := List.exists_mem_of_ne_nil _ hne2
      obtain ⟨a, b⟩ := List.mem_filter.mp hh
      have b : ¬ h < ps.length := by simpa using b
      have := h2 h a
      refine hK2 h a x ?_ hg
      rw [cp_new (by omega) (by omega)]
      rw [Int.toNat_natCast] at hc
      exact hc
  unfold spareV
  omega
end Co

set_option linter.all false
namespace Co
open PySem
/-! ### Hall's theorem -/
def cn {α : Type} (p : α → Bool) (l : List α) : Nat := (l.filter p).length
theorem cn_cons {α : Type} (p : α → Bool) (x : α) (l : List α) : cn p (x :: l) = (if p x then 1 else 0) + cn p l := by
  unfold cn
  rw [List.filter_cons]
  split <;> simp_all <;> omega
theorem cn_sub {α : Type} (p q r s : α → Bool) (h : ∀ x, (if r x then 1 else 0) + (if s x then 1 else 0) ≤ (if p x then 1 else 0) + (if q x then 1 else 0)) : ∀ l : List α, cn r l + cn s l ≤ cn p l + cn q l
  | [] => by simp [cn]
  | x :: l => by
    have h1 := cn_sub p q r s h l
    have h2 := h x
    rw [cn_cons, cn_cons, cn_cons, cn_cons]
    omega
theorem cn_eq {α : Type} {p q : α → Bool} {l : List α} (h : ∀ x ∈ l, p x = q x) : cn p l = cn q l := by
  unfold cn
  rw [List.filter_congr h]
/-- who of some people can take some of the first posts -/
def nb (ps : List (List Int)) (k : Nat) (g : List Int) (w : Nat → Bool) (x : Int) : Bool := !g.contains x && (List.range k).any fun i => w i && (ps.getD i []).contains x
theorem hall_nb {n : Nat} {ps : List (List Int)} (hr : ∀ (i : Nat) (x : Int), x ∈ ps.getD i [] → 0 ≤ x ∧ x < n) : ∀ (k : Nat) (g : List Int), (∀ w : Nat → Bool, cn w (List.range k) ≤ cn (nb ps k g w) (rng n)) →
    ∃ t : List Int, t.length = k ∧ (∀ (i : Nat) (x : Int), t[i]? = some x → x ∈ ps.getD i [] ∧ x ∉ g) ∧ t.Nodup
  | 0, g, _ => ⟨[], rfl, by simp, by simp⟩
  | k + 1, g, H => by
    have nbOr : ∀ (w v : Nat → Bool) (x : Int), nb ps k g (fun i => w i || v i) x = (nb ps k g w x || nb ps k g v x) := fun w v x => by
      unfold nb
      cases g.contains x
      · simp only [Bool.not_false, Bool.true_and]
        rw [Bool.eq_iff_iff]
        simp only [Bool.or_eq_true, List.any_eq_true, Bool.and_eq_true]
        constructor
        · rintro ⟨i, hi, h | h, e⟩
          · exact .inl ⟨i, hi, h, e⟩
          · exact .inr ⟨i, hi, h, e⟩
        · rintro (⟨i, hi, h, e⟩ | ⟨i, hi, h, e⟩)
          · exact ⟨i, hi, .inl h, e⟩
          · exact ⟨i, hi, .inr h, e⟩
      · simp
    have nbAnd : ∀ (w v : Nat → Bool) (x : Int), nb ps k g (fun i => w i && v i) x = true → nb ps k g w x = true ∧ nb ps k g v x = true := fun w v x h => by
      unfold nb at h ⊢
      simp only [List.any_eq_true, Bool.and_eq_true] at h ⊢
      obtain ⟨h0, i, hi, ⟨h1, h2⟩, e⟩ := h
      exact ⟨⟨h0, i, hi, h1, e⟩, h0, i, hi, h2, e⟩
    have Hk : ∀ w : Nat → Bool, cn w (List.range k) ≤ cn (nb ps k g w) (rng n) := fun w => by
      have h1 := H fun i => w i && decide (i < k)
      have e1 : cn (fun i => w i && decide (i < k)) (List.range (k + 1)) = cn w (List.range k) := by
        rw [List.range_succ]
        unfold cn
        rw [List.filter_append]
        have : (List.filter (fun i => w i && decide (i < k)) [k]) = [] := by simp
        rw [this, List.append_nil]
        exact congrArg List.length (List.filter_congr fun x hx => by simp [List.mem_range.mp hx])
      have e2 : cn (nb ps (k + 1) g fun i => w i && decide (i < k)) (rng n) = cn (nb ps k g w) (rng n) := cn_eq fun x _ => by
        unfold nb
        congr 1
        rw [List.range_succ, List.any_append]
        simp only [List.any_cons, List.any_nil, Nat.lt_irrefl, decide_false, Bool.and_false, Bool.false_and, Bool.or_false]
        rw [Bool.eq_iff_iff, List.any_eq_true, List.any_eq_true]
        constructor
        · rintro ⟨i, hi, h⟩
          simp only [Bool.and_eq_true] at h ⊢
          exact ⟨i, hi, h.1.1, h.2⟩
        · rintro ⟨i, hi, h⟩
          simp only [Bool.and_eq_true] at h ⊢
          exact ⟨i, hi, ⟨h.1, decide_eq_true (List.mem_range.mp hi)⟩, h.2⟩
      rwa [e1, e2] at h1
    by_cases hx : ∃ x, x ∈ ps.getD k [] ∧ x ∉ g ∧ ∀ w : Nat → Bool, cn w (List.range k) ≤ cn (nb ps k (g ++ [x]) w) (rng n)
    · obtain ⟨x, h1, h2, h3⟩ := hx
      obtain ⟨t, t1, t2, t3⟩ := hall_nb hr k (g ++ [x]) h3
      refine ⟨t ++ [x], by simp [t1], fun i y e => ?_, ?_⟩
      · rcases getElem?_snoc e with e | ⟨rfl, rfl⟩
        · have := t2 i y e
          exact ⟨this.1, fun hy => this.2 (List.mem_append_left _ hy)⟩
        · rw [t1]; exact ⟨h1, h2⟩
      · rw [List.nodup_append]
        refine ⟨t3, by simp, fun a ha b hb e => ?_⟩
        rw [List.mem_singleton] at hb
        subst hb e
        obtain ⟨i, hi⟩ := List.getElem?_of_mem ha
        exact (t2 i a hi).2 (List.mem_append_right _ (by simp))
    · exfalso
      have tight : ∀ x, x ∈ ps.getD k [] → x ∉ g → ∃ w : Nat → Bool, cn (nb ps k g w) (rng n) = cn w (List.range k) ∧ nb ps k g w x = true := fun x h1 h2 => by
        have : ∃ w : Nat → Bool, ¬ cn w (List.range k) ≤ cn (nb ps k (g ++ [x]) w) (rng n) := by
          by_cases h : ∃ w : Nat → Bool, ¬ cn w (List.range k) ≤ cn (nb ps k (g ++ [x]) w) (rng n)
          · exact h
          · exact absurd ⟨x, h1, h2, fun w => Decidable.byContradiction fun h3 => h ⟨w, h3⟩⟩ hx
        obtain ⟨w, hw⟩ := this
        have hH := Hk w
        have same : ∀ y, y ≠ x → nb ps k (g ++ [x]) w y = nb ps k g w y := fun y hy => by
          unfold nb
          congr 2
          rw [Bool.eq_iff_iff, List.contains_iff_mem, List.contains_iff_mem]
          simp [hy]
        cases hn : nb ps k g w x
        · exfalso
          have : cn (nb ps k (g ++ [x]) w) (rng n) = cn (nb ps k g w) (rng n) := cn_eq fun y _ => by
            by_cases hy : y = x
            · subst hy
              rw [hn]
              unfold nb
              simp
            · exact same y hy
          omega
        · refine ⟨w, ?_, hn⟩
          -- one fewer at most
          have h4 : cn (nb ps k g w) (rng n) ≤ cn (nb ps k (g ++ [x]) w) (rng n) + cn (fun y => decide (y = x)) (rng n) := by
            have := cn_sub (nb ps k (g ++ [x]) w) (fun y => decide (y = x)) (nb ps k g w) (fun _ => false) (fun y => by
              by_cases hy : y = x
              · subst hy
                rw [hn]
                simp
              · rw [same y hy]
                simp) (rng n)
            omega
          have h5 : cn (fun y => decide (y = x)) (rng n) ≤ 1 := by
            have hnd : ((rng n).filter fun y => decide (y = x)).Nodup := ((rng_asc n).1.imp fun {a b} h => (by omega : a ≠ b)).sublist List.filter_sublist
            have := hnd.length_le_of_subset (l₂ := [x]) fun y hy => by
              have := (List.mem_filter.mp hy).2
              simp at this
              rw [this]; simp
            exact this
          omega
      have all : ∀ L : List Int, (∀ x ∈ L, x ∈ ps.getD k [] ∧ x ∉ g) → ∃ T : Nat → Bool, cn (nb ps k g T) (rng n) = cn T (List.range k) ∧ ∀ x ∈ L, nb ps k g T x = true := fun L => by
        induction L with
        | nil =>
          refine fun _ => ⟨fun _ => false, ?_, by simp⟩
          have e1 : cn (fun _ : Nat => false) (List.range k) = 0 := by unfold cn; simp
          have e2 : cn (nb ps k g fun _ => false) (rng n) = 0 := by unfold cn nb; simp
          omega
        | cons x L ih =>
          intro hL
          obtain ⟨T, t1, t2⟩ := ih fun y hy => hL y (List.mem_cons_of_mem _ hy)
          obtain ⟨h1, h2⟩ := hL x List.mem_cons_self
          obtain ⟨w, w1, w2⟩ := tight x h1 h2
          refine ⟨fun i => T i || w i, ?_, fun y hy => ?_⟩
          · have a1 := Hk fun i => T i || w i
            have a2 := Hk fun i => T i && w i
            have a3 := cn_sub (nb ps k g T) (nb ps k g w) (nb ps k g fun i => T i || w i) (nb ps k g fun i => T i && w i) (fun y => by
              rw [nbOr]
              cases e : nb ps k g (fun i => T i && w i) y
              · cases nb ps k g T y <;> cases nb ps k g w y <;> simp
              · obtain ⟨b1, b2⟩ := nbAnd _ _ _ e
                rw [b1, b2]
                simp) (rng n)
            have a4 := cn_sub (fun i => T i || w i) (fun i => T i && w i) T w (fun i => by cases T i <;> cases w i <;> simp) (List.range k)
            omega
          · rw [nbOr]
            rcases List.mem_cons.mp hy with rfl | hy
            · rw [w2, Bool.or_true]
            · rw [t2 y hy, Bool.true_or]
      obtain ⟨T, t1, t2⟩ := all ((ps.getD k []).filter fun x => !g.contains x) fun x hx => by
        obtain ⟨a, b⟩ := List.mem_filter.mp hx
        exact ⟨a, by simpa using b⟩
      have h1 := H fun i => T i || decide (i = k)
      have e1 : cn (fun i => T i || decide (i = k)) (List.range (k + 1)) = cn T (List.range k) + 1 := by
        rw [List.range_succ]
        unfold cn
        rw [List.filter_append, List.length_append]
        have : (List.filter (fun i => T i || decide (i = k)) [k]) = [k] := by simp
        rw [this]
        refine congrArg (fun z => List.length z + 1) (List.filter_congr fun x hx => ?_)
        have := List.mem_range.mp hx
        have : decide (x = k) = false := decide_eq_false (by omega)
        rw [this, Bool.or_false]
      have e2 : cn (nb ps (k + 1) g fun i => T i || decide (i = k)) (rng n) = cn (nb ps k g T) (rng n) := cn_eq fun x _ => by
        cases hg : g.contains x
        · rw [Bool.eq_iff_iff]
          constructor
          · intro h
            unfold nb at h
            rw [hg, Bool.not_false, Bool.true_and, List.any_eq_true] at h
            obtain ⟨i, hi, h⟩ := h
            rw [Bool.and_eq_true, Bool.or_eq_true] at h
            obtain ⟨h | h, hc⟩ := h
            · by_cases hik : i = k
              · subst hik
                exact t2 x (List.mem_filter.mpr ⟨List.contains_iff_mem.mp hc, by rw [hg]; rfl⟩)
              · unfold nb
                rw [hg, Bool.not_false, Bool.true_and, List.any_eq_true]
                have := List.mem_range.mp hi
                exact ⟨i, List.mem_range.mpr (by omega), by rw [h, hc]; rfl⟩
            · have hik : i = k := by simpa using h
              subst hik
              exact t2 x (List.mem_filter.mpr ⟨List.contains_iff_mem.mp hc, by rw [hg]; rfl⟩)
          · intro h
            unfold nb at h ⊢
            rw [hg, Bool.not_false, Bool.true_and, List.any_eq_true] at h ⊢
            obtain ⟨i, hi, h⟩ := h
            rw [Bool.and_eq_true] at h
            have := List.mem_range.mp hi
            exact ⟨i, List.mem_range.mpr (by omega), by simp only [h.1, h.2]; rfl⟩
        · unfold nb
          rw [hg]
          rfl
      omega
/-- no posts with too few people: a roster -/
theorem hall {n : Nat} {ps : List (List Int)} {g : List Int} (hasc : ∀ l ∈ ps, asc n l) (h : ∀ s ∈ (subs ps.length).drop 1, 0 ≤ spareV n ps g s) : ∃ t, Ro g ps [] t := by
  have hr : ∀ (i : Nat) (x : Int), x ∈ ps.getD i [] → 0 ≤ x ∧ x < (n : Int) := fun i x hx => by
    by_cases hi : i < ps.length
    · rw [List.getD_eq_getElem?_getD, List.getElem?_eq_getElem hi] at hx
      exact (hasc _ (List.getElem_mem hi)).2 x hx
    · rw [List.getD_eq_getElem?_getD, List.getElem?_eq_none (by omega)] at hx
      simp at hx
  obtain ⟨t, t1, t2, t3⟩ := hall_nb hr ps.length g fun w => by
    by_cases h0 : cn w (List.range ps.length) = 0
    · omega
    · have hp : ((rng ps.length).filter fun i => w i.toNat).Pairwise (· < ·) := (rng_asc _).1.filter _
      have hl : ((rng ps.length).filter fun i => w i.toNat).length = cn w (List.range ps.length) := by
        unfold cn
        have e : rng ps.length = (List.range ps.length).map fun i => ((i : Nat) : Int) := rfl
        rw [e, List.filter_map, List.length_map]
        rfl
      have hne : ((rng ps.length).filter fun i => w i.toNat) ≠ [] := fun e => by rw [e] at hl; exact h0 hl.symm
      have := h _ (subs_all1 hp (fun x hx => rng_mem.mp (List.mem_filter.mp hx).1) hne)
      unfold spareV at this
      rw [hl] at this
      have e : (tkL n ps g ((rng ps.length).filter fun i => w i.toNat)).length = cn (nb ps ps.length g w) (rng n) := by
        unfold tkL
        refine cn_eq fun x _ => ?_
        unfold nb canB
        congr 1
        rw [Bool.eq_iff_iff, List.any_eq_true, List.any_eq_true]
        constructor
        · rintro ⟨i, hi, hc⟩
          obtain ⟨a, b⟩ := List.mem_filter.mp hi
          have := rng_mem.mp a
          exact ⟨i.toNat, List.mem_range.mpr (by omega), by rw [b, hc]; rfl⟩
        · rintro ⟨i, hi, hc⟩
          rw [Bool.and_eq_true] at hc
          have := List.mem_range.mp hi
          exact ⟨(i : Int), List.mem_filter.mpr ⟨rng_mem.mpr (by omega), by rw [Int.toNat_natCast]; exact hc.1⟩, by rw [Int.toNat_natCast]; exact hc.2⟩
      omega
  exact ⟨t, t1, t2, by rw [List.nil_append]; exact t3⟩
end Co

set_option linter.all false
namespace Co
open PySem
/-! ### whoever goes -/
def lft (n : Nat) (g : List Int) : List Int := (rng n).filter fun x => !g.contains x
def goneW (n : Nat) (g s : List Int) : List Int := g ++ s.map fun k => (lft n g).getD k.toNat 0
def stB (n : Nat) (ps : List (List Int)) (g : List Int) (f : Nat) : Bool := (subs (lft n g).length).all fun s => !(decide (s.length = min f (lft n g).length) && decide (allL (goneW n g s) ps = []))
theorem lft_len (n : Nat) (g : List Int) : (lft n g).length ≤ n := by
  unfold lft
  have := List.length_filter_le (fun x => !g.contains x) (rng n)
  rwa [rng_len] at this
def standsSp : Spec := fun ds Q => ∃ n ps g, ∃ f : Nat, ds = [houseD n ps, intsD g, .int (f : Int)] ∧ 0 < n ∧ n ≤ 10 ∧ ps.length ≤ 6 ∧ (∀ l ∈ ps, asc n l) ∧ asc n g ∧ f ≤ 100 ∧ Q (.val (.bool (stB n ps g f))) []
end Co

set_option linter.all false
namespace Co
open PySem
theorem lft_nodup (n : Nat) (g : List Int) : (lft n g).Nodup := ((rng_asc n).1.imp fun {a b} h => (by omega : a ≠ b)).sublist List.filter_sublist
theorem rng_nodup (n : Nat) : (rng n).Nodup := (rng_asc n).1.imp fun {a b} h => (by omega : a ≠ b)
theorem tkL_nodup (n : Nat) (ps : List (List Int)) (g s : List Int) : (tkL n ps g s).Nodup := (rng_nodup n).sublist List.filter_sublist
theorem tkL_mem {n : Nat} {ps : List (List Int)} {g s : List Int} {x : Int} : x ∈ tkL n ps g s ↔ (0 ≤ x ∧ x < n) ∧ x ∉ g ∧ s.any (canB ps x) = true := by
  unfold tkL
  rw [List.mem_filter, rng_mem, Bool.and_eq_true]
  simp
theorem gone_len {n : Nat} {ps : List (List Int)} {g a S : List Int} : (tkL n ps g S).length ≤ (tkL n ps (g ++ a) S).length + a.length := by
  have := (tkL_nodup n ps g S).length_le_of_subset (l₂ := tkL n ps (g ++ a) S ++ a) fun x hx => by
    obtain ⟨h1, h2, h3⟩ := tkL_mem.mp hx
    by_cases ha : x ∈ a
    · exact List.mem_append_right _ ha
    · refine List.mem_append_left _ (tkL_mem.mpr ⟨h1, fun h => ?_, h3⟩)
      rcases List.mem_append.mp h with h | h
      · exact h2 h
      · exact ha h
  rwa [List.length_append] at this
theorem st_iff {n : Nat} {ps : List (List Int)} {g : List Int} {f : Nat} (hasc : ∀ l ∈ ps, asc n l) : stB n ps g f = true ↔ ∀ s ∈ (subs ps.length).drop 1, (f : Int) ≤ spareV n ps g s := by
  constructor
  · intro hst S hS
    refine Decidable.byContradiction fun hlt => ?_
    have hS0 := subs_drop2 hS
    have hSl : 0 < S.length := List.length_pos_iff.mpr hS0
    obtain ⟨S1, S2, S3⟩ := subs_mem (List.mem_of_mem_drop hS)
    let gt : Int → Int := fun k => (lft n g).getD k.toNat 0
    let p : Int → Bool := fun k => S.any (canB ps (gt k))
    let L := (lft n g).length
    let I1 := (rng L).filter p
    let I2 := (rng L).filter fun k => !p k
    let j := min f L
    let C := (I1 ++ I2).take j
    let s := (rng L).filter fun k => C.contains k
    have gtIn : ∀ k ∈ rng L, gt k ∈ lft n g := fun k hk => by
      have := rng_mem.mp hk
      show (lft n g).getD k.toNat 0 ∈ _
      rw [List.getD_eq_getElem?_getD, List.getElem?_eq_getElem (show k.toNat < (lft n g).length by omega)]
      exact List.getElem_mem _
    have gtInj : ∀ a ∈ rng L, ∀ b ∈ rng L, gt a = gt b → a = b := fun a ha b hb e => by
      have ha := rng_mem.mp ha
      have hb := rng_mem.mp hb
      have la : a.toNat < (lft n g).length := by omega
      have lb : b.toNat < (lft n g).length := by omega
      have e : (lft n g).getD a.toNat 0 = (lft n g).getD b.toNat 0 := e
      rw [List.getD_eq_getElem?_getD, List.getD_eq_getElem?_getD, List.getElem?_eq_getElem la, List.getElem?_eq_getElem lb] at e
      have e : (lft n g)[a.toNat] = (lft n g)[b.toNat] := e
      have hnd := lft_nodup n g
      rw [List.nodup_iff_pairwise_ne, List.pairwise_iff_getElem] at hnd
      rcases Nat.lt_trichotomy a.toNat b.toNat with h | h | h
      · exact absurd e (hnd _ _ la lb h)
      · omega
      · exact absurd e.symm (hnd _ _ lb la h)
    have hI : ∀ k, k ∈ I1 ++ I2 ↔ k ∈ rng L := fun k => by
      rw [List.mem_append, List.mem_filter, List.mem_filter]
      cases p k <;> simp
    have hInd : (I1 ++ I2).Nodup := by
      rw [List.nodup_append]
      refine ⟨(rng_nodup L).sublist List.filter_sublist, (rng_nodup L).sublist List.filter_sublist, fun a ha b hb e => ?_⟩
      subst e
      have h1 := (List.mem_filter.mp ha).2
      have h2 := (List.mem_filter.mp hb).2
      rw [h1] at h2
      cases h2
    have hIl : (I1 ++ I2).length = L := by
      have h1 := hInd.length_le_of_subset (l₂ := rng L) fun x hx => (hI x).mp hx
      have h2 := (rng_nodup L).length_le_of_subset (l₂ := I1 ++ I2) fun x hx => (hI x).mpr hx
      rw [rng_len] at h1 h2
      omega
    have hCnd : C.Nodup := hInd.sublist (List.take_sublist _ _)
    have hCl : C.length = j := by
      show ((I1 ++ I2).take j).length = j
      rw [List.length_take, hIl]
      omega
    have hCs : ∀ k ∈ C, k ∈ rng L := fun k hk => (hI k).mp (List.mem_of_mem_take hk)
    have hsl : s.length = j := by
      have h1 := hCnd.length_le_of_subset (l₂ := s) fun x hx => List.mem_filter.mpr ⟨hCs x hx, List.contains_iff_mem.mpr hx⟩
      have h2 := ((rng_nodup L).sublist (List.filter_sublist (p := fun k => C.contains k))).length_le_of_subset (l₂ := C) fun x hx => List.contains_iff_mem.mp (List.mem_filter.mp hx).2
      have h2 : s.length ≤ C.length := h2
      omega
    have hsm : s ∈ subs L := subs_all ((rng_asc L).1.filter _) fun x hx => rng_mem.mp (List.mem_filter.mp hx).1
    -- few are left
    have hI1 : I1.length ≤ (tkL n ps g S).length := by
      have hnd : (I1.map gt).Nodup := by
        rw [List.nodup_iff_pairwise_ne, List.pairwise_map]
        have := (rng_nodup L).sublist (List.filter_sublist (p := p))
        rw [List.nodup_iff_pairwise_ne] at this
        exact this.imp_of_mem fun {a b} ha hb hne e => hne (gtInj a (List.mem_filter.mp ha).1 b (List.mem_filter.mp hb).1 e)
      have := hnd.length_le_of_subset (l₂ := tkL n ps g S) fun x hx => by
        obtain ⟨k, hk, rfl⟩ := List.mem_map.mp hx
        obtain ⟨h1, h2⟩ := List.mem_filter.mp hk
        have h3 := gtIn k h1
        unfold lft at h3
        obtain ⟨h4, h5⟩ := List.mem_filter.mp h3
        exact tkL_mem.mpr ⟨rng_mem.mp h4, by simpa using h5, h2⟩
      rwa [List.length_map] at this
    have hI1L : I1.length ≤ L := by rw [← hIl, List.length_append]; omega
    have hfew : (tkL n ps (goneW n g s) S).length ≤ I1.length - j := by
      have := (tkL_nodup n ps (goneW n g s) S).length_le_of_subset (l₂ := (I1.drop j).map gt) fun x hx => by
        obtain ⟨h1, h2, h3⟩ := tkL_mem.mp hx
        have hxl : x ∈ lft n g := List.mem_filter.mpr ⟨rng_mem.mpr h1, by
          have : x ∉ g := fun h => h2 (List.mem_append_left _ h)
          simpa using this⟩
        obtain ⟨i, hi⟩ := List.getElem?_of_mem hxl
        have hil := (List.getElem?_eq_some_iff.mp hi).1
        have hgt : gt (i : Int) = x := by
          show (lft n g).getD ((i : Nat) : Int).toNat 0 = x
          rw [Int.toNat_natCast, List.getD_eq_getElem?_getD, hi]; rfl
        have hir : (i : Int) ∈ rng L := rng_mem.mpr ⟨by omega, by show (i : Int) < ((lft n g).length : Int); omega⟩
        have hi1 : (i : Int) ∈ I1 := List.mem_filter.mpr ⟨hir, by show S.any (canB ps (gt i)) = true; rw [hgt]; exact h3⟩
        have his : (i : Int) ∉ s := fun h => h2 (List.mem_append_right _ (List.mem_map.mpr ⟨(i : Int), h, hgt⟩))
        have hic : (i : Int) ∉ C := fun h => his (List.mem_filter.mpr ⟨hir, List.contains_iff_mem.mpr h⟩)
        refine List.mem_map.mpr ⟨(i : Int), ?_, hgt⟩
        rw [← List.take_append_drop j I1, List.mem_append] at hi1
        rcases hi1 with h | h
        · exfalso
          refine hic ?_
          show (i : Int) ∈ (I1 ++ I2).take j
          rw [List.take_append]
          exact List.mem_append_left _ h
        · exact h
      rwa [List.length_map, List.length_drop] at this
    have hneg : spareV n ps (goneW n g s) S < 0 := by
      unfold spareV at hlt ⊢
      have hj : j = min f L := rfl
      omega
    have hno : allL (goneW n g s) ps = [] := List.eq_nil_iff_forall_not_mem.mpr fun t ht => by
      have := hall_easy (n := n) hasc (allL_mem.mp ht) (S1.imp fun h => by omega) S2
      omega
    unfold stB at hst
    have := List.all_eq_true.mp hst s hsm
    rw [decide_eq_true hno, decide_eq_true (show s.length = min f (lft n g).length from hsl)] at this
    simp at this
  · intro h
    unfold stB
    rw [List.all_eq_true]
    intro s hs
    by_cases hl : s.length = min f (lft n g).length
    · obtain ⟨t, ht⟩ := hall (g := goneW n g s) hasc fun S hS => by
        have h1 := h S hS
        have h2 := gone_len (n := n) (ps := ps) (g := g) (a := s.map fun k => (lft n g).getD k.toNat 0) (S := S)
        rw [List.length_map] at h2
        unfold spareV at h1 ⊢
        unfold goneW
        omega
      have hne : allL (goneW n g s) ps ≠ [] := fun e => by
        have := allL_mem.mpr ht
        rw [e] at this
        simp at this
      rw [decide_eq_false hne, Bool.and_false]
      rfl
    · rw [decide_eq_false hl, Bool.false_and]
      rfl
end Co

set_option linter.all false
namespace Co
open PySem
local macro_rules | `(tactic| walk_at "wps") => `(tactic| simp -dsimp only [↓wpS, ↓wpE, ↓wpEs, ↓wpEs', ↓wpCs, ↓wpI, ↓callW, ↓okArgs, ↓sigOk, ↓inouts, ↓lents, ↓peeks, ↓peek, ↓pk, ↓slot, ↓setOwn, ↓setC, ↓freeze, ↓isOwn, ↓isIo, ↓slC, ↓isLst, ↓asV, ↓asS, ↓asVs, ↓asSs, ↓isT, ↓R.still, ↓setMany, ↓bindT, ↓wipeE, ↓unwipe, ↓binD, ↓intBin, ↓cmpD, ↓eqD, ↓ordD, ↓ordI, ↓startE, ↓endsOf, ↓ioOf, ↓newsOf, ↓Sl.r, ↓itemsOf, ↓slcD, ↓revD, ↓b1D, ↓b2D, ↓isNoneD, ↓noRefR, ↓noRef, ↓noRefs, ite_self, ↓isTy, ↓List.getElem?_cons_zero, ↓List.getElem?_cons_succ, ↓List.getElem?_nil, ↓Option.join_some, ↓Option.join_none, ↓Option.isSome_some, ↓Option.isSome_none, ↓List.set_cons_zero, ↓List.set_cons_succ, ↓List.replicate, ↓List.length_cons, ↓List.length_nil, ↓List.isEmpty_cons, ↓List.isEmpty_nil, ↓List.all_cons, ↓List.all_nil, ↓List.filterMap_cons, ↓List.filterMap_nil, ↓List.contains_cons, ↓List.contains_nil, ↓Bool.and_true, ↓Bool.true_and, ↓Bool.and_false, ↓Bool.false_and, ↓Bool.not_true, ↓Bool.not_false, ↓if_true, ↓sh_int, ↓sh_bool, ↓sh_none, ↓eqv_ii, ↓eqv_bb, ↓eqv_ss, ↓brn_true, ↓brn_false, brn_true, brn_false, ↓List.any_cons, ↓List.any_nil, ↓if_false, ↓ite_true, ↓ite_false, ↓true_and, ↓and_true, ↓Bool.false_eq_true, ↓reduceCtorEq, ↓decide_true, ↓decide_false, ↓List.map_cons, ↓List.map_nil, ↓Tg.slots, ↓List.nodup_cons, ↓List.nodup_nil, ↓List.not_mem_nil, ↓not_false_eq_true, ↓forall_const, ↓true_implies, ↓bI, Nat.reduceAdd, Nat.reduceSub, Nat.reduceEqDiff, Int.reduceLT, Int.reduceLE, Nat.reduceLT, Nat.reduceLeDiff, Int.reduceNeg, Nat.reduceBEq, ↓BEq.rfl, ↓beq_self_eq_true, ↓Bool.or_false, ↓Bool.or_true])
theorem sel_ro {g : List Int} {ps : List (List Int)} {t : List Int} : Sel g ps t ↔ Ro g ps [] t :=
  ⟨fun h => ⟨h.len, h.ok, by rw [List.nil_append]; exact h.nd⟩, fun h => ⟨h.len, h.ok, by have := h.nd; rwa [List.nil_append] at this⟩⟩
def someSp : Spec := fun ds Q => ∃ t pen, ∃ n rare : Nat, ds = [pen, .int n, .int rare] ∧ Pen t pen ∧ t < 800000 ∧ n ≤ 20 ∧ 0 < rare ∧ rare ≤ 100 ∧ ∀ g pen', asc n g → Pen (t + n) pen' → Q (.val (intsD g)) [pen']
theorem law_some_ok (Φ : Tbl) (h : Φ "_law_take" = takeSp) : Impl Φ [true, false, false] 4 f_law_some someSp := by
  rintro ds Q ⟨t, pen, n, rare, rfl, hp, ht, hn, r1, r2, k⟩ _
  unfold f_law_some
  walk_at "wps"
  refine ⟨by omega, by omega, by rw [rangeL_length]; show n < 16777216; omega, lc_inv (fun j acc e => ∃ (l : List Int) (pen' : PyData) (y : Option Sl), acc = l.map .int ∧ e = [some (.io pen'), some (.val (.int n)), some (.val (.int rare)), y] ∧
      l.Pairwise (· < ·) ∧ (∀ x ∈ l, 0 ≤ x ∧ x < j) ∧ j ≤ n ∧ Pen (t + j) pen') ⟨[], pen, none, rfl, rfl, .nil, by simp, Nat.zero_le _, hp⟩ ?_ ?_⟩
  · rintro j x acc e N2 hx2 ⟨l, pen3, y, rfl, rfl, hlp, hlx, hjn, hpen3⟩ next2
    obtain ⟨rfl, hj⟩ := range_some hx2
    rw [Int.toNat_natCast] at hj
    unfold f_law_some_c1 f_law_some_e1
    walk_at "wps"
    refine ⟨_, rfl, ?_⟩
    rw [h]
    refine ⟨_, pen3, _, rfl, hpen3, by omega, by omega, by omega, fun r3 pen4 a3 b3 c3 _ => ?_⟩
    walk_at "wps"
    split
    · refine next2 _ _ ⟨l ++ [(j : Int)], pen4, _, by simp, rfl, ?_, ?_, by omega, c3⟩
      · rw [List.pairwise_append]
        exact ⟨hlp, List.pairwise_singleton _ _, fun x hx y hy => by
          rw [List.mem_singleton] at hy
          subst hy
          exact (hlx x hx).2⟩
      · intro x hx
        rcases List.mem_append.mp hx with hx | hx
        · have := hlx x hx; omega
        · rw [List.mem_singleton] at hx
          subst hx
          omega
    · refine next2 _ _ ⟨l, pen4, _, rfl, rfl, hlp, fun x hx => ?_, by omega, c3⟩
      have := hlx x hx; omega
  · rintro acc e ⟨l, pen3, y, rfl, rfl, hlp, hlx, hjn, hpen3⟩
    rw [rangeL_length, Int.toNat_natCast] at hlx hpen3
    walk_at "wps"
    exact k l pen3 ⟨hlp, hlx⟩ hpen3
def drawBSp : Spec := fun ds Q => ∃ t pen, ∃ most jobs : Nat, ds = [pen, .int most, .int jobs] ∧ Pen t pen ∧ t < 700000 ∧ 0 < most ∧ most ≤ 20 ∧ jobs ≤ 10 ∧
  ∀ n ps pen', 0 < n → n ≤ most → ps.length ≤ jobs → (∀ l ∈ ps, asc n l) → Pen (t + 300) pen' → Q (.val (houseD n ps)) [pen']
theorem draw_houseB_ok (Φ : Tbl) (h : Φ "_law_take" = takeSp) (h1 : Φ "_law_one_of" = oneOfSp) (h2 : Φ "_law_some" = someSp) : Impl Φ [true, false, false] 6 f_law_draw_house drawBSp := by
  rintro ds Q ⟨t, pen, most, jobs, rfl, hp, ht, m0, m1, j1, k⟩ _
  unfold f_law_draw_house
  walk_at "wps"
  refine ⟨_, rfl, ?_⟩
  rw [h]
  refine ⟨t, pen, _, rfl, hp, by omega, by omega, by omega, fun r pen1 a1 a2 c1 _ => ?_⟩
  obtain ⟨n, hn⟩ : ∃ n : Nat, 1 + r = (n : Int) := ⟨(1 + r).toNat, by omega⟩
  walk_at "wps"
  rw [hn]
  refine ⟨_, rfl, ?_⟩
  rw [h]
  refine ⟨_, pen1, _, rfl, c1, by omega, by omega, by omega, fun r2 pen2 b1 b2 c2 _ => ?_⟩
  walk_at "wps"
  refine ⟨by omega, by omega, for_inv (fun i e => ∃ (ps : List (List Int)) (pen' : PyData) (y : Option Sl), e = [some (.io pen'), some (.val (.int most)), some (.val (.int jobs)), y, some (.val (.int n)), some (.own (.list (ps.map intsD)))] ∧ ps.length = i ∧ (∀ l ∈ ps, asc n l) ∧ i ≤ jobs ∧ Pen (t + 2 + i * 21) pen')
    ⟨[], pen2, _, rfl, rfl, by simp, Nat.zero_le _, c2⟩ ?_ ?_⟩
  · rintro i x e N hx ⟨ps, pen', y, rfl, hl, hasc, hij, hpen⟩ next
    obtain ⟨rfl, hi⟩ := range_some hx
    unfold f_law_draw_house_b1
    walk_at "wps"
    refine ⟨_, rfl, ?_⟩
    rw [h1]
    refine ⟨_, pen', _, rfl, hpen, by omega, _, rfl, by decide, by decide, fun x pen3 hx c3 _ => ?_⟩
    obtain ⟨rare, r1, r2, rfl⟩ : ∃ rare : Nat, 0 < rare ∧ rare ≤ 100 ∧ x = .int rare := by
      simp only [List.mem_cons, List.not_mem_nil, or_false] at hx
      rcases hx with rfl | rfl | rfl | rfl | rfl
      · exact ⟨1, by omega, by omega, rfl⟩
      · exact ⟨2, by omega, by omega, rfl⟩
      · exact ⟨2, by omega, by omega, rfl⟩
      · exact ⟨2, by omega, by omega, rfl⟩
      · exact ⟨3, by omega, by omega, rfl⟩
    walk_at "wps"
    refine ⟨_, rfl, ?_⟩
    rw [h2]
    refine ⟨_, pen3, n, rare, rfl, c3, by omega, by omega, r1, r2, fun g pen4 hg c4 _ => ?_⟩
    walk_at "wps"
    refine ⟨by rw [List.length_map]; show _ < 16777216; omega, next _ ⟨ps ++ [g], pen4, _, by rw [List.map_append]; rfl, by simp [hl], fun l hm => ?_, by omega, c4.mono (by omega)⟩⟩
    rcases List.mem_append.mp hm with hm | hm
    · exact hasc l hm
    · rw [List.mem_singleton] at hm
      subst hm; exact hg
  · rintro e ⟨ps, pen', y, rfl, hl, hasc, hij, hpen⟩
    rw [rangeL_length] at *
    walk_at "wps"
    exact k n ps pen' (by omega) (by omega) (by omega) hasc (hpen.mono (by omega))

def keptSp : Spec := fun ds Q => ∃ t pen, ∃ most jobs : Nat, ds = [pen, .int most, .int jobs] ∧ Pen t pen ∧ t < 700000 ∧ 0 < most ∧ most ≤ 10 ∧ jobs ≤ 6 ∧
  ∀ n ps g pen', 0 < n → n ≤ max most jobs → ps.length ≤ jobs → (∀ l ∈ ps, asc n l) → asc n g → (∃ τ, Ro g ps [] τ) → Pen (t + 400) pen' → Q (.val (.tuple [houseD n ps, intsD g])) [pen']
theorem draw_kept_ok (Φ : Tbl) (h : Φ "_law_draw_house" = drawBSp) (h1 : Φ "_law_some" = someSp) (h2 : Φ "_law_fit" = fitSp) : Impl Φ [true, false, false] 9 f_law_draw_kept keptSp := by
  rintro ds Q ⟨t, pen, most, jobs, rfl, hp, ht, m0, m1, j1, k⟩ _
  unfold f_law_draw_kept
  walk_at "wps"
  refine ⟨_, rfl, ?_⟩
  rw [h]
  refine ⟨t, pen, most, jobs, rfl, hp, by omega, m0, by omega, by omega, fun n ps pen1 n0 n1 p1 hasc c1 _ => ?_⟩
  have hh : houseD n ps = .tuple [.int n, .tuple (ps.map intsD)] := rfl
  have h10 : ∀ l ∈ ps, l.length ≤ 10 := fun l hl => Nat.le_trans (asc_len (hasc l hl)) (by omega)
  walk_at "wps"
  rw [hh]
  refine stp_nT (n := 0) rfl ?_
  walk_at "wps"
  refine ⟨_, rfl, ?_⟩
  rw [h1]
  refine ⟨_, pen1, n, 5, rfl, c1, by omega, by omega, by decide, by decide, fun g pen2 hg c2 _ => ?_⟩
  walk_at "wps"
  refine ⟨_, rfl, ?_⟩
  rw [h2]
  refine ⟨n, ps, g, rfl, by omega, h10, fun b hb _ => ?_⟩
  cases b with
  | true =>
    obtain ⟨τ, hτ⟩ := hb.mp rfl
    walk_at "wps"
    exact k n ps g pen2 n0 (by omega) p1 hasc hg ⟨τ, sel_ro.mp hτ⟩ (c2.mono (by omega))
  | false =>
    walk_at "wps"
    refine stp_nT (n := 0) rfl ?_
    walk_at "wps"
    refine stp_nT (n := 1) rfl ?_
    walk_at "wps"
    refine stp_nT (n := 1) rfl ?_
    walk_at "wps"
    rw [List.length_map]
    obtain ⟨N, hN⟩ : ∃ N : Nat, N = max n ps.length := ⟨_, rfl⟩
    have hN2 : max (n : Int) (ps.length : Int) = (N : Int) := by omega
    rw [hN2]
    refine for_inv (fun i e => ∃ (ps' : List (List Int)) (y7 y8 : Option Sl), e = [some (.io pen2), some (.val (.int most)), some (.val (.int jobs)), some (.val (.tuple [.int n, .tuple (ps.map intsD)])), some (.val (intsD g)), some (.val (.int N)), some (.own (.list (ps'.map intsD))), y7, y8] ∧
        ps'.length = i ∧ i ≤ ps.length ∧ (∀ l ∈ ps', asc N l) ∧ ∀ j : Nat, j < ps'.length → (j : Int) ∈ ps'.getD j []) ⟨[], _, _, rfl, rfl, Nat.zero_le _, by simp, by simp⟩ ?_ ?_
    · rintro i x e N' hx ⟨ps', y7, y8, rfl, hl, hil, ha, hc⟩ next
      obtain ⟨d, rfl, hd⟩ := enum_some hx
      obtain ⟨l, rfl, hl2⟩ := map_some hd
      have hi := (List.getElem?_eq_some_iff.mp hl2).1
      have hla := hasc l (List.mem_of_getElem? hl2)
      have hll := h10 l (List.mem_of_getElem? hl2)
      unfold f_law_draw_kept_b1
      simp only [intsD]
      walk_at "wps"
      have e1 : List.map PyData.int l ++ [PyData.int (i : Int)] = (l ++ [(i : Int)]).map .int := by rw [List.map_append]; rfl
      rw [e1]
      refine ⟨by rw [List.length_map]; show _ ≤ 16777216; omega, _, intsOf_map' _, by simp; omega, fun ms hms hmem => ?_⟩
      refine ⟨by rw [List.length_map]; show _ < 16777216; omega, next _ ⟨ps' ++ [ms], _, _, by rw [List.map_append]; rfl, by simp [hl], by omega, fun l' hl' => ?_, fun j hj => ?_⟩⟩
      · rcases List.mem_append.mp hl' with hl' | hl'
        · exact ha l' hl'
        · rw [List.mem_singleton] at hl'
          subst hl'
          refine ⟨hms, fun x hx => ?_⟩
          rcases List.mem_append.mp ((hmem x).mp hx) with hx | hx
          · have := hla.2 x hx; omega
          · rw [List.mem_singleton] at hx
            omega
      · rw [List.getD_eq_getElem?_getD]
        rw [List.length_append, List.length_singleton] at hj
        by_cases hj2 : j < ps'.length
        · rw [List.getElem?_append_left hj2, ← List.getD_eq_getElem?_getD]
          exact hc j hj2
        · have e : j = ps'.length := by omega
          subst e
          rw [List.getElem?_append_right (Nat.le_refl _), Nat.sub_self]
          show _ ∈ ms
          rw [hmem, hl]
          exact List.mem_append_right _ (List.mem_singleton.mpr rfl)
    · rintro e ⟨ps', y7, y8, rfl, hl, hil, ha, hc⟩
      have hl' : ps'.length = ps.length := by rw [hl]; simp [enumL, pairs2, rangeL_length]
      walk_at "wps"
      refine k N ps' [] pen2 (by omega) (by omega) (by omega) ha ⟨.nil, by simp⟩ ⟨rng ps'.length, ⟨by rw [rng_len], fun i x hx => ?_, ?_⟩⟩ (c2.mono (by omega))
      · unfold rng at hx
        rw [List.getElem?_map] at hx
        by_cases hi : i < ps'.length
        · rw [List.getElem?_range hi] at hx
          have : x = (i : Int) := by simpa using hx.symm
          subst this
          exact ⟨hc i hi, by simp⟩
        · rw [List.getElem?_eq_none (by simpa using hi)] at hx
          cases hx
      · rw [List.nil_append]
        exact (rng_asc _).1.imp fun {a b} h => by omega
end Co

set_option linter.all false
namespace Co
open PySem
theorem wps_sq5 {Φ : Tbl} {a b c d e r : S} {env : Env} {D : Ends} (I : Env → Prop) (h1 : ∀ N : Env → Prop, (∀ e, I e → N e) → wpS Φ (.seq a (.seq b (.seq c (.seq d e)))) env { D with nx := N }) (h2 : ∀ e, I e → wpS Φ r e D) : wpS Φ (.seq a (.seq b (.seq c (.seq d (.seq e r))))) env D :=
  h1 (fun e => wpS Φ r e D) h2
def oddLB : List PyData := [.none, .bool true, .bool false, .int 0, .int 1, .int (-1), .str (Str.ofString ""), .str (Str.ofString "a"), .tuple [], .list [], .dict [], .tuple [.int 0], .tuple [.int 0, .int 1], .tuple [.int 1, .int 0], .tuple [.int 0, .int 0], .tuple [.tuple [.int 0]], .list [.int 0], .tuple [.bool true]] ++ [.tuple [.int 0, .none], .int (10 ^ Int.toNat 20)]
theorem oddB_all : (oddLB.all fun x => gd B30 2 2 x && decide (x.bulk ≤ 2)) = true := by decide +kernel
end Co

set_option linter.all false
namespace Co
open PySem
/-! ### the second family's sets, takers, rising tuples -/
def allS (m : Nat) : List (List Int) := srt (subs m)
def setsBSp : Spec := fun ds Q => ∃ m : Nat, ds = [.int m] ∧ m ≤ 10 ∧ Q (.own (.list ((allS m).map intsD))) []
theorem allS_mem {m : Nat} {s : List Int} : s ∈ allS m ↔ s ∈ subs m := (srt_perm _).mem_iff
/-- the empty one stands first -/
theorem allS_cons (m : Nat) : (allS m).filter (fun s => !decide (s = [])) = setL m := by
  refine srt_uniq ?_ ((srt_pw _).filter _)
  refine ((srt_perm _).filter _).trans ?_
  rw [subs_cons m, List.filter_cons]
  simp only [decide_true, Bool.not_true, Bool.false_eq_true, if_false]
  rw [List.filter_eq_self.mpr fun s hs => ?_]
  · rw [← subs_cons m]
  · have := subs_drop2 hs
    simp [this]
end Co

set_option linter.all false
namespace Co
open PySem
/-! ### who can be away: the plain law -/
theorem ro_anti {g g' : List Int} {ps : List (List Int)} {f t : List Int} (h : ∀ x ∈ g, x ∈ g') (r : Ro g' ps f t) : Ro g ps f t :=
  ⟨r.len, fun i x e => ⟨(r.ok i x e).1, fun m => (r.ok i x e).2 (h x m)⟩, r.nd⟩
theorem tkL_congr {n : Nat} {ps : List (List Int)} {g g' S : List Int} (h : ∀ x, x ∈ g ↔ x ∈ g') : tkL n ps g S = tkL n ps g' S := by
  unfold tkL
  refine List.filter_congr fun x _ => ?_
  congr 2
  rw [Bool.eq_iff_iff, List.contains_iff_mem, List.contains_iff_mem]
  exact h x
theorem filter_split {α : Type} (p : α → Bool) (l : List α) : (l.filter p).length + (l.filter fun x => !p x).length = l.length := by
  induction l with
  | nil => rfl
  | cons x l ih =>
    rw [List.filter_cons, List.filter_cons]
    cases p x <;> simp <;> omega
theorem in_len {s B : List Int} (hs : s.Nodup) (hB : B.Nodup) (h : ∀ x ∈ B, x ∈ s) : (s.filter fun x => !B.contains x).length + B.length = s.length := by
  have h1 := filter_split (fun x => B.contains x) s
  have h2 : (s.filter fun x => B.contains x).length = B.length := by
    refine List.Perm.length_eq ((List.perm_ext_iff_of_nodup (hs.sublist List.filter_sublist) hB).mpr fun x => ?_)
    rw [List.mem_filter, List.contains_iff_mem]
    exact ⟨fun q => q.2, fun q => ⟨h x q, q⟩⟩
  omega
def lim (n : Nat) (ps : List (List Int)) (g s S : List Int) : Int := (s.length : Nat) + ((tkL n ps (g ++ s) S).length : Nat) - (S.length : Nat)
theorem away_le {n : Nat} {ps : List (List Int)} {g s B S : List Int} (hasc : ∀ l ∈ ps, asc n l) (hs : s.Nodup) (hB : B.Nodup) (hBs : ∀ x ∈ B, x ∈ s) (hr : ∃ t, Ro (g ++ B) ps [] t) (hS : S ∈ subs ps.length) : (B.length : Int) ≤ lim n ps g s S := by
  obtain ⟨t, hr⟩ := hr
  obtain ⟨a, b, c⟩ := subs_mem hS
  have h1 := hall_easy hasc hr (a.imp fun h => by omega) b
  have h2 := gone_len (n := n) (ps := ps) (g := g ++ B) (a := s.filter fun x => !B.contains x) (S := S)
  have h3 : tkL n ps (g ++ B ++ s.filter fun x => !B.contains x) S = tkL n ps (g ++ s) S := tkL_congr fun x => by
    simp only [List.mem_append, List.mem_filter, Bool.not_eq_true', ← Bool.not_eq_true, List.contains_iff_mem]
    constructor
    · rintro ((h | h) | h)
      · exact .inl h
      · exact .inr (hBs x h)
      · exact .inr h.1
    · rintro (h | h)
      · exact .inl (.inl h)
      · by_cases hb : x ∈ B
        · exact .inl (.inr hb)
        · exact .inr ⟨h, hb⟩
  rw [h3] at h2
  have h4 := in_len hs hB hBs
  unfold spareV at h1
  unfold lim
  omega
theorem cn_mono {α : Type} {p q : α → Bool} (h : ∀ x, p x = true → q x = true) (l : List α) : cn p l ≤ cn q l := by
  have := cn_sub (fun x => q x) (fun _ => false) p (fun _ => false) (fun x => by
    cases hp : p x
    · simp
    · rw [h x hp]; simp) l
  simpa [cn] using this
/-- posts and takers, counted by a mark -/
theorem tk_nb {n : Nat} {ps : List (List Int)} {g : List Int} (w : Nat → Bool) : (tkL n ps g ((rng ps.length).filter fun i => w i.toNat)).length = cn (nb ps ps.length g w) (rng n) := by
  unfold tkL
  refine cn_eq fun x _ => ?_
  unfold nb canB
  congr 1
  rw [Bool.eq_iff_iff, List.any_eq_true, List.any_eq_true]
  constructor
  · rintro ⟨i, hi, hc⟩
    obtain ⟨a, b⟩ := List.mem_filter.mp hi
    have := rng_mem.mp a
    exact ⟨i.toNat, List.mem_range.mpr (by omega), by rw [b, hc]; rfl⟩
  · rintro ⟨i, hi, hc⟩
    rw [Bool.and_eq_true] at hc
    have := List.mem_range.mp hi
    exact ⟨(i : Int), List.mem_filter.mpr ⟨rng_mem.mpr (by omega), by rw [Int.toNat_natCast]; exact hc.1⟩, by rw [Int.toNat_natCast]; exact hc.2⟩
theorem w_len {m : Nat} (w : Nat → Bool) : ((rng m).filter fun i => w i.toNat).length = cn w (List.range m) := by
  unfold cn
  have e : rng m = (List.range m).map fun i => ((i : Nat) : Int) := rfl
  rw [e, List.filter_map, List.length_map]
  rfl
theorem w_subs {m : Nat} (w : Nat → Bool) : ((rng m).filter fun i => w i.toNat) ∈ subs m :=
  subs_all ((rng_asc _).1.filter _) fun x hx => rng_mem.mp (List.mem_filter.mp hx).1
/-- marks of a set -/
def mk (S : List Int) : Nat → Bool := fun i => S.contains (i : Int)
theorem mk_set {m : Nat} {S : List Int} (hS : S ∈ subs m) : ((rng m).filter fun i => mk S i.toNat) = S := by
  obtain ⟨a, b, _⟩ := subs_mem hS
  refine sorted_uniq ((rng_asc _).1.filter _) a fun x => ?_
  rw [List.mem_filter, rng_mem]
  unfold mk
  rw [List.contains_iff_mem]
  constructor
  · rintro ⟨h, q⟩
    rwa [Int.toNat_of_nonneg h.1] at q
  · intro q
    have := b x q
    exact ⟨this, by rw [Int.toNat_of_nonneg this.1]; exact q⟩
theorem tight_or {n : Nat} {ps : List (List Int)} {G : List Int} (hall : ∀ w : Nat → Bool, cn w (List.range ps.length) ≤ cn (nb ps ps.length G w) (rng n)) {w1 w2 : Nat → Bool}
    (h1 : cn (nb ps ps.length G w1) (rng n) ≤ cn w1 (List.range ps.length)) (h2 : cn (nb ps ps.length G w2) (rng n) ≤ cn w2 (List.range ps.length)) :
    cn (nb ps ps.length G fun i => w1 i || w2 i) (rng n) ≤ cn (fun i => w1 i || w2 i) (List.range ps.length) := by
  have h3 := hall fun i => w1 i && w2 i
  have h4 := cn_sub (fun i => w1 i || w2 i) (fun i => w1 i && w2 i) w1 w2 (fun i => by cases w1 i <;> cases w2 i <;> simp) (List.range ps.length)
  have h5 := cn_sub (nb ps ps.length G w1) (nb ps ps.length G w2) (nb ps ps.length G fun i => w1 i || w2 i) (nb ps ps.length G fun i => w1 i && w2 i) (fun x => by
    have e1 : nb ps ps.length G (fun i => w1 i || w2 i) x = (nb ps ps.length G w1 x || nb ps ps.length G w2 x) := by
      unfold nb
      rw [← Bool.and_or_distrib_left]
      congr 1
      rw [Bool.eq_iff_iff, Bool.or_eq_true, List.any_eq_true, List.any_eq_true, List.any_eq_true]
      constructor
      · rintro ⟨i, hi, q⟩
        rw [Bool.and_eq_true, Bool.or_eq_true] at q
        rcases q with ⟨q | q, c⟩
        · exact .inl ⟨i, hi, by rw [q, c]; rfl⟩
        · exact .inr ⟨i, hi, by rw [q, c]; rfl⟩
      · rintro (⟨i, hi, q⟩ | ⟨i, hi, q⟩)
        · rw [Bool.and_eq_true] at q
          exact ⟨i, hi, by simp [q.1]; simpa using q.2⟩
        · rw [Bool.and_eq_true] at q
          exact ⟨i, hi, by simp [q.1]; simpa using q.2⟩
    have e2 : nb ps ps.length G (fun i => w1 i && w2 i) x = true → nb ps ps.length G w1 x = true ∧ nb ps ps.length G w2 x = true := by
      unfold nb
      rw [Bool.and_eq_true, Bool.and_eq_true, Bool.and_eq_true, List.any_eq_true, List.any_eq_true, List.any_eq_true]
      rintro ⟨hg, i, hi, q⟩
      rw [Bool.and_eq_true, Bool.and_eq_true] at q
      exact ⟨⟨hg, i, hi, by rw [q.1.1, q.2]; rfl⟩, hg, i, hi, by rw [q.1.2, q.2]; rfl⟩
    rw [e1]
    cases h : nb ps ps.length G (fun i => w1 i && w2 i) x
    · cases nb ps ps.length G w1 x <;> cases nb ps ps.length G w2 x <;> simp
    · rw [(e2 h).1, (e2 h).2]; simp) (rng n)
  omega
theorem hall_w {n : Nat} {ps : List (List Int)} {G : List Int} (hasc : ∀ l ∈ ps, asc n l) (hr : ∃ t, Ro G ps [] t) (w : Nat → Bool) : cn w (List.range ps.length) ≤ cn (nb ps ps.length G w) (rng n) := by
  obtain ⟨t, hr⟩ := hr
  obtain ⟨a, b, c⟩ := subs_mem (w_subs (m := ps.length) w)
  have := hall_easy hasc hr (a.imp fun h => by omega) b
  unfold spareV at this
  rw [tk_nb, w_len] at this
  omega
/-- nobody more: posts that take all the others -/
theorem tight_all {n : Nat} {ps : List (List Int)} {G : List Int} (hasc : ∀ l ∈ ps, asc n l) (hr : ∃ t, Ro G ps [] t) : ∀ xs : List Int, (∀ x ∈ xs, ¬ ∃ t, Ro (G ++ [x]) ps [] t) →
    ∃ w : Nat → Bool, cn (nb ps ps.length G w) (rng n) ≤ cn w (List.range ps.length) ∧ ∀ x ∈ xs, nb ps ps.length G w x = true ∧ 0 ≤ x ∧ x < n
  | [], _ => ⟨fun _ => false, by
      have : ∀ l : List Int, cn (nb ps ps.length G fun _ => false) l = 0 := fun l => by
        unfold cn
        rw [List.length_eq_zero_iff, List.filter_eq_nil_iff]
        intro x _
        unfold nb
        simp
      rw [this]; exact Nat.zero_le _, by simp⟩
  | x :: xs, h => by
    obtain ⟨w1, a1, b1⟩ := tight_all hasc hr xs fun y hy => h y (List.mem_cons_of_mem _ hy)
    have hx := h x List.mem_cons_self
    obtain ⟨S, hS, hneg⟩ : ∃ S ∈ (subs ps.length).drop 1, ¬ 0 ≤ spareV n ps (G ++ [x]) S := by
      apply Classical.byContradiction
      intro hno
      exact hx (hall hasc fun S hS => Classical.byContradiction fun q => hno ⟨S, hS, q⟩)
    have hSs := List.mem_of_mem_drop hS
    have e1 := mk_set hSs
    have h0 := hall_w hasc hr (mk S)
    have t1 := tk_nb (n := n) (ps := ps) (g := G) (mk S)
    have t2 := tk_nb (n := n) (ps := ps) (g := G ++ [x]) (mk S)
    have l1 := w_len (m := ps.length) (mk S)
    rw [e1] at t1 t2 l1
    have hgl := gone_len (n := n) (ps := ps) (g := G) (a := [x]) (S := S)
    have hl1 : [x].length = 1 := rfl
    unfold spareV at hneg
    have hxm : x ∈ tkL n ps G S := by
      apply Classical.byContradiction
      intro hxm
      have : tkL n ps (G ++ [x]) S = tkL n ps G S := by
        unfold tkL at hxm ⊢
        refine List.filter_congr fun y hy => ?_
        by_cases e : y = x
        · subst e
          rw [List.mem_filter] at hxm
          have : ¬ (!G.contains y && S.any (canB ps y)) = true := fun q => hxm ⟨hy, q⟩
          have h2 : (!G.contains y && S.any (canB ps y)) = false := by simpa using this
          rw [h2]
          simp
        · congr 2
          rw [Bool.eq_iff_iff, List.contains_iff_mem, List.contains_iff_mem, List.mem_append, List.mem_singleton]
          exact ⟨fun q => q.resolve_right e, .inl⟩
      rw [this] at hneg
      omega
    have hxn := tkL_mem.mp hxm
    have hxw : nb ps ps.length G (mk S) x = true := by
      unfold nb
      rw [Bool.and_eq_true, List.any_eq_true]
      refine ⟨by simpa using hxn.2.1, ?_⟩
      obtain ⟨i, hi, hc⟩ := List.any_eq_true.mp hxn.2.2
      have hb := (subs_mem hSs).2.1 i hi
      refine ⟨i.toNat, List.mem_range.mpr (by omega), ?_⟩
      unfold mk
      rw [Bool.and_eq_true, List.contains_iff_mem, Int.toNat_of_nonneg hb.1]
      exact ⟨hi, hc⟩
    refine ⟨fun i => w1 i || mk S i, tight_or (hall_w hasc hr) a1 (by omega), fun y hy => ?_⟩
    have orl : ∀ {y : Int} {u v : Nat → Bool}, nb ps ps.length G u y = true → (∀ i, u i = true → v i = true) → nb ps ps.length G v y = true := fun {y u v} q huv => by
      unfold nb at q ⊢
      rw [Bool.and_eq_true, List.any_eq_true] at q ⊢
      obtain ⟨q1, i, hi, q2⟩ := q
      rw [Bool.and_eq_true] at q2
      exact ⟨q1, i, hi, by rw [huv i q2.1, q2.2]; rfl⟩
    rcases List.mem_cons.mp hy with rfl | hy
    · exact ⟨orl hxw fun i q => by rw [q]; simp, hxn.1⟩
    · exact ⟨orl (b1 y hy).1 fun i q => by rw [q]; simp, (b1 y hy).2⟩
/-- a greatest away set has as many people as some posts' limit -/
theorem away_eq {n : Nat} {ps : List (List Int)} {g s A : List Int} (hasc : ∀ l ∈ ps, asc n l) (hs : s.Nodup) (hA : A.Nodup) (hAs : ∀ x ∈ A, x ∈ s) (hr : ∃ t, Ro (g ++ A) ps [] t) (hmax : ∀ x ∈ s, x ∉ A → ¬ ∃ t, Ro (g ++ A ++ [x]) ps [] t) :
    ∃ S ∈ subs ps.length, lim n ps g s S = (A.length : Int) := by
  have hm : ∀ x, x ∈ (s.filter fun x => !A.contains x) ↔ x ∈ s ∧ x ∉ A := fun x => by
    rw [List.mem_filter, Bool.not_eq_true', ← Bool.not_eq_true, List.contains_iff_mem]
  obtain ⟨w, a, b⟩ := tight_all hasc hr (s.filter fun x => !A.contains x) fun x hx => hmax x ((hm x).mp hx).1 ((hm x).mp hx).2
  refine ⟨_, w_subs w, ?_⟩
  have h0 := hall_w hasc hr w
  unfold lim
  rw [tk_nb, w_len]
  have h4 := in_len hs hA hAs
  have hnd : (s.filter fun x => !A.contains x).Nodup := hs.sublist List.filter_sublist
  have h5 : cn (nb ps ps.length (g ++ s) w) (rng n) + (s.filter fun x => !A.contains x).length = cn (nb ps ps.length (g ++ A) w) (rng n) := by
    have q1 := filter_split (fun x => !(s.filter fun x => !A.contains x).contains x) ((rng n).filter (nb ps ps.length (g ++ A) w))
    rw [List.filter_filter, List.filter_filter] at q1
    have q2 : ((rng n).filter fun x => (!(s.filter fun x => !A.contains x).contains x) && nb ps ps.length (g ++ A) w x).length = cn (nb ps ps.length (g ++ s) w) (rng n) := by
      unfold cn
      congr 1
      refine List.filter_congr fun x _ => ?_
      unfold nb
      rw [← Bool.and_assoc]
      congr 1
      rw [Bool.eq_iff_iff, Bool.and_eq_true, Bool.not_eq_true', Bool.not_eq_true', Bool.not_eq_true', ← Bool.not_eq_true, ← Bool.not_eq_true, ← Bool.not_eq_true, List.contains_iff_mem, List.contains_iff_mem, List.contains_iff_mem, hm, List.mem_append, List.mem_append]
      constructor
      · rintro ⟨h1, h2⟩ (h3 | h3)
        · exact h2 (.inl h3)
        · exact h1 ⟨h3, fun h4 => h2 (.inr h4)⟩
      · intro h1
        exact ⟨fun h2 => h1 (.inr h2.1), fun h2 => h1 (h2.imp id (hAs x))⟩
    have q3 : ((rng n).filter fun x => (!(!(s.filter fun x => !A.contains x).contains x)) && nb ps ps.length (g ++ A) w x).length = (s.filter fun x => !A.contains x).length := by
      refine List.Perm.length_eq ((List.perm_ext_iff_of_nodup ((rng_nodup n).sublist List.filter_sublist) hnd).mpr fun x => ?_)
      rw [List.mem_filter, Bool.not_not, Bool.and_eq_true, List.contains_iff_mem]
      constructor
      · exact fun q => q.2.1
      · intro q
        exact ⟨rng_mem.mpr (b x q).2, q, (b x q).1⟩
    rw [q2, q3] at q1
    exact q1
  omega
end Co

set_option linter.all false
namespace Co
open PySem
theorem nrI (l : List Int) : noRefR (.val (intsD l)) = true := noRef_intsD l
/-! ### the program's functions about away sets -/
def joinedSp : Spec := fun ds Q => ∃ a b, ds = [intsD a, intsD b] ∧ a.length ≤ 1000 ∧ b.length ≤ 1000 ∧ Q (.val (intsD (fsort (a ++ b)))) []
theorem fsort_mem {l : List Int} {x : Int} : x ∈ fsort l ↔ x ∈ l := (fsort_perm l).mem_iff
def awayP (ps : List (List Int)) (g s : List Int) : Prop := ∃ t, Ro (g ++ s) ps [] t
def awaySp : Spec := fun ds Q => ∃ n ps g s, ds = [houseD n ps, intsD g, intsD s] ∧ n ≤ 20 ∧ ps.length ≤ 20 ∧ (∀ l ∈ ps, asc n l) ∧ g.length ≤ 500 ∧ s.length ≤ 500 ∧ ∀ b : Bool, (b = true ↔ awayP ps g s) → Q (.val (.bool b)) []
theorem ro_fsort {g ps} {t : List Int} : (Ro (fsort g) ps [] t ↔ Ro g ps [] t) := ⟨fun r => ro_anti (fun x hx => fsort_mem.mpr hx) r, fun r => ro_anti (fun x hx => fsort_mem.mp hx) r⟩
/-- the greatest away set that is told -/
structure Am (ps : List (List Int)) (g s A : List Int) : Prop where
  sub : A.Sublist s
  aw : awayP ps g A
  mx : ∀ x ∈ s, x ∉ A → ¬ awayP ps g (A ++ [x])
def mostSp : Spec := fun ds Q => ∃ n ps g s, ds = [houseD n ps, intsD g, intsD s] ∧ n ≤ 20 ∧ ps.length ≤ 20 ∧ (∀ l ∈ ps, asc n l) ∧ g.length ≤ 400 ∧ s.length ≤ 100 ∧ (∃ t, Ro g ps [] t) ∧ ∀ A, Am ps g s A → Q (.val (intsD A)) []
def mostLSp : Spec := fun ds Q => ∃ n ps g s, ds = [houseD n ps, intsD g, intsD s] ∧ n ≤ 20 ∧ ps.length ≤ 20 ∧ (∀ l ∈ ps, asc n l) ∧ g.length ≤ 400 ∧ s.length ≤ 100 ∧ (∃ t, Ro g ps [] t) ∧ ∀ A, Am ps g s A → Q (.val (.int (A.length : Nat))) []
def limSp : Spec := fun ds Q => ∃ n ps g s S, ds = [houseD n ps, intsD g, intsD s, intsD S] ∧ n ≤ 20 ∧ ps.length ≤ 20 ∧ g.length ≤ 400 ∧ s.length ≤ 100 ∧ S.length ≤ 1000 ∧ (∀ p ∈ S, 0 ≤ p ∧ p < ps.length) ∧ Q (.val (.int (lim n ps g s S))) []
def findLimSp : Spec := fun ds Q => ∃ n ps g s, ds = [houseD n ps, intsD g, intsD s] ∧ n ≤ 20 ∧ ps.length ≤ 10 ∧ g.length ≤ 400 ∧ s.length ≤ 100 ∧ ∀ S, S ∈ subs ps.length → (∀ T ∈ subs ps.length, lim n ps g s S ≤ lim n ps g s T) → Q (.val (intsD S)) []
def limB (n : Nat) (ps : List (List Int)) (g s : List Int) (f : Int) (d : PyData) : Bool := ascB ps.length d && (match d with
  | .tuple l => (match intsOf l with
    | some ns => decide (lim n ps g s ns ≤ f)
    | none => false)
  | _ => false)
def isLimSp : Spec := fun ds Q => ∃ n ps g s d, ∃ f : Int, ds = [houseD n ps, intsD g, intsD s, .int f, d] ∧ n ≤ 20 ∧ ps.length ≤ 20 ∧ g.length ≤ 400 ∧ s.length ≤ 100 ∧ (∀ l, d = .tuple l → l.length ≤ 63) ∧ Q (.val (.bool (limB n ps g s f d))) []
end Co

set_option linter.all false
namespace Co
open PySem
/-! ### all parts, within -/
def prt (s : List Int) : Nat → List (List Int)
  | 0 => [[]]
  | i + 1 => prt s i ++ (prt s i).map (· ++ [s.getD i 0])
theorem prt_len (s : List Int) : ∀ i, (prt s i).length = 2 ^ i
  | 0 => rfl
  | i + 1 => by rw [prt, List.length_append, List.length_map, prt_len s i]; omega
theorem sub_snoc {l t : List Int} {x : Int} : t.Sublist (l ++ [x]) ↔ t.Sublist l ∨ ∃ t', t = t' ++ [x] ∧ t'.Sublist l := by
  rw [List.sublist_append_iff]
  constructor
  · rintro ⟨a, b, rfl, ha, hb⟩
    cases hb with
    | cons _ h => cases h; exact .inl (by rw [List.append_nil]; exact ha)
    | cons_cons _ h => cases h; exact .inr ⟨a, rfl, ha⟩
  · rintro (h | ⟨t', rfl, h⟩)
    · exact ⟨t, [], by simp, h, List.nil_sublist _⟩
    · exact ⟨t', [x], rfl, h, .refl _⟩
theorem prt_mem {s : List Int} : ∀ {i : Nat} {t : List Int}, i ≤ s.length → (t ∈ prt s i ↔ t.Sublist (s.take i))
  | 0, t, _ => by simp [prt]
  | i + 1, t, h => by
    have hi : s[i]? = some (s.getD i 0) := by rw [List.getD_eq_getElem?_getD, List.getElem?_eq_getElem (by omega)]; rfl
    rw [List.take_succ, hi, prt, List.mem_append, prt_mem (by omega)]
    show _ ↔ t.Sublist (s.take i ++ [s.getD i 0])
    rw [sub_snoc, List.mem_map]
    constructor
    · rintro (q | ⟨t', q, rfl⟩)
      · exact .inl q
      · exact .inr ⟨t', rfl, (prt_mem (by omega)).mp q⟩
    · rintro (q | ⟨t', rfl, q⟩)
      · exact .inl q
      · exact .inr ⟨t', (prt_mem (by omega)).mpr q, rfl⟩
def partsSp : Spec := fun ds Q => ∃ s, ds = [intsD s] ∧ s.length ≤ 10 ∧ ∀ ts : List (List Int), (∀ t, t ∈ ts ↔ t.Sublist s) → ts.length ≤ 20000 → Q (.own (.list (ts.map intsD))) []
def withinSp2 : Spec := fun ds Q => ∃ a b, ds = [intsD a, intsD b] ∧ a.length ≤ 1000 ∧ Q (.val (.bool (a.all fun x => b.contains x))) []
end Co

set_option linter.all false
namespace Co
open PySem
/-- a comprehension that filters, the names' slots as I allows -/
theorem lc_filterI {α : Type} (enc : α → PyData) {bind : PyData → Env → (Env → Prop) → Prop} {conds : Env → (Bool → Env → Prop) → Prop} {elt : Env → (PyData → Env → Prop) → Prop} {own : List Nat} {l : List α} {env : Env} {K : List PyData → Env → Prop} (I : Env → Prop) (p : α → Bool) (g : α → PyData)
    (h0 : I (wipeE env own)) (hs : ∀ x acc (N : List PyData → Env → Prop) e0, x ∈ l → I e0 → (∀ e, I (wipeE e own) → if p x = true then N (acc ++ [g x]) e else N acc e) → bind (enc x) e0 fun env1 => conds env1 fun b env2 =>
      if b = true then elt env2 fun y env3 => N (acc ++ [y]) env3 else N acc env2)
    (hd : ∀ e, I e → K ((l.filter p).map g) e) : lcGo bind conds elt own (l.map enc) [] env K := by
  refine lc_inv (fun i acc e => acc = ((l.take i).filter p).map g ∧ I (wipeE e own)) ⟨by simp, h0⟩ ?_ ?_
  · rintro i d acc e N hx ⟨ha, he⟩ k
    obtain ⟨x, rfl, hxl⟩ := map_some hx
    have ht : l.take (i + 1) = l.take i ++ [x] := by rw [List.take_succ, hxl]; rfl
    refine hs x acc N _ (List.mem_of_getElem? hxl) he fun e2 h2 => ?_
    by_cases hp : p x = true
    · rw [if_pos hp]
      exact k _ e2 ⟨by rw [ht, List.filter_append, List.map_append, ← ha]; simp [hp], h2⟩
    · rw [if_neg hp]
      exact k _ e2 ⟨by rw [ht, List.filter_append, List.map_append, ← ha]; simp [hp], h2⟩
  · rintro acc e ⟨ha, he⟩
    rw [ha, List.length_map, List.take_length]
    exact hd _ he
/-! ### tight sets -/
def tgt (n : Nat) (ps : List (List Int)) (g : List Int) : List (List Int) := (setL ps.length).filter fun s => decide (spareV n ps g s = 0)
theorem tgt_len (n : Nat) (ps : List (List Int)) (g : List Int) (h : ps.length ≤ 10) : (tgt n ps g).length ≤ 1023 := by
  have h2 : 2 ^ ps.length ≤ 2 ^ 10 := Nat.pow_le_pow_right (by decide) (by omega)
  refine Nat.le_trans (List.length_filter_le _ _) ?_
  rw [setL_len]; omega
theorem tgt_mem {n : Nat} {ps : List (List Int)} {g s : List Int} : s ∈ tgt n ps g ↔ s ∈ (subs ps.length).drop 1 ∧ spareV n ps g s = 0 := by
  unfold tgt
  rw [List.mem_filter, setL_mem, decide_eq_true_eq]
def tightSp : Spec := fun ds Q => ∃ n ps g, ds = [houseD n ps, intsD g] ∧ n ≤ 20 ∧ ps.length ≤ 10 ∧ Q (.own (.list ((tgt n ps g).map intsD))) []
def gtL (n : Nat) (ps : List (List Int)) (g : List Int) : List Int := (rng ps.length).filter fun p => (tgt n ps g).any fun s => s.contains p
theorem gtL_ok (n : Nat) (ps : List (List Int)) (g : List Int) : asc ps.length (gtL n ps g) := ⟨(rng_asc _).1.filter _, fun x hx => rng_mem.mp (List.mem_filter.mp hx).1⟩
def greatSp : Spec := fun ds Q => ∃ n ps g, ds = [houseD n ps, intsD g] ∧ n ≤ 20 ∧ ps.length ≤ 10 ∧ Q (.val (intsD (gtL n ps g))) []
def needSp : Spec := fun ds Q => ∃ n ps g, ds = [houseD n ps, intsD g] ∧ n ≤ 20 ∧ ps.length ≤ 10 ∧ Q (.own (.list ((tkL n ps g (gtL n ps g)).map .int))) []
def wthL (n : Nat) (ps : List (List Int)) (g : List Int) (p : Int) : List (List Int) := (tgt n ps g).filter fun s => s.contains p
def comL (ts : List (List Int)) (s : List Int) : List Int := s.filter fun o => ts.all fun t => t.contains o
def ltD (n : Nat) (ps : List (List Int)) (g : List Int) (p : Int) : PyData := match wthL n ps g p with
  | [] => .none
  | s :: r => intsD (comL (s :: r) s)
def leastTSp : Spec := fun ds Q => ∃ n ps g, ∃ p : Int, ds = [houseD n ps, intsD g, .int p] ∧ n ≤ 20 ∧ ps.length ≤ 10 ∧ Q (.val (ltD n ps g p)) []
def reaB (n : Nat) (ps : List (List Int)) (g : List Int) (p : Int) (d : PyData) : Bool := ascB ps.length d && (match d with
  | .tuple l => (match intsOf l with
    | some ns => !decide (ns = []) && (decide (spareV n ps g ns = 0) && (tkL n ps g ns).contains p)
    | none => false)
  | _ => false)
theorem reaB_asc {n : Nat} {ps : List (List Int)} {g ns : List Int} {p : Int} (h : ascB ps.length (.tuple (ns.map .int)) = true) : reaB n ps g p (.tuple (ns.map .int)) = (!decide (ns = []) && (decide (spareV n ps g ns = 0) && (tkL n ps g ns).contains p)) := by
  simp only [reaB, h, Bool.true_and, intsOf_map']
def isReaSp : Spec := fun ds Q => ∃ n ps g d, ∃ p : Int, ds = [houseD n ps, intsD g, .int p, d] ∧ n ≤ 20 ∧ ps.length ≤ 20 ∧ (∀ l, d = .tuple l → l.length ≤ 63) ∧ Q (.val (.bool (reaB n ps g p d))) []
/-- who is needed: whom some tight set takes -/
theorem needed_eq {n : Nat} {ps : List (List Int)} {g : List Int} (hasc : ∀ l ∈ ps, asc n l) (hr : ∃ t, Ro g ps [] t) {x : Int} (hx : 0 ≤ x ∧ x < n) (hg : x ∉ g) :
    x ∈ tkL n ps g (gtL n ps g) ↔ ¬ ∃ t, Ro (g ++ [x]) ps [] t := by
  obtain ⟨t0, hr⟩ := hr
  constructor
  · intro h
    obtain ⟨_, _, h2⟩ := tkL_mem.mp h
    obtain ⟨p, hp, hc⟩ := List.any_eq_true.mp h2
    obtain ⟨_, hp2⟩ := List.mem_filter.mp hp
    obtain ⟨S, hS, hpS⟩ := List.any_eq_true.mp hp2
    obtain ⟨hS1, hS0⟩ := tgt_mem.mp hS
    obtain ⟨a, b, c⟩ := subs_mem (List.mem_of_mem_drop hS1)
    rintro ⟨t, r⟩
    have h3 := hall_easy hasc r (a.imp fun h => by omega) b
    have hxS : x ∈ tkL n ps g S := tkL_mem.mpr ⟨hx, hg, List.any_eq_true.mpr ⟨p, List.contains_iff_mem.mp hpS, hc⟩⟩
    have h4 : (tkL n ps (g ++ [x]) S).length + 1 ≤ (tkL n ps g S).length := by
      have hnd : (x :: tkL n ps (g ++ [x]) S).Nodup := List.nodup_cons.mpr ⟨fun q => (tkL_mem.mp q).2.1 (List.mem_append_right _ (List.mem_singleton.mpr rfl)), tkL_nodup _ _ _ _⟩
      have := hnd.length_le_of_subset (l₂ := tkL n ps g S) fun y hy => by
        rcases List.mem_cons.mp hy with rfl | hy
        · exact hxS
        · obtain ⟨q1, q2, q3⟩ := tkL_mem.mp hy
          exact tkL_mem.mpr ⟨q1, fun q => q2 (List.mem_append_left _ q), q3⟩
      simpa using this
    unfold spareV at h3 hS0
    omega
  · intro h
    obtain ⟨S, hS, hneg⟩ : ∃ S ∈ (subs ps.length).drop 1, ¬ 0 ≤ spareV n ps (g ++ [x]) S := by
      apply Classical.byContradiction
      intro hno
      exact h (hall hasc fun S hS => Classical.byContradiction fun q => hno ⟨S, hS, q⟩)
    obtain ⟨a, b, c⟩ := subs_mem (List.mem_of_mem_drop hS)
    have h3 := hall_easy hasc hr (a.imp fun h => by omega) b
    have h5 := gone_len (n := n) (ps := ps) (g := g) (a := [x]) (S := S)
    have h6 : [x].length = 1 := rfl
    have hxS : x ∈ tkL n ps g S := by
      apply Classical.byContradiction
      intro hxS
      have : (tkL n ps g S).length ≤ (tkL n ps (g ++ [x]) S).length := (tkL_nodup _ _ _ _).length_le_of_subset fun y hy => by
        obtain ⟨q1, q2, q3⟩ := tkL_mem.mp hy
        refine tkL_mem.mpr ⟨q1, fun q => ?_, q3⟩
        rcases List.mem_append.mp q with q | q
        · exact q2 q
        · rw [List.mem_singleton] at q
          exact hxS (q ▸ hy)
      unfold spareV at hneg h3
      omega
    have hT : S ∈ tgt n ps g := tgt_mem.mpr ⟨hS, by unfold spareV at hneg h3 ⊢; omega⟩
    obtain ⟨_, _, q3⟩ := tkL_mem.mp hxS
    obtain ⟨p, hp, hc⟩ := List.any_eq_true.mp q3
    exact tkL_mem.mpr ⟨hx, hg, List.any_eq_true.mpr ⟨p, List.mem_filter.mpr ⟨rng_mem.mpr (b p hp), List.any_eq_true.mpr ⟨S, hT, List.contains_iff_mem.mpr hp⟩⟩, hc⟩⟩
end Co

set_option linter.all false
namespace Co
open PySem
local macro_rules | `(tactic| walk_at "wps") => `(tactic| simp -dsimp only [↓wpS, ↓wpE, ↓wpEs, ↓wpEs', ↓wpCs, ↓wpI, ↓callW, ↓okArgs, ↓sigOk, ↓inouts, ↓lents, ↓peeks, ↓peek, ↓pk, ↓slot, ↓setOwn, ↓setC, ↓freeze, ↓isOwn, ↓isIo, ↓slC, ↓isLst, ↓asV, ↓asS, ↓asVs, ↓asSs, ↓isT, ↓R.still, ↓setMany, ↓bindT, ↓wipeE, ↓unwipe, ↓binD, ↓intBin, ↓cmpD, ↓eqD, ↓ordD, ↓ordI, ↓startE, ↓endsOf, ↓ioOf, ↓newsOf, ↓Sl.r, ↓itemsOf, ↓slcD, ↓revD, ↓b1D, ↓b2D, ↓isNoneD, ↓noRefR, ↓noRef, ↓noRefs, ite_self, ↓isTy, ↓List.getElem?_cons_zero, ↓List.getElem?_cons_succ, ↓List.getElem?_nil, ↓Option.join_some, ↓Option.join_none, ↓Option.isSome_some, ↓Option.isSome_none, ↓List.set_cons_zero, ↓List.set_cons_succ, ↓List.replicate, ↓List.length_cons, ↓List.length_nil, ↓List.isEmpty_cons, ↓List.isEmpty_nil, ↓List.all_cons, ↓List.all_nil, ↓List.filterMap_cons, ↓List.filterMap_nil, ↓List.contains_cons, ↓List.contains_nil, ↓Bool.and_true, ↓Bool.true_and, ↓Bool.and_false, ↓Bool.false_and, ↓Bool.not_true, ↓Bool.not_false, ↓if_true, ↓sh_int, ↓sh_bool, ↓sh_none, ↓eqv_ii, ↓eqv_bb, ↓eqv_ss, ↓brn_true, ↓brn_false, brn_true, brn_false, ↓List.any_cons, ↓List.any_nil, ↓if_false, ↓ite_true, ↓ite_false, ↓true_and, ↓and_true, ↓Bool.false_eq_true, ↓reduceCtorEq, ↓decide_true, ↓decide_false, ↓List.map_cons, ↓List.map_nil, ↓Tg.slots, ↓List.nodup_cons, ↓List.nodup_nil, ↓List.not_mem_nil, ↓not_false_eq_true, ↓forall_const, ↓true_implies, ↓bI, Nat.reduceAdd, Nat.reduceSub, Nat.reduceEqDiff, Int.reduceLT, Int.reduceLE, Nat.reduceLT, Nat.reduceLeDiff, Int.reduceNeg, Nat.reduceBEq, ↓BEq.rfl, ↓beq_self_eq_true, ↓Bool.or_false, ↓Bool.or_true])
/-! ### pairs: houses without a post, without a pair; one person more -/
theorem nrH (n : Nat) (ps : List (List Int)) : noRefR (.val (houseD n ps)) = true := by
  show noRefs [.int n, .tuple (ps.map intsD)] = true
  have : noRef (.tuple (ps.map intsD)) = true := noRefs_of fun x hx => by
    obtain ⟨l, _, rfl⟩ := List.mem_map.mp hx
    exact noRef_intsD l
  simp only [noRefs, this, Bool.and_true]
  rfl
theorem cutT {ps : List (List Int)} {p : Int} (h0 : 0 ≤ p) (h1 : p < ps.length) : cut (ps.map intsD) none (some p) = (ps.take p.toNat).map intsD := by
  rw [cut_take h0 (by rw [List.length_map]; omega), List.map_take]
theorem cutD {ps : List (List Int)} {p : Int} (h0 : 0 ≤ p) (h1 : p < ps.length) : cut (ps.map intsD) (some (p + 1)) none = (ps.drop (p.toNat + 1)).map intsD := by
  rw [cut_drop (by omega) (by rw [List.length_map]; omega), List.map_drop]
  congr 1; omega
def withoutPostSp : Spec := fun ds Q => ∃ n ps, ∃ p : Int, ds = [houseD n ps, .int p] ∧ ps.length ≤ 20 ∧ 0 ≤ p ∧ p < ps.length ∧ Q (.val (houseD n (ps.eraseIdx p.toNat))) []
theorem without_post_ok (Φ : Tbl) : Impl Φ [false, false] 2 f_without_post withoutPostSp := by
  rintro ds Q ⟨n, ps, p, rfl, hps, h0, h1, k⟩ _
  unfold f_without_post
  have hh : houseD n ps = .tuple [.int n, .tuple (ps.map intsD)] := rfl
  rw [hh]
  walk_at "wps"
  refine stp_nT (n := 0) rfl ?_
  walk_at "wps"
  refine stp_nT (n := 1) rfl ?_
  walk_at "wps"
  refine stp_nT (n := 1) rfl ?_
  walk_at "wps"
  rw [cutT h0 h1, cutD h0 h1]
  have e : (ps.take p.toNat).map intsD ++ (ps.drop (p.toNat + 1)).map intsD = (ps.eraseIdx p.toNat).map intsD := by
    rw [← List.map_append, List.eraseIdx_eq_take_drop_succ]
  rw [e]
  refine ⟨by rw [List.length_map, List.length_map, List.length_take, List.length_drop]; show _ ≤ 16777216; omega, ?_⟩
  exact k
def wpL (ps : List (List Int)) (p x : Int) : List (List Int) := ps.set p.toNat ((ps.getD p.toNat []).filter fun y => !decide (y = x))
theorem wpL_len (ps : List (List Int)) (p x : Int) : (wpL ps p x).length = ps.length := by simp [wpL]
theorem wpL_asc {n : Nat} {ps : List (List Int)} {p x : Int} (h : ∀ l ∈ ps, asc n l) : ∀ l ∈ wpL ps p x, asc n l := fun l hl => by
  rcases List.mem_or_eq_of_mem_set hl with hl | rfl
  · exact h l hl
  · by_cases hp : p.toNat < ps.length
    · rw [List.getD_eq_getElem?_getD, List.getElem?_eq_getElem hp]
      have := h _ (List.getElem_mem hp)
      exact ⟨this.1.filter _, fun y hy => this.2 y (List.mem_filter.mp hy).1⟩
    · rw [List.getD_eq_getElem?_getD, List.getElem?_eq_none (by omega)]
      exact ⟨by simp, by simp⟩
theorem er_asc {n : Nat} {ps : List (List Int)} {k : Nat} (h : ∀ l ∈ ps, asc n l) : ∀ l ∈ ps.eraseIdx k, asc n l := fun l hl => h l ((List.eraseIdx_subset) hl)
theorem lc_ne {l : List Int} {x : Int} {bind : PyData → Env → (Env → Prop) → Prop} {conds : Env → (Bool → Env → Prop) → Prop} {elt : Env → (PyData → Env → Prop) → Prop} {own : List Nat} {env : Env} {K : List PyData → Env → Prop}
    (hs : ∀ y acc (N : List PyData → Env → Prop), y ∈ l → (∀ e, wipeE e own = wipeE env own → if (!decide (y = x)) = true then N (acc ++ [.int y]) e else N acc e) → bind (.int y) (wipeE env own) fun env1 => conds env1 fun b env2 =>
      if b = true then elt env2 fun y env3 => N (acc ++ [y]) env3 else N acc env2)
    (hd : K ((l.filter fun y => !decide (y = x)).map .int) (wipeE env own)) : lcGo bind conds elt own (l.map .int) [] env K := lc_ints (fun y => !decide (y = x)) hs hd
def withoutPairSp : Spec := fun ds Q => ∃ n ps, ∃ p x : Int, ds = [houseD n ps, .int p, .int x] ∧ ps.length ≤ 20 ∧ (∀ l ∈ ps, l.length ≤ 20) ∧ 0 ≤ p ∧ p < ps.length ∧ Q (.val (houseD n (wpL ps p x))) []
theorem getD_mem {ps : List (List Int)} {p : Int} (h0 : 0 ≤ p) (h1 : p < ps.length) : ps.getD p.toNat [] ∈ ps := by
  rw [List.getD_eq_getElem?_getD, List.getElem?_eq_getElem (by omega)]
  exact List.getElem_mem _
def withPersonSp : Spec := fun ds Q => ∃ g, ∃ x : Int, ds = [intsD g, .int x] ∧ g.length ≤ 1000 ∧ Q (.val (intsD (fsort (g ++ [x])))) []
theorem with_person_ok (Φ : Tbl) : Impl Φ [false, false] 2 f_with_person withPersonSp := by
  rintro ds Q ⟨g, x, rfl, hg, k⟩ _
  unfold f_with_person
  simp only [intsD]
  walk_at "wps"
  have e : List.map PyData.int g ++ [PyData.int x] = (g ++ [x]).map .int := by rw [List.map_append]; rfl
  rw [e]
  refine ⟨by rw [List.length_map]; show _ ≤ 16777216; omega, by rw [List.length_map, List.length_append]; show _ ≤ 16777216; simp; omega, .inl ⟨_, intsOf_map' _, ?_⟩⟩
  exact k
/-- posts told for the house without a post, as posts of the house -/
def shf (p o : Int) : Int := if o < p then o else o + 1
def shortP (n : Nat) (ps : List (List Int)) (g S : List Int) : Prop := S.Pairwise (· < ·) ∧ (∀ x ∈ S, 0 ≤ x ∧ x < ps.length) ∧ S ≠ [] ∧ spareV n ps g S < 0
theorem upI_short {n : Nat} {ps : List (List Int)} {g : List Int} {w : List Nat} (hasc : ∀ l ∈ ps, asc n l) (T : tooFew ps g w) : shortP n ps g (upI w) := by
  obtain ⟨a1, a2, a3⟩ := short_right hasc T
  obtain ⟨ns, e1, b1, b2⟩ := ascB_true a1
  have : upI w = ns := by
    have h : (upI w).map PyData.int = ns.map .int := by injection e1
    have q := intsOf_map' (upI w)
    rw [h, intsOf_map'] at q
    injection q with q
    exact q.symm
  rw [this] at a2 a3 ⊢
  exact ⟨b1, b2, a2, a3⟩
theorem shortP_fsort {n : Nat} {ps : List (List Int)} {g S : List Int} (h : shortP n ps (fsort g) S) : shortP n ps g S := by
  obtain ⟨a, b, c, d⟩ := h
  refine ⟨a, b, c, ?_⟩
  unfold spareV at d ⊢
  rwa [tkL_congr (g := fsort g) (g' := g) fun x => fsort_mem] at d
def obstSp : Spec := fun ds Q => ∃ n ps g, ∃ p x : Int, ds = [houseD n ps, intsD g, .int p, .int x] ∧ n ≤ 20 ∧ ps.length ≤ 20 ∧ (∀ l ∈ ps, asc n l) ∧ g.length ≤ 500 ∧ 0 ≤ p ∧ p < ps.length ∧
  ((∃ t, Ro (g ++ [x]) (ps.eraseIdx p.toNat) [] t) → Q (.val .none) []) ∧ (∀ S, shortP n (ps.eraseIdx p.toNat) (g ++ [x]) S → Q (.val (intsD (S.map (shf p)))) [])
def needPSp : Spec := fun ds Q => ∃ n ps g, ∃ p x : Int, ds = [houseD n ps, intsD g, .int p, .int x] ∧ n ≤ 20 ∧ ps.length ≤ 20 ∧ (∀ l ∈ ps, asc n l) ∧ 0 ≤ p ∧ p < ps.length ∧
  ((∃ t, Ro g (wpL ps p x) [] t) → Q (.val .none) []) ∧ (∀ S, shortP n (wpL ps p x) g S → Q (.val (intsD S)) [])
end Co

set_option linter.all false
namespace Co
open PySem
local macro_rules | `(tactic| walk_at "wps") => `(tactic| simp -dsimp only [↓wpS, ↓wpE, ↓wpEs, ↓wpEs', ↓wpCs, ↓wpI, ↓callW, ↓okArgs, ↓sigOk, ↓inouts, ↓lents, ↓peeks, ↓peek, ↓pk, ↓slot, ↓setOwn, ↓setC, ↓freeze, ↓isOwn, ↓isIo, ↓slC, ↓isLst, ↓asV, ↓asS, ↓asVs, ↓asSs, ↓isT, ↓R.still, ↓setMany, ↓bindT, ↓wipeE, ↓unwipe, ↓binD, ↓intBin, ↓cmpD, ↓eqD, ↓ordD, ↓ordI, ↓startE, ↓endsOf, ↓ioOf, ↓newsOf, ↓Sl.r, ↓itemsOf, ↓slcD, ↓revD, ↓b1D, ↓b2D, ↓isNoneD, ↓noRefR, ↓noRef, ↓noRefs, ite_self, ↓isTy, ↓List.getElem?_cons_zero, ↓List.getElem?_cons_succ, ↓List.getElem?_nil, ↓Option.join_some, ↓Option.join_none, ↓Option.isSome_some, ↓Option.isSome_none, ↓List.set_cons_zero, ↓List.set_cons_succ, ↓List.replicate, ↓List.length_cons, ↓List.length_nil, ↓List.isEmpty_cons, ↓List.isEmpty_nil, ↓List.all_cons, ↓List.all_nil, ↓List.filterMap_cons, ↓List.filterMap_nil, ↓List.contains_cons, ↓List.contains_nil, ↓Bool.and_true, ↓Bool.true_and, ↓Bool.and_false, ↓Bool.false_and, ↓Bool.not_true, ↓Bool.not_false, ↓if_true, ↓sh_int, ↓sh_bool, ↓sh_none, ↓eqv_ii, ↓eqv_bb, ↓eqv_ss, ↓brn_true, ↓brn_false, brn_true, brn_false, ↓List.any_cons, ↓List.any_nil, ↓if_false, ↓ite_true, ↓ite_false, ↓true_and, ↓and_true, ↓Bool.false_eq_true, ↓reduceCtorEq, ↓decide_true, ↓decide_false, ↓List.map_cons, ↓List.map_nil, ↓Tg.slots, ↓List.nodup_cons, ↓List.nodup_nil, ↓List.not_mem_nil, ↓not_false_eq_true, ↓forall_const, ↓true_implies, ↓bI, Nat.reduceAdd, Nat.reduceSub, Nat.reduceEqDiff, Int.reduceLT, Int.reduceLE, Nat.reduceLT, Nat.reduceLeDiff, Int.reduceNeg, Nat.reduceBEq, ↓BEq.rfl, ↓beq_self_eq_true, ↓Bool.or_false, ↓Bool.or_true])
/-! ### groups and breaks -/
theorem lc_filter0 {α : Type} (enc : α → PyData) {bind : PyData → Env → (Env → Prop) → Prop} {conds : Env → (Bool → Env → Prop) → Prop} {elt : Env → (PyData → Env → Prop) → Prop} {own : List Nat} {l : List α} {acc0 : List PyData} {env : Env} {K : List PyData → Env → Prop} (p : α → Bool) (g : α → PyData)
    (hs : ∀ x acc (N : List PyData → Env → Prop), x ∈ l → (∀ e, wipeE e own = wipeE env own → if p x = true then N (acc ++ [g x]) e else N acc e) → bind (enc x) (wipeE env own) fun env1 => conds env1 fun b env2 =>
      if b = true then elt env2 fun y env3 => N (acc ++ [y]) env3 else N acc env2)
    (hd : K (acc0 ++ (l.filter p).map g) (wipeE env own)) : lcGo bind conds elt own (l.map enc) acc0 env K := by
  have key : ∀ (r : List α) (acc : List PyData) (e : Env), (∀ x ∈ r, x ∈ l) → wipeE e own = wipeE env own → K (acc ++ (r.filter p).map g) (wipeE env own) → lcGo bind conds elt own (r.map enc) acc e K := by
    intro r
    induction r with
    | nil =>
      intro acc e _ he hK
      show K acc (wipeE e own)
      rw [he]
      simpa using hK
    | cons x r ih =>
      intro acc e hr he hK
      show bind (enc x) (wipeE e own) _
      rw [he]
      refine hs x acc (fun a e2 => lcGo bind conds elt own (r.map enc) a e2 K) (hr x List.mem_cons_self) fun e2 h2 => ?_
      have hr2 : ∀ y ∈ r, y ∈ l := fun y hy => hr y (List.mem_cons_of_mem _ hy)
      by_cases hp : p x = true
      · rw [if_pos hp]
        refine ih _ e2 hr2 h2 ?_
        rw [List.filter_cons, if_pos hp, List.map_cons] at hK
        rw [List.append_assoc]
        exact hK
      · rw [if_neg hp]
        refine ih _ e2 hr2 h2 ?_
        rw [List.filter_cons, if_neg hp] at hK
        exact hK
  exact key l acc0 env (fun _ h => h) rfl hd
theorem lc2_inv {bind : PyData → Env → (Env → Prop) → Prop} {conds : Env → (Bool → Env → Prop) → Prop} {src2 : Env → (List PyData → Env → Prop) → Prop} {bind2 : PyData → Env → (Env → Prop) → Prop} {conds2 : Env → (Bool → Env → Prop) → Prop} {elt : Env → (PyData → Env → Prop) → Prop} {own own2 : List Nat} {items : List PyData} {env : Env} {K : List PyData → Env → Prop} (I : Nat → List PyData → Env → Prop) (h0 : I 0 [] env)
    (hs : ∀ i x acc env (N : List PyData → Env → Prop), items[i]? = some x → I i acc env → (∀ acc' e, I (i + 1) acc' e → N acc' e) → bind x (wipeE env own) fun env1 => conds env1 fun b env2 =>
      if b = true then src2 env2 fun items2 env3 => acc.length + items2.length ≤ LINE ∧ lcGo bind2 conds2 elt own2 items2 acc env3 N else N acc env2)
    (hd : ∀ acc env, I items.length acc env → K acc (wipeE env own)) : lcGo2 bind conds src2 bind2 conds2 elt own own2 items [] env K := by
  suffices h : ∀ n i acc env, items.length = i + n → I i acc env → lcGo2 bind conds src2 bind2 conds2 elt own own2 (items.drop i) acc env K by
    have := h items.length 0 [] env (by omega) h0
    rwa [List.drop_zero] at this
  intro n
  induction n with
  | zero =>
    intro i acc env hi hI
    have e : i = items.length := by omega
    subst e
    rw [List.drop_length]
    exact hd acc env hI
  | succ n ih =>
    intro i acc env hi hI
    have hl : i < items.length := by omega
    rw [List.drop_eq_getElem_cons hl]
    exact hs i _ acc env (fun acc' e => lcGo2 bind conds src2 bind2 conds2 elt own own2 (items.drop (i + 1)) acc' e K) (List.getElem?_eq_getElem hl) hI fun acc' e he => ih (i + 1) acc' e (by omega) he
def presentSp : Spec := fun ds Q => ∃ n ps g, ds = [houseD n ps, intsD g] ∧ n ≤ 20 ∧ Q (.own (.list ((lft n g).map .int))) []
def lev (l : List Int) (j : Nat) : List (List Int) := (prt l l.length).filter fun t => decide (t.length = j)
def grpN (l : List Int) : Nat → List (List Int)
  | 0 => []
  | j + 1 => grpN l j ++ lev l j
def grpL (l : List Int) : List (List Int) := grpN l (l.length + 1)
theorem lev_len (l : List Int) (j : Nat) : (lev l j).length ≤ 2 ^ l.length := by
  have := List.length_filter_le (fun t : List Int => decide (t.length = j)) (prt l l.length)
  rw [prt_len] at this
  exact this
theorem grpN_len (l : List Int) : ∀ j, (grpN l j).length ≤ 2 ^ l.length * j
  | 0 => by simp [grpN]
  | j + 1 => by
    have h1 := grpN_len l j
    have h2 := lev_len l j
    rw [grpN, List.length_append, Nat.mul_succ]; omega
theorem grpN_mem {l t : List Int} : ∀ {j : Nat}, t ∈ grpN l j ↔ t.Sublist l ∧ t.length < j
  | 0 => by simp [grpN]
  | j + 1 => by
    rw [grpN, List.mem_append, grpN_mem (j := j), lev, List.mem_filter, prt_mem (Nat.le_refl _), List.take_length, decide_eq_true_eq]
    constructor
    · rintro (⟨a, b⟩ | ⟨a, b⟩)
      · exact ⟨a, by omega⟩
      · exact ⟨a, by omega⟩
    · rintro ⟨a, b⟩
      by_cases hb : t.length < j
      · exact .inl ⟨a, hb⟩
      · exact .inr ⟨a, by omega⟩
theorem grpL_mem {l t : List Int} : t ∈ grpL l ↔ t.Sublist l := by
  unfold grpL
  rw [grpN_mem]
  exact ⟨fun h => h.1, fun h => ⟨h, by have := h.length_le; omega⟩⟩
theorem grpL_len {l : List Int} (h : l.length ≤ 10) : (grpL l).length ≤ 12000 := by
  have h1 := grpN_len l (l.length + 1)
  have h2 : 2 ^ l.length ≤ 2 ^ 10 := Nat.pow_le_pow_right (by decide) h
  have h3 : 2 ^ l.length * (l.length + 1) ≤ 2 ^ 10 * 11 := Nat.mul_le_mul h2 (by omega)
  unfold grpL
  omega
def groupsSp : Spec := fun ds Q => ∃ l : List Int, ds = [.list (l.map .int)] ∧ l.length ≤ 10 ∧ Q (.own (.list ((grpL l).map intsD))) []
theorem groups_of_ok (Φ : Tbl) : Impl Φ [false] 5 f_groups_of groupsSp := by
  rintro ds Q ⟨s, rfl, hs, k⟩ _
  unfold f_groups_of
  walk_at "wps"
  refine for_inv (fun i e => ∃ (y2 y3 y4 : Option Sl), e = [some (.val (.list (s.map .int))), some (.own (.list ((prt s i).map intsD))), y2, y3, y4] ∧ i ≤ s.length) ⟨none, none, none, rfl, Nat.zero_le _⟩ ?_ ?_
  · rintro i x e N hx ⟨y2, y3, y4, rfl, hi⟩ next
    obtain ⟨x, rfl, hxl⟩ := map_some hx
    have hi2 := (List.getElem?_eq_some_iff.mp hxl).1
    have hx2 : s.getD i 0 = x := by rw [List.getD_eq_getElem?_getD, hxl]; rfl
    have h2 : 2 ^ i ≤ 2 ^ 10 := Nat.pow_le_pow_right (by decide) (by omega)
    unfold f_groups_of_b1
    walk_at "wps"
    refine ⟨by rw [List.length_map, prt_len]; show _ < 16777216; omega, lc_filter intsD (fun _ => true) (fun t => .tuple (t.map .int ++ [.int x])) (fun t acc N2 ht next2 => ?_) ?_⟩
    · unfold f_groups_of_e2 intsD
      have hls : t.length ≤ 10 := by
        have := ((prt_mem (by omega)).mp ht).length_le
        rw [List.length_take] at this
        omega
      walk_at "wps"
      refine ⟨by rw [List.length_map]; show _ ≤ 16777216; omega, ?_⟩
      exact next2 [some (.val (.list (s.map .int))), some (.val (.list ((prt s i).map intsD))), some (.val (.int x)), y3, some (.val (.tuple (t.map .int)))] rfl
    · walk_at "wps"
      have e : List.map intsD (prt s i) ++ List.map (fun t => PyData.tuple (t.map .int ++ [.int x])) ((prt s i).filter fun _ => true) = List.map intsD (prt s (i + 1)) := by
        rw [show (prt s i).filter (fun _ => true) = prt s i from List.filter_eq_self.mpr fun _ _ => rfl, prt, List.map_append, List.map_map, hx2]
        congr 2
        funext t
        simp [intsD]
      rw [e]
      exact ⟨by rw [List.length_map, List.length_map, List.length_filter_eq_length_iff.mpr (fun _ _ => rfl), prt_len]; show _ ≤ 16777216; omega, next _ ⟨_, _, _, rfl, by omega⟩⟩
  · rintro e ⟨y2, y3, y4, rfl, hi⟩
    rw [List.length_map] at hi
    have h2 : 2 ^ s.length ≤ 2 ^ 10 := Nat.pow_le_pow_right (by decide) (by omega)
    have hl' : (s.map PyData.int).length = s.length := List.length_map ..
    walk_at "wps"
    refine ⟨by omega, by omega, lc2_inv (fun j acc e => ∃ (q1 : Sl) (y3 y4 : Option Sl), acc = (grpN s j).map intsD ∧ e = [some (.val (.list (s.map .int))), some q1, y2, y3, y4] ∧ (q1 = .own (.list ((prt s s.length).map intsD)) ∨ q1 = .val (.list ((prt s s.length).map intsD))) ∧ j ≤ s.length + 1)
      ⟨_, y3, y4, rfl, by rw [hl'], .inl rfl, by omega⟩ ?_ ?_⟩
    · rintro j x acc e N hx ⟨q1, z3, z4, rfl, rfl, hq, hj⟩ next
      obtain ⟨rfl, hj1⟩ := range_some hx
      have hj2 : j < s.length + 1 := by omega
      have hgl := grpN_len s j
      have hlt : 2 ^ s.length * j ≤ 2 ^ 10 * 11 := Nat.mul_le_mul h2 (by omega)
      have e3 : ∀ t : List Int, decide (((t.map PyData.int).length : Int) = 0 + (j : Int)) = decide (t.length = j) := fun t => by
        rw [List.length_map, Bool.eq_iff_iff, decide_eq_true_eq, decide_eq_true_eq]; omega
      rcases hq with rfl | rfl
      all_goals
        walk_at "wps"
        refine ⟨by rw [List.length_map, List.length_map, prt_len]; show _ ≤ 16777216; omega, lc_filter0 intsD (fun t => decide (t.length = j)) intsD (fun t acc N2 ht next2 => ?_) ?_⟩
        · unfold f_groups_of_e1 f_groups_of_c1
          simp only [intsD]
          walk_at "wps"
          rw [e3]
          exact next2 _ rfl
        · have e4 : (grpN s j).map intsD ++ ((prt s s.length).filter fun t => decide (t.length = j)).map intsD = (grpN s (j + 1)).map intsD := by rw [← List.map_append]; rfl
          rw [e4]
          exact next _ _ ⟨_, _, _, rfl, rfl, .inr rfl, by omega⟩
    · rintro acc e ⟨q1, z3, z4, rfl, rfl, hq, hj⟩
      have e5 : (rangeL 0 (((s.map PyData.int).length : Int) + 1).toNat).length = s.length + 1 := by rw [rangeL_length]; omega
      rw [e5]
      walk_at "wps"
      exact k
end Co

set_option linter.all false
namespace Co
open PySem
/-! ### rosters counted (plain) -/
theorem sum_if (p : Int → Bool) (f : Int → Nat) (l : List Int) : ((l.filter p).map f).sum = (l.map fun x => if p x = true then f x else 0).sum := by
  induction l with
  | nil => rfl
  | cons x l ih =>
    rw [List.filter_cons, List.map_cons, List.sum_cons]
    split
    · rw [List.map_cons, List.sum_cons, ih]
    · rw [ih, Nat.zero_add]
theorem sum_add (f g : Int → Nat) (l : List Int) : (l.map fun x => f x + g x).sum = (l.map f).sum + (l.map g).sum := by
  induction l with
  | nil => rfl
  | cons x l ih => rw [List.map_cons, List.map_cons, List.map_cons, List.sum_cons, List.sum_cons, List.sum_cons, ih]; omega
theorem sum_zero (l : List Int) : (l.map fun _ => 0).sum = 0 := by
  induction l with
  | nil => rfl
  | cons x l ih => rw [List.map_cons, List.sum_cons, ih]
theorem sum_swap (F : Int → Int → Nat) (a b : List Int) : (a.map fun y => (b.map fun x => F y x).sum).sum = (b.map fun x => (a.map fun y => F y x).sum).sum := by
  induction a with
  | nil => exact (sum_zero b).symm
  | cons y a ih =>
    rw [List.map_cons, List.sum_cons, ih, ← sum_add]
    rfl
def cI (T : List Int) (x : Int) (k : Nat) : Nat := if T.contains x = true then 0 else k
theorem cntF_cons (l : List Int) (R : List (List Int)) (T : List Int) : cntF (l :: R) T = (l.map fun x => cI T x (cntF R (T ++ [x]))).sum := by
  show ((l.filter fun x => !T.contains x).map fun x => cntF R (T ++ [x])).sum = _
  rw [sum_if]
  congr 1
  refine List.map_congr_left fun x _ => ?_
  unfold cI
  cases T.contains x <;> rfl
/-- the rosters with each person at a post add up to all -/
theorem cnt_at : ∀ (ps : List (List Int)) (k : Nat) (T : List Int), k < ps.length → cntF ps T = ((ps.getD k []).map fun x => cI T x (cntF (ps.eraseIdx k) (T ++ [x]))).sum
  | [], k, T, h => absurd h (by simp)
  | l :: R, 0, T, h => cntF_cons l R T
  | l :: R, k + 1, T, h => by
    have hk : k < R.length := by simpa using h
    show _ = ((R.getD k []).map fun x => cI T x (cntF (l :: R.eraseIdx k) (T ++ [x]))).sum
    rw [cntF_cons]
    have e1 : ∀ y, cI T y (cntF R (T ++ [y])) = ((R.getD k []).map fun x => cI T y (cI (T ++ [y]) x (cntF (R.eraseIdx k) (T ++ [y] ++ [x])))).sum := fun y => by
      rw [cnt_at R k (T ++ [y]) hk]
      unfold cI
      by_cases hy : T.contains y = true
      · simp only [hy, if_true]
        exact (sum_zero _).symm
      · simp only [hy]; rfl
    have e2 : ∀ x, cI T x (cntF (l :: R.eraseIdx k) (T ++ [x])) = (l.map fun y => cI T x (cI (T ++ [x]) y (cntF (R.eraseIdx k) (T ++ [x] ++ [y])))).sum := fun x => by
      rw [cntF_cons]
      unfold cI
      by_cases hx : T.contains x = true
      · simp only [hx, if_true]
        exact (sum_zero _).symm
      · simp only [hx]; rfl
    rw [List.map_congr_left fun y _ => e1 y, List.map_congr_left fun x _ => e2 x, sum_swap]
    congr 1
    refine List.map_congr_left fun x _ => ?_
    congr 1
    refine List.map_congr_left fun y _ => ?_
    have hc : cntF (R.eraseIdx k) (T ++ [y] ++ [x]) = cntF (R.eraseIdx k) (T ++ [x] ++ [y]) := cntF_congr _ fun z => by
      simp only [List.mem_append, List.mem_singleton]
      constructor
      · rintro ((h | h) | h)
        · exact .inl (.inl h)
        · exact .inr h
        · exact .inl (.inr h)
      · rintro ((h | h) | h)
        · exact .inl (.inl h)
        · exact .inr h
        · exact .inl (.inr h)
    have hT : ∀ a b : Int, (T ++ [a]).contains b = (T.contains b || decide (b = a)) := fun a b => by
      rw [Bool.eq_iff_iff, List.contains_iff_mem, Bool.or_eq_true, List.contains_iff_mem, decide_eq_true_eq, List.mem_append, List.mem_singleton]
    unfold cI
    have h3 : decide (y = x) = decide (x = y) := by rw [Bool.eq_iff_iff, decide_eq_true_eq, decide_eq_true_eq]; exact eq_comm
    rw [hc, hT, hT, h3]
    generalize cntF (R.eraseIdx k) (T ++ [x] ++ [y]) = c
    generalize T.contains x = a
    generalize T.contains y = b
    generalize decide (x = y) = d
    cases a <;> cases b <;> cases d <;> rfl
theorem cI_pos {T : List Int} {x : Int} {k : Nat} : 0 < cI T x k ↔ x ∉ T ∧ 0 < k := by
  unfold cI
  by_cases h : x ∈ T
  · rw [if_pos (List.contains_iff_mem.mpr h)]
    exact ⟨fun q => absurd q (by omega), fun q => absurd h q.1⟩
  · rw [if_neg (by simpa using h)]
    exact ⟨fun q => ⟨h, q⟩, fun q => q.2⟩
theorem sum_pos {f : Int → Nat} : ∀ {l : List Int}, 0 < (l.map f).sum ↔ ∃ x ∈ l, 0 < f x
  | [] => by simp
  | x :: l => by
    rw [List.map_cons, List.sum_cons]
    have ih := sum_pos (f := f) (l := l)
    constructor
    · intro h
      by_cases hx : 0 < f x
      · exact ⟨x, List.mem_cons_self, hx⟩
      · obtain ⟨y, hy, hp⟩ := ih.mp (by omega)
        exact ⟨y, List.mem_cons_of_mem _ hy, hp⟩
    · rintro ⟨y, hy, hp⟩
      rcases List.mem_cons.mp hy with rfl | hy
      · omega
      · have := ih.mpr ⟨y, hy, hp⟩
        omega
theorem ro_cons {l : List Int} {R : List (List Int)} {g : List Int} {x : Int} {t : List Int} : Ro g (l :: R) [] (x :: t) ↔ x ∈ l ∧ x ∉ g ∧ Ro (g ++ [x]) R [] t := by
  constructor
  · intro h
    have hn : (x :: t).Nodup := by simpa using h.nd
    have h0 := h.ok 0 x rfl
    refine ⟨h0.1, h0.2, ⟨by simpa using h.len, fun i y hy => ?_, by simpa using (List.nodup_cons.mp hn).2⟩⟩
    have := h.ok (i + 1) y hy
    refine ⟨this.1, fun q => ?_⟩
    rcases List.mem_append.mp q with q | q
    · exact this.2 q
    · rw [List.mem_singleton] at q
      subst q
      exact (List.nodup_cons.mp hn).1 (List.mem_of_getElem? hy)
  · rintro ⟨h1, h2, h⟩
    have hn : t.Nodup := by simpa using h.nd
    refine ⟨by simp [h.len], fun i y hy => ?_, ?_⟩
    · cases i with
      | zero => cases hy; exact ⟨h1, h2⟩
      | succ i =>
        have := h.ok i y hy
        exact ⟨this.1, fun q => this.2 (List.mem_append_left _ q)⟩
    · rw [List.nil_append, List.nodup_cons]
      refine ⟨fun q => ?_, hn⟩
      obtain ⟨i, hi⟩ := List.getElem?_of_mem q
      exact (h.ok i x hi).2 (List.mem_append_right _ (List.mem_singleton.mpr rfl))
/-- some are counted exactly if there is a roster -/
theorem cnt_pos : ∀ {ps : List (List Int)} {g : List Int}, 0 < cntF ps g ↔ ∃ t, Ro g ps [] t
  | [], g => by
    show 0 < 1 ↔ _
    exact ⟨fun _ => ⟨[], rfl, by simp, by simp⟩, fun _ => by omega⟩
  | l :: R, g => by
    rw [cntF_cons, sum_pos]
    constructor
    · rintro ⟨x, hx, hp⟩
      obtain ⟨h1, h2⟩ := cI_pos.mp hp
      obtain ⟨t, r⟩ := cnt_pos.mp h2
      exact ⟨x :: t, ro_cons.mpr ⟨hx, h1, r⟩⟩
    · rintro ⟨t, r⟩
      cases t with
      | nil => have := r.len; simp at this
      | cons x t =>
        obtain ⟨h1, h2, h3⟩ := ro_cons.mp r
        exact ⟨x, h1, cI_pos.mpr ⟨h2, cnt_pos.mpr ⟨t, h3⟩⟩⟩
theorem sum_split {f : Int → Nat} {x : Int} : ∀ {l : List Int}, l.Nodup → x ∈ l → (l.map f).sum = f x + ((l.filter fun y => decide (y ≠ x)).map f).sum
  | [], _, h => by simp at h
  | y :: l, hn, h => by
    rw [List.nodup_cons] at hn
    rw [List.map_cons, List.sum_cons, List.filter_cons]
    by_cases hy : y = x
    · subst hy
      rw [if_neg (by simp), List.filter_eq_self.mpr fun z hz => by simpa using fun q : z = y => hn.1 (q ▸ hz)]
    · have hx : x ∈ l := (List.mem_cons.mp h).resolve_left fun q => hy q.symm
      rw [if_pos (by simpa using hy), List.map_cons, List.sum_cons, sum_split hn.2 hx]
      omega
/-- all have a pair exactly if there is none without it -/
theorem cnt_sure {ps : List (List Int)} {g : List Int} {k : Nat} {x : Int} (hk : k < ps.length) (hx : x ∈ ps.getD k []) (hn : (ps.getD k []).Nodup) : cI g x (cntF (ps.eraseIdx k) (g ++ [x])) = cntF ps g ↔ ¬ ∃ t, Ro g (ps.set k ((ps.getD k []).filter fun y => decide (y ≠ x))) [] t := by
  have h1 := cnt_at ps k g hk
  rw [sum_split hn hx] at h1
  have h2 := cnt_at (ps.set k ((ps.getD k []).filter fun y => decide (y ≠ x))) k g (by rw [List.length_set]; exact hk)
  have e1 : (ps.set k ((ps.getD k []).filter fun y => decide (y ≠ x))).getD k [] = (ps.getD k []).filter fun y => decide (y ≠ x) := by
    rw [List.getD_eq_getElem?_getD, List.getElem?_set_self hk]; rfl
  have e2 : (ps.set k ((ps.getD k []).filter fun y => decide (y ≠ x))).eraseIdx k = ps.eraseIdx k := by
    rw [List.eraseIdx_set_eq]
  rw [e1, e2] at h2
  rw [← cnt_pos]
  omega
end Co

set_option linter.all false
namespace Co
open PySem
local macro_rules | `(tactic| walk_at "wps") => `(tactic| simp -dsimp only [↓wpS, ↓wpE, ↓wpEs, ↓wpEs', ↓wpCs, ↓wpI, ↓callW, ↓okArgs, ↓sigOk, ↓inouts, ↓lents, ↓peeks, ↓peek, ↓pk, ↓slot, ↓setOwn, ↓setC, ↓freeze, ↓isOwn, ↓isIo, ↓slC, ↓isLst, ↓asV, ↓asS, ↓asVs, ↓asSs, ↓isT, ↓R.still, ↓setMany, ↓bindT, ↓wipeE, ↓unwipe, ↓binD, ↓intBin, ↓cmpD, ↓eqD, ↓ordD, ↓ordI, ↓startE, ↓endsOf, ↓ioOf, ↓newsOf, ↓Sl.r, ↓itemsOf, ↓slcD, ↓revD, ↓b1D, ↓b2D, ↓isNoneD, ↓noRefR, ↓noRef, ↓noRefs, ite_self, ↓isTy, ↓List.getElem?_cons_zero, ↓List.getElem?_cons_succ, ↓List.getElem?_nil, ↓Option.join_some, ↓Option.join_none, ↓Option.isSome_some, ↓Option.isSome_none, ↓List.set_cons_zero, ↓List.set_cons_succ, ↓List.replicate, ↓List.length_cons, ↓List.length_nil, ↓List.isEmpty_cons, ↓List.isEmpty_nil, ↓List.all_cons, ↓List.all_nil, ↓List.filterMap_cons, ↓List.filterMap_nil, ↓List.contains_cons, ↓List.contains_nil, ↓Bool.and_true, ↓Bool.true_and, ↓Bool.and_false, ↓Bool.false_and, ↓Bool.not_true, ↓Bool.not_false, ↓if_true, ↓sh_int, ↓sh_bool, ↓sh_none, ↓eqv_ii, ↓eqv_bb, ↓eqv_ss, ↓brn_true, ↓brn_false, brn_true, brn_false, ↓List.any_cons, ↓List.any_nil, ↓if_false, ↓ite_true, ↓ite_false, ↓true_and, ↓and_true, ↓Bool.false_eq_true, ↓reduceCtorEq, ↓decide_true, ↓decide_false, ↓List.map_cons, ↓List.map_nil, ↓Tg.slots, ↓List.nodup_cons, ↓List.nodup_nil, ↓List.not_mem_nil, ↓not_false_eq_true, ↓forall_const, ↓true_implies, ↓bI, Nat.reduceAdd, Nat.reduceSub, Nat.reduceEqDiff, Int.reduceLT, Int.reduceLE, Nat.reduceLT, Nat.reduceLeDiff, Int.reduceNeg, Nat.reduceBEq, ↓BEq.rfl, ↓beq_self_eq_true, ↓Bool.or_false, ↓Bool.or_true])
/-! ### pairs, and rosters counted: the walks -/
def enc2 (q : Int × Int) : PyData := .tuple [.int q.1, .int q.2]
def prs (sel : Nat → Int → Bool) (ps : List (List Int)) (j : Nat) : List (Int × Int) := (List.range j).flatMap fun k => ((ps.getD k []).filter (sel k)).map fun x => ((k : Int), x)
theorem prs_succ (sel : Nat → Int → Bool) (ps : List (List Int)) (j : Nat) : prs sel ps (j + 1) = prs sel ps j ++ ((ps.getD j []).filter (sel j)).map fun x => ((j : Int), x) := by
  unfold prs
  rw [List.range_succ, List.flatMap_append, List.flatMap_singleton]
theorem prs_len {sel : Nat → Int → Bool} {ps : List (List Int)} (h : ∀ l ∈ ps, l.length ≤ 20) : ∀ j, (prs sel ps j).length ≤ j * 20
  | 0 => Nat.le_refl _
  | j + 1 => by
    have ih := prs_len (sel := sel) h j
    rw [prs_succ, List.length_append, List.length_map]
    have h1 := List.length_filter_le (sel j) (ps.getD j [])
    have h2 : (ps.getD j []).length ≤ 20 := by
      rw [List.getD_eq_getElem?_getD]
      cases hh : ps[j]? with
      | none => simp
      | some l => exact h l (List.mem_of_getElem? hh)
    omega
theorem prs_filter (sel : Nat → Int → Bool) (f : Int × Int → Bool) (ps : List (List Int)) : ∀ j, (prs sel ps j).filter f = prs (fun k x => sel k x && f ((k : Int), x)) ps j
  | 0 => rfl
  | j + 1 => by
    rw [prs_succ, prs_succ, List.filter_append, prs_filter sel f ps j, List.filter_map, List.filter_filter]
    congr 2
    exact List.filter_congr fun x _ => Bool.and_comm _ _
theorem prs_congr {sel sel' : Nat → Int → Bool} {ps : List (List Int)} : ∀ {j : Nat}, (∀ k, k < j → ∀ x ∈ ps.getD k [], sel k x = sel' k x) → prs sel ps j = prs sel' ps j
  | 0, _ => rfl
  | j + 1, h => by
    rw [prs_succ, prs_succ, prs_congr fun k hk => h k (by omega), List.filter_congr fun x hx => h j (by omega) x hx]
theorem prs_mem {sel : Nat → Int → Bool} {ps : List (List Int)} {j : Nat} {q : Int × Int} (h : q ∈ prs sel ps j) : ∃ k : Nat, k < j ∧ q.1 = k ∧ q.2 ∈ ps.getD k [] ∧ sel k q.2 = true := by
  obtain ⟨k, hk, hq⟩ := List.mem_flatMap.mp h
  obtain ⟨x, hx, rfl⟩ := List.mem_map.mp hq
  exact ⟨k, List.mem_range.mp hk, rfl, (List.mem_filter.mp hx).1, (List.mem_filter.mp hx).2⟩
def pairsOfSp : Spec := fun ds Q => ∃ n ps g, ds = [houseD n ps, intsD g] ∧ ps.length ≤ 20 ∧ (∀ l ∈ ps, l.length ≤ 20) ∧ Q (.own (.list ((prs (fun _ x => !g.contains x) ps ps.length).map enc2))) []
theorem pairs_of_ok (Φ : Tbl) : Impl Φ [false, false] 6 f_pairs_of pairsOfSp := by
  rintro ds Q ⟨n, ps, g, rfl, hps, hpl, k⟩ _
  unfold f_pairs_of
  have hh : houseD n ps = .tuple [.int n, .tuple (ps.map intsD)] := rfl
  walk_at "wps"
  rw [hh]
  refine stp_nT (n := 1) rfl ?_
  walk_at "wps"
  refine for_inv (fun i e => ∃ (y3 y4 y5 : Option Sl), e = [some (.val (.tuple [.int n, .tuple (ps.map intsD)])), some (.val (intsD g)), some (.own (.list ((prs (fun _ x => !g.contains x) ps i).map enc2))), y3, y4, y5]) ⟨_, _, _, rfl⟩ ?_ ?_
  · rintro i x e N hx ⟨y3, y4, y5, rfl⟩ next
    obtain ⟨d, rfl, hd⟩ := enum_some hx
    obtain ⟨l, rfl, hl⟩ := map_some hd
    have hi := (List.getElem?_eq_some_iff.mp hl).1
    have hgd : ps.getD i [] = l := by rw [List.getD_eq_getElem?_getD, hl]; rfl
    have hll := hpl l (List.mem_of_getElem? hl)
    have h1 := prs_len (sel := fun _ x => !g.contains x) hpl i
    have h2 := List.length_filter_le (fun x => !g.contains x) l
    unfold f_pairs_of_b1
    simp only [intsD]
    walk_at "wps"
    refine ⟨by rw [List.length_map]; show _ < 16777216; omega, lc_filter PyData.int (fun x => !g.contains x) (fun x => enc2 ((i : Int), x)) (fun x acc N2 hx2 next2 => ?_) ?_⟩
    · unfold f_pairs_of_c1 f_pairs_of_e1
      walk_at "wps"
      refine mem_ints ?_
      exact next2 _ rfl
    · walk_at "wps"
      have e1 : List.map enc2 (prs (fun _ x => !g.contains x) ps i) ++ List.map (fun x => enc2 ((i : Int), x)) (l.filter fun x => !g.contains x) = List.map enc2 (prs (fun _ x => !g.contains x) ps (i + 1)) := by
        rw [prs_succ, List.map_append, List.map_map, hgd]; rfl
      rw [e1]
      exact ⟨by rw [List.length_map, List.length_map]; show _ ≤ 16777216; omega, next _ ⟨_, _, _, rfl⟩⟩
  · rintro e ⟨y3, y4, y5, rfl⟩
    have hl : (enumL (ps.map intsD)).length = ps.length := by simp [enumL, pairs2, rangeL_length]
    rw [hl]
    walk_at "wps"
    exact k
def findWSp : Spec := fun ds Q => ∃ n ps g, ∃ p x : Int, ds = [houseD n ps, intsD g, .int p, .int x] ∧ n ≤ 20 ∧ ps.length ≤ 20 ∧ (∀ l ∈ ps, asc n l) ∧ 0 ≤ p ∧ p < ps.length ∧
  ((¬ ∃ t, Ro g (wpL ps p x) [] t) → Q (.val .none) []) ∧ (∀ t, Ro g (wpL ps p x) [] t → Q (.val (intsD t)) [])
/-- which pairs are possible, which are sure -/
def selP (ps : List (List Int)) (g : List Int) (k : Nat) (x : Int) : Bool := decide (0 < cI g x (cntF (ps.eraseIdx k) (g ++ [x])))
def selS (ps : List (List Int)) (g : List Int) (k : Nat) (x : Int) : Bool := decide (cI g x (cntF (ps.eraseIdx k) (g ++ [x])) = cntF ps g)
def possSp : Spec := fun ds Q => ∃ n ps g, ds = [houseD n ps, intsD g] ∧ n ≤ 20 ∧ ps.length ≤ 20 ∧ (∀ l ∈ ps, asc n l) ∧ g.length ≤ 500 ∧ Q (.own (.list ((prs (selP ps g) ps ps.length).map enc2))) []
def sureSp : Spec := fun ds Q => ∃ n ps g, ds = [houseD n ps, intsD g] ∧ n ≤ 20 ∧ ps.length ≤ 20 ∧ (∀ l ∈ ps, asc n l) ∧ (∃ t, Ro g ps [] t) ∧ Q (.own (.list ((prs (selS ps g) ps ps.length).map enc2))) []
def cntRSp : Spec := fun ds Q => ∃ n ps g, ds = [houseD n ps, intsD g] ∧ ps.length ≤ 6 ∧ (∀ l ∈ ps, l.length ≤ 10) ∧ g.length ≤ 500 ∧ Q (.val (.int (cntF ps g : Nat))) []
theorem count_rosters_ok (Φ : Tbl) (h : Φ "counted" = cntSp) : Impl Φ [false, false] 2 f_count_rosters cntRSp := by
  rintro ds Q ⟨n, ps, g, rfl, hps, hpl, hg, k⟩ _
  unfold f_count_rosters
  walk_at "wps"
  refine ⟨_, rfl, ?_⟩
  rw [h]
  refine ⟨n, ps, g, 0, rfl, Nat.zero_le _, hps, hpl, hg, fun _ => ?_⟩
  rw [List.drop_zero]
  walk_at "wps"
  exact k
def cntWSp : Spec := fun ds Q => ∃ n ps g, ∃ p x : Int, ds = [houseD n ps, intsD g, .int p, .int x] ∧ ps.length ≤ 6 ∧ (∀ l ∈ ps, l.length ≤ 10) ∧ g.length ≤ 400 ∧ 0 ≤ p ∧ p < ps.length ∧ Q (.val (.int (cI g x (cntF (ps.eraseIdx p.toNat) (g ++ [x])) : Nat))) []
end Co

set_option linter.all false
namespace Co
open PySem
/-! ### rosters listed in order (plain) -/
def rosF : List (List Int) → List Int → List (List Int)
  | [], _ => [[]]
  | l :: R, T => (l.filter fun x => !T.contains x).flatMap fun x => (rosF R (T ++ [x])).map (x :: ·)
theorem rosF_congr : ∀ (R : List (List Int)) {T T' : List Int}, (∀ x, x ∈ T ↔ x ∈ T') → rosF R T = rosF R T'
  | [], _, _, _ => rfl
  | l :: R, T, T', h => by
    have hc : ∀ x, T.contains x = T'.contains x := fun x => by
      rw [Bool.eq_iff_iff, List.contains_iff_mem, List.contains_iff_mem]; exact h x
    unfold rosF
    rw [List.filter_congr fun x _ => by rw [hc x]]
    congr 1
    funext x
    have e : rosF R (T ++ [x]) = rosF R (T' ++ [x]) := rosF_congr R fun y => by rw [List.mem_append, List.mem_append, h y]
    rw [e]
theorem rosF_cons (l : List Int) (R : List (List Int)) (T : List Int) : rosF (l :: R) T = (l.filter fun x => !T.contains x).flatMap fun x => (rosF R (T ++ [x])).map (x :: ·) := rfl
theorem rosF_sort (R : List (List Int)) (T : List Int) : rosF R (fsort T) = rosF R T := rosF_congr R fun _ => fsort_mem
theorem rosF_len : ∀ (R : List (List Int)) (T : List Int), (rosF R T).length = cntF R T
  | [], _ => rfl
  | l :: R, T => by
    unfold rosF cntF
    rw [List.length_flatMap]
    congr 1
    refine List.map_congr_left fun x _ => ?_
    rw [List.length_map, rosF_len R]
/-- one post more, for each that is begun -/
def evS (g : List Int) (fs : List (List Int)) (l : List Int) : List (List Int) := fs.flatMap fun s => (l.filter fun x => !s.contains x && !g.contains x).map fun x => s ++ [x]
theorem evS_fold (g : List Int) : ∀ (R fs : List (List Int)), R.foldl (evS g) fs = fs.flatMap fun s => (rosF R (g ++ s)).map (s ++ ·)
  | [], fs => by
    show fs = _
    unfold rosF
    simp
  | l :: R, fs => by
    rw [List.foldl_cons, evS_fold g R]
    unfold evS
    rw [List.flatMap_assoc]
    congr 1
    funext s
    rw [rosF_cons]
    have hf : (l.filter fun x => !s.contains x && !g.contains x) = l.filter fun x => !(g ++ s).contains x := List.filter_congr fun x _ => by
      rw [Bool.eq_iff_iff]
      simp [and_comm]
    rw [hf, List.flatMap_map, List.map_flatMap]
    congr 1
    funext x
    rw [List.map_map, List.append_assoc]
    refine List.map_congr_left fun t _ => ?_
    simp
theorem evS_all (ps : List (List Int)) (g : List Int) : ps.foldl (evS g) [[]] = rosF ps g := by
  rw [evS_fold]
  simp
theorem rosF_mem : ∀ {R : List (List Int)} {T t : List Int}, t ∈ rosF R T ↔ Ro T R [] t
  | [], T, t => by
    unfold rosF
    rw [List.mem_singleton]
    constructor
    · rintro rfl
      exact ⟨rfl, by simp, by simp⟩
    · intro h
      exact List.eq_nil_of_length_eq_zero h.len
  | l :: R, T, t => by
    unfold rosF
    rw [List.mem_flatMap]
    constructor
    · rintro ⟨x, hx, ht⟩
      obtain ⟨u, hu, rfl⟩ := List.mem_map.mp ht
      obtain ⟨h1, h2⟩ := List.mem_filter.mp hx
      exact ro_cons.mpr ⟨h1, by simpa using h2, rosF_mem.mp hu⟩
    · intro h
      cases t with
      | nil => have := h.len; simp at this
      | cons x t =>
        obtain ⟨h1, h2, h3⟩ := ro_cons.mp h
        exact ⟨x, List.mem_filter.mpr ⟨h1, by simpa using h2⟩, List.mem_map.mpr ⟨t, rosF_mem.mpr h3, rfl⟩⟩
/-- the blocks of some people, one after the other -/
def blk (R : List (List Int)) (T fl : List Int) : List (List Int) := fl.flatMap fun x => (rosF R (T ++ [x])).map (x :: ·)
theorem blk_in {R : List (List Int)} {T fl : List Int} {x : Int} {i : Nat} (h : i < cntF R (T ++ [x])) : (blk R T (x :: fl))[i]? = ((rosF R (T ++ [x]))[i]?).map (x :: ·) := by
  unfold blk
  rw [List.flatMap_cons, List.getElem?_append_left (by rw [List.length_map, rosF_len]; exact h), List.getElem?_map]
theorem blk_out {R : List (List Int)} {T fl : List Int} {x : Int} {i : Nat} (h : cntF R (T ++ [x]) ≤ i) : (blk R T (x :: fl))[i]? = (blk R T fl)[i - cntF R (T ++ [x])]? := by
  unfold blk
  rw [List.flatMap_cons, List.getElem?_append_right (by rw [List.length_map, rosF_len]; exact h), List.length_map, rosF_len]
/-- how many are before a roster -/
def idxF : List (List Int) → List Int → List Int → Nat
  | l :: R, T, x :: t => (((l.filter fun y => !T.contains y).filter fun y => decide (y < x)).map fun y => cntF R (T ++ [y])).sum + idxF R (T ++ [x]) t
  | _, _, _ => 0
theorem asc_split {x : Int} : ∀ {fl : List Int}, fl.Pairwise (· < ·) → x ∈ fl → ∃ b, fl = (fl.filter fun y => decide (y < x)) ++ x :: b
  | [], _, h => by simp at h
  | y :: fl, hp, h => by
    rw [List.pairwise_cons] at hp
    rcases List.mem_cons.mp h with rfl | h
    · refine ⟨fl, ?_⟩
      rw [List.filter_cons, if_neg (by simp), List.filter_eq_nil_iff.mpr fun z hz => by have := hp.1 z hz; simp; omega]
      rfl
    · obtain ⟨b, hb⟩ := asc_split hp.2 h
      refine ⟨b, ?_⟩
      rw [List.filter_cons, if_pos (by have := hp.1 x h; simpa using this), List.cons_append, ← hb]
theorem idxF_ok : ∀ {R : List (List Int)} {T t : List Int}, (∀ l ∈ R, l.Pairwise (· < ·)) → t ∈ rosF R T → (rosF R T)[idxF R T t]? = some t
  | [], T, t, _, h => by
    unfold rosF at h ⊢
    rw [List.mem_singleton] at h
    subst h
    rfl
  | l :: R, T, t, ha, h => by
    obtain ⟨x, hx, ht⟩ := List.mem_flatMap.mp (show t ∈ (l.filter fun x => !T.contains x).flatMap fun x => (rosF R (T ++ [x])).map (x :: ·) from h)
    obtain ⟨u, hu, rfl⟩ := List.mem_map.mp ht
    have ih := idxF_ok (fun l hl => ha l (List.mem_cons_of_mem _ hl)) hu
    have hfl : (l.filter fun x => !T.contains x).Pairwise (· < ·) := (ha l List.mem_cons_self).filter _
    obtain ⟨b, hb⟩ := asc_split hfl hx
    show (blk R T (l.filter fun x => !T.contains x))[_]? = _
    show (blk R T (l.filter fun x => !T.contains x))[(((l.filter fun y => !T.contains y).filter fun y => decide (y < x)).map fun y => cntF R (T ++ [y])).sum + idxF R (T ++ [x]) u]? = _
    generalize hA : ((l.filter fun y => !T.contains y).filter fun y => decide (y < x)) = A at hb ⊢
    rw [hb]
    have key : ∀ A : List Int, (blk R T (A ++ x :: b))[(A.map fun y => cntF R (T ++ [y])).sum + idxF R (T ++ [x]) u]? = some (x :: u) := by
      intro A
      induction A with
      | nil =>
        rw [List.map_nil, List.sum_nil, Nat.zero_add, List.nil_append, blk_in (by rw [← rosF_len]; exact (List.getElem?_eq_some_iff.mp ih).1), ih]; rfl
      | cons y A ihA =>
        rw [List.cons_append, List.map_cons, List.sum_cons, blk_out (by omega)]
        rw [show cntF R (T ++ [y]) + (A.map fun y => cntF R (T ++ [y])).sum + idxF R (T ++ [x]) u - cntF R (T ++ [y]) = (A.map fun y => cntF R (T ++ [y])).sum + idxF R (T ++ [x]) u by omega]
        exact ihA
    exact key A
theorem rosF_nodup : ∀ {R : List (List Int)} {T : List Int}, (∀ l ∈ R, l.Nodup) → (rosF R T).Nodup
  | [], T, _ => by unfold rosF; simp
  | l :: R, T, ha => by
    unfold rosF
    have hl := (ha l List.mem_cons_self).sublist (List.filter_sublist (p := fun x => !T.contains x))
    generalize (l.filter fun x => !T.contains x) = fl at hl ⊢
    induction fl with
    | nil => simp
    | cons x fl ih =>
      rw [List.nodup_cons] at hl
      rw [List.flatMap_cons, List.nodup_append]
      refine ⟨?_, ih hl.2, fun a h1 b h2 e => ?_⟩
      · have := rosF_nodup (R := R) (T := T ++ [x]) fun l hl => ha l (List.mem_cons_of_mem _ hl)
        exact List.Pairwise.map _ (fun a b h e => h (List.cons.inj e).2) this
      · subst e
        obtain ⟨u, _, rfl⟩ := List.mem_map.mp h1
        obtain ⟨y, hy, h3⟩ := List.mem_flatMap.mp h2
        obtain ⟨v, _, e⟩ := List.mem_map.mp h3
        injection e with e1 e2
        subst e1
        exact hl.1 hy
end Co

set_option linter.all false
namespace Co
open PySem
local macro_rules | `(tactic| walk_at "wps") => `(tactic| simp -dsimp only [↓wpS, ↓wpE, ↓wpEs, ↓wpEs', ↓wpCs, ↓wpI, ↓callW, ↓okArgs, ↓sigOk, ↓inouts, ↓lents, ↓peeks, ↓peek, ↓pk, ↓slot, ↓setOwn, ↓setC, ↓freeze, ↓isOwn, ↓isIo, ↓slC, ↓isLst, ↓asV, ↓asS, ↓asVs, ↓asSs, ↓isT, ↓R.still, ↓setMany, ↓bindT, ↓wipeE, ↓unwipe, ↓binD, ↓intBin, ↓cmpD, ↓eqD, ↓ordD, ↓ordI, ↓startE, ↓endsOf, ↓ioOf, ↓newsOf, ↓Sl.r, ↓itemsOf, ↓slcD, ↓revD, ↓b1D, ↓b2D, ↓isNoneD, ↓noRefR, ↓noRef, ↓noRefs, ite_self, ↓isTy, ↓List.getElem?_cons_zero, ↓List.getElem?_cons_succ, ↓List.getElem?_nil, ↓Option.join_some, ↓Option.join_none, ↓Option.isSome_some, ↓Option.isSome_none, ↓List.set_cons_zero, ↓List.set_cons_succ, ↓List.replicate, ↓List.length_cons, ↓List.length_nil, ↓List.isEmpty_cons, ↓List.isEmpty_nil, ↓List.all_cons, ↓List.all_nil, ↓List.filterMap_cons, ↓List.filterMap_nil, ↓List.contains_cons, ↓List.contains_nil, ↓Bool.and_true, ↓Bool.true_and, ↓Bool.and_false, ↓Bool.false_and, ↓Bool.not_true, ↓Bool.not_false, ↓if_true, ↓sh_int, ↓sh_bool, ↓sh_none, ↓eqv_ii, ↓eqv_bb, ↓eqv_ss, ↓brn_true, ↓brn_false, brn_true, brn_false, ↓List.any_cons, ↓List.any_nil, ↓if_false, ↓ite_true, ↓ite_false, ↓true_and, ↓and_true, ↓Bool.false_eq_true, ↓reduceCtorEq, ↓decide_true, ↓decide_false, ↓List.map_cons, ↓List.map_nil, ↓Tg.slots, ↓List.nodup_cons, ↓List.nodup_nil, ↓List.not_mem_nil, ↓not_false_eq_true, ↓forall_const, ↓true_implies, ↓bI, Nat.reduceAdd, Nat.reduceSub, Nat.reduceEqDiff, Int.reduceLT, Int.reduceLE, Nat.reduceLT, Nat.reduceLeDiff, Int.reduceNeg, Nat.reduceBEq, ↓BEq.rfl, ↓beq_self_eq_true, ↓Bool.or_false, ↓Bool.or_true])
/-! ### tidy houses (plain), and the walks of find_with, tidied -/
theorem ro_ins : ∀ {ps : List (List Int)} {p : Nat} {g u : List Int} {x : Int}, p < ps.length → x ∈ ps.getD p [] → x ∉ g → Ro (g ++ [x]) (ps.eraseIdx p) [] u → Ro g ps [] (u.take p ++ [x] ++ u.drop p)
  | [], p, g, u, x, hp, _, _, _ => absurd hp (by simp)
  | l :: R, 0, g, u, x, hp, hx, hg, r => by
    have e : u.take 0 ++ [x] ++ u.drop 0 = x :: u := by simp
    rw [e]
    exact ro_cons.mpr ⟨hx, hg, r⟩
  | l :: R, p + 1, g, [], x, hp, hx, hg, r => by
    have := r.len
    simp [List.eraseIdx] at this
  | l :: R, p + 1, g, y :: u, x, hp, hx, hg, r => by
    have hp' : p < R.length := by simpa using hp
    obtain ⟨h1, h2, h3⟩ := ro_cons.mp (show Ro (g ++ [x]) (l :: R.eraseIdx p) [] (y :: u) from r)
    rw [List.mem_append, List.mem_singleton, not_or] at h2
    have ih := ro_ins (g := g ++ [y]) (u := u) hp' (show x ∈ R.getD p [] from hx) (by rw [List.mem_append, List.mem_singleton, not_or]; exact ⟨hg, fun e => h2.2 e.symm⟩) (ro_anti (fun z hz => by
      simp only [List.mem_append, List.mem_singleton] at hz ⊢
      rcases hz with (hz | hz) | hz
      · exact .inl (.inl hz)
      · exact .inr hz
      · exact .inl (.inr hz)) h3)
    have e : (y :: u).take (p + 1) ++ [x] ++ (y :: u).drop (p + 1) = y :: (u.take p ++ [x] ++ u.drop p) := by simp
    rw [e]
    exact ro_cons.mpr ⟨h1, h2.1, ih⟩
theorem ro_del : ∀ {ps : List (List Int)} {p : Nat} {g t : List Int} {x : Int}, Ro g ps [] t → t[p]? = some x → Ro (g ++ [x]) (ps.eraseIdx p) [] (t.eraseIdx p)
  | [], p, g, t, x, r, h => by
    have := List.eq_nil_of_length_eq_zero r.len
    subst this
    simp at h
  | l :: R, p, g, [], x, r, h => by simp at h
  | l :: R, 0, g, y :: t, x, r, h => by
    have h : some y = some x := h
    cases h
    exact (ro_cons.mp r).2.2
  | l :: R, p + 1, g, y :: t, x, r, h => by
    have h : t[p]? = some x := h
    obtain ⟨h1, h2, h3⟩ := ro_cons.mp r
    have ih := ro_del (p := p) h3 h
    have hy : y ≠ x := fun e => (h3.ok p x h).2 (List.mem_append_right _ (List.mem_singleton.mpr e.symm))
    exact ro_cons.mpr ⟨h1, by rw [List.mem_append, List.mem_singleton, not_or]; exact ⟨h2, hy⟩, ro_anti (fun z hz => by
      simp only [List.mem_append, List.mem_singleton] at hz ⊢
      rcases hz with (hz | hz) | hz
      · exact .inl (.inl hz)
      · exact .inr hz
      · exact .inl (.inr hz)) ih⟩
theorem ins_get {u : List Int} {p : Nat} {x : Int} (h : p ≤ u.length) : (u.take p ++ [x] ++ u.drop p)[p]? = some x := by
  rw [List.append_assoc, List.getElem?_append_right (by rw [List.length_take]; omega), List.length_take]
  have : p - min p u.length = 0 := by omega
  rw [this]; rfl
/-- the pairs of any rosters -/
def tidyL (ps : List (List Int)) : List (List Int) := (List.range ps.length).map fun k => (ps.getD k []).filter fun x => decide (0 < cntF (ps.eraseIdx k) [x])
theorem tidy_len (ps : List (List Int)) : (tidyL ps).length = ps.length := by simp [tidyL]
theorem tidy_get (ps : List (List Int)) (k : Nat) : (tidyL ps).getD k [] = (ps.getD k []).filter fun x => decide (0 < cntF (ps.eraseIdx k) [x]) := by
  unfold tidyL
  rw [List.getD_eq_getElem?_getD, List.getElem?_map]
  by_cases h : k < ps.length
  · rw [List.getElem?_range h]; rfl
  · rw [List.getElem?_eq_none (by simpa using h), List.getD_eq_getElem?_getD, List.getElem?_eq_none (by omega)]; rfl
theorem tidy_ro {ps : List (List Int)} {g t : List Int} : Ro g (tidyL ps) [] t ↔ Ro g ps [] t := by
  constructor
  · intro r
    refine ⟨r.len.trans (tidy_len ps), fun i x e => ?_, r.nd⟩
    have h := r.ok i x e
    rw [tidy_get] at h
    exact ⟨(List.mem_filter.mp h.1).1, h.2⟩
  · intro r
    refine ⟨r.len.trans (tidy_len ps).symm, fun i x e => ?_, r.nd⟩
    have h := r.ok i x e
    rw [tidy_get]
    exact ⟨List.mem_filter.mpr ⟨h.1, decide_eq_true (cnt_pos.mpr ⟨_, ro_del (g := []) (ro_anti (by simp) r) e⟩)⟩, h.2⟩
theorem td_range {α : Type} (l : List α) (d : α) : (List.range l.length).map (fun k => l.getD k d) = l := by
  apply List.ext_getElem
  · simp
  · intro i h1 h2
    simp [List.getD_eq_getElem?_getD, h2]
theorem pair_ro {ps : List (List Int)} {k : Nat} {x : Int} (hk : k < ps.length) (hx : x ∈ ps.getD k []) (h : ∃ u, Ro [x] (ps.eraseIdx k) [] u) : ∃ t, Ro [] ps [] t ∧ t[k]? = some x := by
  obtain ⟨u, r⟩ := h
  refine ⟨_, ro_ins (g := []) hk hx (by simp) r, ins_get ?_⟩
  have := r.len
  rw [List.length_eraseIdx, if_pos hk] at this
  omega
theorem tidy_idem (ps : List (List Int)) : tidyL (tidyL ps) = tidyL ps := by
  have h : tidyL (tidyL ps) = (List.range (tidyL ps).length).map fun k => (tidyL ps).getD k [] := by
    show (List.range (tidyL ps).length).map _ = _
    refine List.map_congr_left fun k hk => List.filter_eq_self.mpr fun x hx => decide_eq_true ?_
    rw [List.mem_range, tidy_len] at hk
    rw [tidy_get] at hx
    obtain ⟨h1, h2⟩ := List.mem_filter.mp hx
    obtain ⟨t, r, e⟩ := pair_ro hk h1 (cnt_pos.mp (by simpa using h2))
    exact cnt_pos.mpr ⟨_, ro_del (g := []) (tidy_ro.mpr r) e⟩
  rw [h, td_range]
theorem tidy_cnt {ps : List (List Int)} (hn : ∀ l ∈ ps, l.Nodup) (g : List Int) : cntF (tidyL ps) g = cntF ps g := by
  rw [← rosF_len, ← rosF_len]
  refine ((List.perm_ext_iff_of_nodup (rosF_nodup fun l hl => ?_) (rosF_nodup hn)).mpr fun t => ?_).length_eq
  · obtain ⟨k, hk, rfl⟩ := List.mem_map.mp hl
    have hm : ps.getD k [] ∈ ps := by
      rw [List.getD_eq_getElem?_getD, List.getElem?_eq_getElem (List.mem_range.mp hk)]
      exact List.getElem_mem _
    exact (hn _ hm).sublist List.filter_sublist
  · rw [rosF_mem, rosF_mem]
    exact tidy_ro
theorem tidy_asc {n : Nat} {ps : List (List Int)} (h : ∀ l ∈ ps, asc n l) : ∀ l ∈ tidyL ps, asc n l := fun l hl => by
  obtain ⟨k, hk, rfl⟩ := List.mem_map.mp hl
  have hm : ps.getD k [] ∈ ps := by
    rw [List.getD_eq_getElem?_getD, List.getElem?_eq_getElem (List.mem_range.mp hk)]
    exact List.getElem_mem _
  exact ⟨(h _ hm).1.filter _, fun x hx => (h _ hm).2 x (List.mem_filter.mp hx).1⟩
/-! ### the walks -/
def findWithSp : Spec := fun ds Q => ∃ n ps g, ∃ p : Nat, ∃ x : Int, ds = [houseD n ps, intsD g, .int p, .int x] ∧ n ≤ 20 ∧ ps.length ≤ 20 ∧ (∀ l ∈ ps, asc n l) ∧ g.length ≤ 500 ∧ p < ps.length ∧
  ((¬ ∃ u, Ro (g ++ [x]) (ps.eraseIdx p) [] u) → Q (.val .none) []) ∧ (∀ u, Ro (g ++ [x]) (ps.eraseIdx p) [] u → Q (.val (intsD (u.take p ++ [x] ++ u.drop p))) [])
theorem find_with_ok (Φ : Tbl) (h : Φ "find_roster" = findSp) (h2 : Φ "without_post" = withoutPostSp) (h3 : Φ "with_person" = withPersonSp) : Impl Φ [false, false, false, false] 5 f_find_with findWithSp := by
  rintro ds Q ⟨n, ps, g, p, x, rfl, hn, hps, hasc, hg, hp, k1, k2⟩ _
  unfold f_find_with
  have he := er_asc (k := p) hasc
  have hel : (ps.eraseIdx p).length + 1 = ps.length := by rw [List.length_eraseIdx, if_pos hp]; omega
  walk_at "wps"
  refine ⟨_, rfl, ?_⟩
  rw [h2]
  refine ⟨n, ps, (p : Int), rfl, hps, by omega, by omega, fun _ => ?_⟩
  rw [if_pos (by rw [nrH]; rfl), Int.toNat_natCast]
  walk_at "wps"
  refine ⟨_, rfl, ?_⟩
  rw [h3]
  refine ⟨g, x, rfl, by omega, fun _ => ?_⟩
  rw [if_pos (by rw [nrI]; rfl)]
  walk_at "wps"
  refine ⟨_, rfl, ?_⟩
  rw [h]
  refine ⟨n, _, _, rfl, by omega, fun l hl => Nat.le_trans (asc_len (he l hl)) (by omega), fun F _ M hf _ => ?_, fun w _ T _ => ?_⟩
  · obtain ⟨rs, rfl⟩ := full_some M hf
    have r : Ro (g ++ [x]) (ps.eraseIdx p) [] rs := ro_anti (fun y hy => fsort_mem.mpr hy) (ro_of_mt M)
    have e : ((rs.map some).map optD) = rs.map .int := by rw [List.map_map]; rfl
    have hrl := r.len
    have q := k2 rs r
    rw [e]
    walk_at "wps"
    rw [cut_take (by omega) (by rw [List.length_map]; omega), cut_drop (by omega) (by rw [List.length_map]; omega), Int.toNat_natCast]
    have e2 : (rs.map PyData.int).take p ++ [PyData.int x] ++ (rs.map PyData.int).drop p = (rs.take p ++ [x] ++ rs.drop p).map .int := by simp
    rw [e2]
    refine ⟨?_, ?_, q⟩ <;> (simp only [List.length_append, List.length_map, List.length_take, List.length_drop, List.length_cons, List.length_nil]; show _ ≤ 16777216; omega)
  · have sh := upI_short he T
    walk_at "wps"
    refine k1 fun ⟨t, r⟩ => ?_
    have := hall_easy he (ro_anti (fun y hy => fsort_mem.mp hy) r) (sh.1.imp fun h => by omega) sh.2.1
    have := sh.2.2.2
    omega
def tidiedSp : Spec := fun ds Q => ∃ n ps, ds = [houseD n ps] ∧ n ≤ 20 ∧ ps.length ≤ 20 ∧ (∀ l ∈ ps, asc n l) ∧ Q (.val (houseD n (tidyL ps))) []
def selW (ps : List (List Int)) (q : Int × Int) : Bool := decide (0 < cntF (ps.eraseIdx q.1.toNat) [q.2])
def prsA (ps : List (List Int)) : List (Int × Int) := prs (fun _ x => !([] : List Int).contains x) ps ps.length
theorem prsA_mem {ps : List (List Int)} {q : Int × Int} (h : q ∈ prsA ps) : ∃ k : Nat, k < ps.length ∧ q.1 = k ∧ q.2 ∈ ps.getD k [] := by
  obtain ⟨k, h1, h2, h3, _⟩ := prs_mem h
  exact ⟨k, h1, h2, h3⟩
theorem prs_post (ps : List (List Int)) (f : Int × Int → Bool) (k : Nat) : ∀ j, tdA f (prs (fun _ x => !([] : List Int).contains x) ps j) k = if k < j then (ps.getD k []).filter fun x => f ((k : Int), x) else []
  | 0 => rfl
  | j + 1 => by
    have e0 : ((ps.getD j []).filter fun x => !([] : List Int).contains x) = ps.getD j [] := List.filter_eq_self.mpr fun x _ => by simp
    have ih := prs_post ps f k j
    unfold tdA at ih ⊢
    rw [prs_succ, List.filter_append, List.map_append, ih, e0, List.filter_map, List.map_map]
    by_cases h1 : k < j
    · rw [if_pos h1, if_pos (by omega)]
      have : ((ps.getD j []).filter ((fun q : Int × Int => decide (q.1 = (k : Int)) && f q) ∘ fun x => ((j : Int), x))) = [] := List.filter_eq_nil_iff.mpr fun x _ => by
        have : ¬ (j : Int) = k := by omega
        simp [this]
      rw [this]; simp
    · by_cases h2 : k = j
      · subst h2
        rw [if_neg (by omega), if_pos (by omega), List.nil_append]
        have : ((ps.getD k []).filter ((fun q : Int × Int => decide (q.1 = (k : Int)) && f q) ∘ fun x => ((k : Int), x))) = (ps.getD k []).filter fun x => f ((k : Int), x) := List.filter_congr fun x _ => by simp
        rw [this]
        simp [Function.comp_def]
      · rw [if_neg h1, if_neg (by omega)]
        have : ((ps.getD j []).filter ((fun q : Int × Int => decide (q.1 = (k : Int)) && f q) ∘ fun x => ((j : Int), x))) = [] := List.filter_eq_nil_iff.mpr fun x _ => by
          have : ¬ (j : Int) = k := by omega
          simp [this]
        rw [this]; rfl
theorem tidy_tdL (ps : List (List Int)) : tdL (selW ps) (prsA ps) ps.length = tidyL ps := by
  unfold tdL tidyL
  refine List.map_congr_left fun k hk => ?_
  unfold prsA
  rw [prs_post, if_pos (List.mem_range.mp hk)]
  rfl
theorem nr_enc2 (P : List (Int × Int)) : noRefR (.own (.list (P.map enc2))) = true := noRefs_of fun y hy => by
  obtain ⟨q, _, rfl⟩ := List.mem_map.mp hy
  rfl
theorem tidied_ok (Φ : Tbl) (h : Φ "pairs_of" = pairsOfSp) (h2 : Φ "find_with" = findWithSp) : ∀ ds Q, tidiedSp ds Q → tdPre Φ ds Q := by
  rintro ds Q ⟨n, ps, rfl, hn, hps, hasc, k⟩
  have hpl : ∀ l ∈ ps, l.length ≤ 20 := fun l hl => Nat.le_trans (asc_len (hasc l hl)) hn
  have h1 := prs_len (sel := fun _ x => !([] : List Int).contains x) hpl ps.length
  refine ⟨n, ps, prsA ps, selW ps, rfl, by omega, by unfold prsA; omega, fun q hq => ?_, ?_, fun q hq => ?_, ?_⟩
  · obtain ⟨j, a, b, _⟩ := prsA_mem hq
    exact ⟨j, a, b⟩
  · unfold tdP
    walk_at "wps"
    refine ⟨_, rfl, ?_⟩
    rw [h]
    refine ⟨n, ps, [], rfl, hps, hpl, fun _ => ?_⟩
    rw [if_pos (by rw [nr_enc2]; rfl)]
    walk_at "wps"
    rfl
  · obtain ⟨j, hj, e1, hx⟩ := prsA_mem hq
    obtain ⟨p, x⟩ := q
    have e1 : p = (j : Int) := e1
    subst e1
    unfold tdC
    walk_at "wps"
    refine ⟨_, rfl, ?_⟩
    rw [h2]
    refine ⟨n, ps, [], j, x, rfl, hn, hps, hasc, by simp, hj, fun hno _ => ?_, fun u r _ => ?_⟩
    · walk_at "wps"
      unfold selW
      rw [Int.toNat_natCast]
      exact (decide_eq_false fun hc => hno (cnt_pos.mp hc)).symm
    · simp only [intsD]
      walk_at "wps"
      unfold selW
      rw [Int.toNat_natCast]
      exact (decide_eq_true (cnt_pos.mpr ⟨u, r⟩)).symm
  · rw [tidy_tdL]
    exact k
end Co

set_option linter.all false
namespace Co
open PySem
local macro_rules | `(tactic| walk_at "wps") => `(tactic| simp -dsimp only [↓wpS, ↓wpE, ↓wpEs, ↓wpEs', ↓wpCs, ↓wpI, ↓callW, ↓okArgs, ↓sigOk, ↓inouts, ↓lents, ↓peeks, ↓peek, ↓pk, ↓slot, ↓setOwn, ↓setC, ↓freeze, ↓isOwn, ↓isIo, ↓slC, ↓isLst, ↓asV, ↓asS, ↓asVs, ↓asSs, ↓isT, ↓R.still, ↓setMany, ↓bindT, ↓wipeE, ↓unwipe, ↓binD, ↓intBin, ↓cmpD, ↓eqD, ↓ordD, ↓ordI, ↓startE, ↓endsOf, ↓ioOf, ↓newsOf, ↓Sl.r, ↓itemsOf, ↓slcD, ↓revD, ↓b1D, ↓b2D, ↓isNoneD, ↓noRefR, ↓noRef, ↓noRefs, ite_self, ↓isTy, ↓List.getElem?_cons_zero, ↓List.getElem?_cons_succ, ↓List.getElem?_nil, ↓Option.join_some, ↓Option.join_none, ↓Option.isSome_some, ↓Option.isSome_none, ↓List.set_cons_zero, ↓List.set_cons_succ, ↓List.replicate, ↓List.length_cons, ↓List.length_nil, ↓List.isEmpty_cons, ↓List.isEmpty_nil, ↓List.all_cons, ↓List.all_nil, ↓List.filterMap_cons, ↓List.filterMap_nil, ↓List.contains_cons, ↓List.contains_nil, ↓Bool.and_true, ↓Bool.true_and, ↓Bool.and_false, ↓Bool.false_and, ↓Bool.not_true, ↓Bool.not_false, ↓if_true, ↓sh_int, ↓sh_bool, ↓sh_none, ↓eqv_ii, ↓eqv_bb, ↓eqv_ss, ↓brn_true, ↓brn_false, brn_true, brn_false, ↓List.any_cons, ↓List.any_nil, ↓if_false, ↓ite_true, ↓ite_false, ↓true_and, ↓and_true, ↓Bool.false_eq_true, ↓reduceCtorEq, ↓decide_true, ↓decide_false, ↓List.map_cons, ↓List.map_nil, ↓Tg.slots, ↓List.nodup_cons, ↓List.nodup_nil, ↓List.not_mem_nil, ↓not_false_eq_true, ↓forall_const, ↓true_implies, ↓bI, Nat.reduceAdd, Nat.reduceSub, Nat.reduceEqDiff, Int.reduceLT, Int.reduceLE, Nat.reduceLT, Nat.reduceLeDiff, Int.reduceNeg, Nat.reduceBEq, ↓BEq.rfl, ↓beq_self_eq_true, ↓Bool.or_false, ↓Bool.or_true])
/-! ### houses compared: the walks -/
def onlySp : Spec := fun ds Q => ∃ n m ps qs, ds = [houseD n ps, houseD m qs] ∧ n ≤ 20 ∧ ps.length ≤ 20 ∧ qs.length = ps.length ∧ (∀ l ∈ ps, asc n l) ∧ (∀ l ∈ qs, l.length ≤ 20) ∧
  (∀ t, Ro [] ps [] t → ¬ Ro [] qs [] t → Q (.val (intsD t)) []) ∧ ((∀ t, Ro [] ps [] t → Ro [] qs [] t) → Q (.val .none) [])
theorem find_only_ok (Φ : Tbl) (h : Φ "pairs_of" = pairsOfSp) (h2 : Φ "find_with" = findWithSp) : Impl Φ [false, false] 5 f_find_only onlySp := by
  rintro ds Q ⟨n, m, ps, qs, rfl, hn, hps, hqs, hasc, hql, k1, k2⟩ _
  unfold f_find_only
  have hh : houseD m qs = .tuple [.int m, .tuple (qs.map intsD)] := rfl
  have hpl : ∀ l ∈ ps, l.length ≤ 20 := fun l hl => Nat.le_trans (asc_len (hasc l hl)) hn
  walk_at "wps"
  refine ⟨_, rfl, ?_⟩
  rw [h]
  refine ⟨n, ps, [], rfl, hps, hpl, fun _ => ?_⟩
  rw [if_pos (by rw [nr_enc2]; rfl)]
  walk_at "wps"
  refine for_inv (fun i e => ∃ (y2 y3 y4 : Option Sl), e = [some (.val (houseD n ps)), some (.val (houseD m qs)), y2, y3, y4] ∧ ∀ q ∈ (prsA ps).take i, q.2 ∉ qs.getD q.1.toNat [] → ¬ ∃ u, Ro ([] ++ [q.2]) (ps.eraseIdx q.1.toNat) [] u) ⟨_, _, _, rfl, by simp⟩ ?_ ?_
  · rintro i x e N hx ⟨y2, y3, y4, rfl, hi⟩ next
    obtain ⟨q, rfl, hq⟩ := map_some hx
    have hq : (prsA ps)[i]? = some q := hq
    have htk : (prsA ps).take (i + 1) = (prsA ps).take i ++ [q] := by rw [List.take_add_one, hq]; rfl
    obtain ⟨j, hj, e1, hx⟩ := prsA_mem (List.mem_of_getElem? hq)
    obtain ⟨p, x⟩ := q
    have e1 : p = (j : Int) := e1
    subst e1
    have hx : x ∈ ps.getD j [] := hx
    have hqm : qs.getD j [] ∈ qs := by
      rw [List.getD_eq_getElem?_getD, List.getElem?_eq_getElem (by omega)]
      exact List.getElem_mem _
    have done : ∀ (y2 y3 y4 : Option Sl), (x ∉ qs.getD j [] → ¬ ∃ u, Ro ([] ++ [x]) (ps.eraseIdx j) [] u) → N [some (.val (houseD n ps)), some (.val (houseD m qs)), y2, y3, y4] := fun y2 y3 y4 hd =>
      next _ ⟨y2, y3, y4, rfl, fun q hq => by
        rw [htk] at hq
        rcases List.mem_append.mp hq with hq | hq
        · exact hi q hq
        · rw [List.mem_singleton] at hq
          subst hq
          exact hd⟩
    unfold f_find_only_b1
    simp only [enc2]
    walk_at "wps"
    rw [hh]
    refine stp_nT (n := 1) rfl ?_
    walk_at "wps"
    refine idx_ps (Φ := Φ) (p := (j : Int)) (by omega) (by omega) ?_
    rw [Int.toNat_natCast]
    simp only [intsD]
    walk_at "wps"
    refine mem_ints ?_
    rw [← hh]
    refine brn_of (fun hb => ?_) (fun hb => ?_)
    · have hb' : x ∉ qs.getD j [] := by simpa using hb
      walk_at "wps"
      refine ⟨_, rfl, ?_⟩
      rw [h2]
      refine ⟨n, ps, [], j, x, rfl, hn, hps, hasc, by simp, hj, fun hno _ => ?_, fun u r _ => ?_⟩
      · walk_at "wps"
        exact done _ _ _ fun _ => hno
      · simp only [intsD]
        walk_at "wps"
        refine k1 _ (ro_ins (g := []) hj hx (by simp) r) fun r2 => ?_
        have hul : j ≤ u.length := by
          have := r.len
          rw [List.length_eraseIdx, if_pos hj] at this
          omega
        exact hb' (r2.ok j x (ins_get hul)).1
    · have hb' : x ∈ qs.getD j [] := by simpa using hb
      walk_at "wps"
      exact done _ _ _ fun q => absurd hb' q
  · rintro e ⟨y2, y3, y4, rfl, hi⟩
    rw [List.length_map] at hi
    walk_at "wps"
    refine k2 fun t r => ⟨r.len.trans hqs.symm, fun i x hx => ⟨?_, by simp⟩, r.nd⟩
    refine Classical.byContradiction fun hno => ?_
    have hok := (r.ok i x hx).1
    have hil : i < ps.length := by rw [← r.len]; exact (List.getElem?_eq_some_iff.mp hx).1
    have hmem : ((i : Int), x) ∈ prsA ps := List.mem_flatMap.mpr ⟨i, List.mem_range.mpr hil, List.mem_map.mpr ⟨x, List.mem_filter.mpr ⟨hok, by simp⟩, rfl⟩⟩
    refine hi ((i : Int), x) (show _ ∈ List.take (prsA ps).length (prsA ps) by rw [List.take_length]; exact hmem) (by rw [Int.toNat_natCast]; exact hno) ?_
    rw [Int.toNat_natCast]
    exact ⟨_, ro_del r hx⟩
/-- nobody's going is worse for the one -/
def noWorse (n : Nat) (ps qs : List (List Int)) : Prop := ∀ s : List Int, s.Sublist (rng n) → (∃ t, Ro s qs [] t) → ∃ t, Ro s ps [] t
def worseSp : Spec := fun ds Q => ∃ n ps qs, ds = [houseD n ps, houseD n qs] ∧ n ≤ 10 ∧ ps.length ≤ 20 ∧ qs.length ≤ 20 ∧ (∀ l ∈ ps, asc n l) ∧ (∀ l ∈ qs, asc n l) ∧
  (∀ s : List Int, s.Sublist (rng n) → (¬ ∃ t, Ro s ps [] t) → (∃ t, Ro s qs [] t) → Q (.val (intsD s)) []) ∧ (noWorse n ps qs → Q (.val .none) [])
theorem nr_rangeL (n : Nat) : noRefR (.own (.list ((rng n).map .int))) = true := noRefs_of fun x hx => by
  obtain ⟨i, _, rfl⟩ := List.mem_map.mp hx
  rfl
theorem find_worse_ok (Φ : Tbl) (h : Φ "groups_of" = groupsSp) (h2 : Φ "find_roster" = findSp) : Impl Φ [false, false] 3 f_find_worse worseSp := by
  rintro ds Q ⟨n, ps, qs, rfl, hn, hps, hqs, ha, hb, k1, k2⟩ _
  unfold f_find_worse
  have hh : houseD n ps = .tuple [.int n, .tuple (ps.map intsD)] := rfl
  have hpl : ∀ l ∈ ps, l.length ≤ 20 := fun l hl => Nat.le_trans (asc_len (ha l hl)) (by omega)
  have hql : ∀ l ∈ qs, l.length ≤ 20 := fun l hl => Nat.le_trans (asc_len (hb l hl)) (by omega)
  have hrl : (rng n).length = n := rng_len n
  have hgl := grpL_len (l := rng n) (by omega)
  walk_at "wps"
  rw [hh]
  refine stp_nT (n := 0) rfl ?_
  walk_at "wps"
  rw [Int.toNat_natCast, rangeL_eq]
  refine ⟨by omega, by omega, by show _ ≤ 16777216; omega, _, rfl, ?_⟩
  rw [h]
  refine ⟨rng n, rfl, by omega, fun _ => ?_⟩
  rw [if_pos (by rw [show noRefR (.own (.list ((grpL (rng n)).map intsD))) = true from noRefs_of fun x hx => by
    obtain ⟨l, _, rfl⟩ := List.mem_map.mp hx
    exact noRef_intsD l]; rfl)]
  walk_at "wps"
  rw [← hh]
  refine for_inv (fun i e => ∃ (y2 : Option Sl), e = [some (.val (houseD n ps)), some (.val (houseD n qs)), y2] ∧ ∀ s ∈ (grpL (rng n)).take i, (∃ t, Ro s qs [] t) → ∃ t, Ro s ps [] t) ⟨_, rfl, by simp⟩ ?_ ?_
  · rintro i x e N hx ⟨y2, rfl, hi⟩ next
    obtain ⟨s, rfl, hs⟩ := map_some hx
    have htk : (grpL (rng n)).take (i + 1) = (grpL (rng n)).take i ++ [s] := by rw [List.take_add_one, hs]; rfl
    have hsub := grpL_mem.mp (List.mem_of_getElem? hs)
    have done : ∀ (y2 : Option Sl), ((∃ t, Ro s qs [] t) → ∃ t, Ro s ps [] t) → N [some (.val (houseD n ps)), some (.val (houseD n qs)), y2] := fun y2 hd =>
      next _ ⟨y2, rfl, fun q hq => by
        rw [htk] at hq
        rcases List.mem_append.mp hq with hq | hq
        · exact hi q hq
        · rw [List.mem_singleton] at hq
          subst hq
          exact hd⟩
    have rt : ∀ {rs : List PyData} {w : List Nat} {ps : List (List Int)}, (∀ l ∈ ps, asc n l) → tooFew ps s w → ¬ ∃ t, Ro s ps [] t := fun {rs w ps} ha T ⟨t, r⟩ => by
      have sh := upI_short ha T
      have := hall_easy ha r (sh.1.imp fun h => by omega) sh.2.1
      have := sh.2.2.2
      omega
    unfold f_find_worse_b1
    walk_at "wps"
    refine ⟨_, rfl, ?_⟩
    rw [h2]
    refine ⟨n, ps, s, rfl, hps, hpl, fun F _ M hf _ => ?_, fun w _ T _ => ?_⟩
    · obtain ⟨rs, rfl⟩ := full_some M hf
      have r := ro_of_mt M
      walk_at "wps"
      exact done _ fun _ => ⟨rs, r⟩
    · have hno := rt (rs := []) ha T
      walk_at "wps"
      refine ⟨_, rfl, ?_⟩
      rw [h2]
      refine ⟨n, qs, s, rfl, hqs, hql, fun F _ M hf _ => ?_, fun w2 _ T2 _ => ?_⟩
      · obtain ⟨rs, rfl⟩ := full_some M hf
        have r := ro_of_mt M
        walk_at "wps"
        exact k1 s hsub hno ⟨rs, r⟩
      · walk_at "wps"
        exact done _ fun q => absurd q (rt (rs := []) hb T2)
  · rintro e ⟨y2, rfl, hi⟩
    rw [List.length_map, List.take_length] at hi
    walk_at "wps"
    exact k2 fun s hs => hi s (grpL_mem.mpr hs)
def bearsSp : Spec := fun ds Q => ∃ n ps qs, ds = [houseD n ps, houseD n qs] ∧ n ≤ 10 ∧ ps.length ≤ 20 ∧ qs.length ≤ 20 ∧ (∀ l ∈ ps, asc n l) ∧ (∀ l ∈ qs, asc n l) ∧
  ∀ b : Bool, (b = true ↔ noWorse n ps qs) → Q (.val (.bool b)) []
theorem bears_ok (Φ : Tbl) (h : Φ "find_worse" = worseSp) : Impl Φ [false, false] 2 f_bears_as_much bearsSp := by
  rintro ds Q ⟨n, ps, qs, rfl, hn, hps, hqs, ha, hb, k⟩ _
  unfold f_bears_as_much
  walk_at "wps"
  refine ⟨_, rfl, ?_⟩
  rw [h]
  refine ⟨n, ps, qs, rfl, hn, hps, hqs, ha, hb, fun s hs h1 h2 _ => ?_, fun hw _ => ?_⟩
  · simp only [intsD]
    walk_at "wps"
    exact k false ⟨(fun q => Bool.noConfusion q), fun q => absurd (q s hs h2) h1⟩
  · walk_at "wps"
    exact k true ⟨fun _ => hw, fun _ => rfl⟩
end Co

set_option linter.all false
namespace Co
open PySem
local macro_rules | `(tactic| walk_at "wps") => `(tactic| simp -dsimp only [↓wpS, ↓wpE, ↓wpEs, ↓wpEs', ↓wpCs, ↓wpI, ↓callW, ↓okArgs, ↓sigOk, ↓inouts, ↓lents, ↓peeks, ↓peek, ↓pk, ↓slot, ↓setOwn, ↓setC, ↓freeze, ↓isOwn, ↓isIo, ↓slC, ↓isLst, ↓asV, ↓asS, ↓asVs, ↓asSs, ↓isT, ↓R.still, ↓setMany, ↓bindT, ↓wipeE, ↓unwipe, ↓binD, ↓intBin, ↓cmpD, ↓eqD, ↓ordD, ↓ordI, ↓startE, ↓endsOf, ↓ioOf, ↓newsOf, ↓Sl.r, ↓itemsOf, ↓slcD, ↓revD, ↓b1D, ↓b2D, ↓isNoneD, ↓noRefR, ↓noRef, ↓noRefs, ite_self, ↓isTy, ↓List.getElem?_cons_zero, ↓List.getElem?_cons_succ, ↓List.getElem?_nil, ↓Option.join_some, ↓Option.join_none, ↓Option.isSome_some, ↓Option.isSome_none, ↓List.set_cons_zero, ↓List.set_cons_succ, ↓List.replicate, ↓List.length_cons, ↓List.length_nil, ↓List.isEmpty_cons, ↓List.isEmpty_nil, ↓List.all_cons, ↓List.all_nil, ↓List.filterMap_cons, ↓List.filterMap_nil, ↓List.contains_cons, ↓List.contains_nil, ↓Bool.and_true, ↓Bool.true_and, ↓Bool.and_false, ↓Bool.false_and, ↓Bool.not_true, ↓Bool.not_false, ↓if_true, ↓sh_int, ↓sh_bool, ↓sh_none, ↓eqv_ii, ↓eqv_bb, ↓eqv_ss, ↓brn_true, ↓brn_false, brn_true, brn_false, ↓List.any_cons, ↓List.any_nil, ↓if_false, ↓ite_true, ↓ite_false, ↓true_and, ↓and_true, ↓Bool.false_eq_true, ↓reduceCtorEq, ↓decide_true, ↓decide_false, ↓List.map_cons, ↓List.map_nil, ↓Tg.slots, ↓List.nodup_cons, ↓List.nodup_nil, ↓List.not_mem_nil, ↓not_false_eq_true, ↓forall_const, ↓true_implies, ↓bI, Nat.reduceAdd, Nat.reduceSub, Nat.reduceEqDiff, Int.reduceLT, Int.reduceLE, Nat.reduceLT, Nat.reduceLeDiff, Int.reduceNeg, Nat.reduceBEq, ↓BEq.rfl, ↓beq_self_eq_true, ↓Bool.or_false, ↓Bool.or_true])
theorem wps_t2 {Φ : Tbl} {a b r : S} {env : Env} {D : Ends} (I : Env → Prop) (h1 : ∀ D' : Ends, (∀ e, I e → D'.nx e) → wpS Φ (.seq a b) env D') (h2 : ∀ e, I e → wpS Φ r e D) : wpS Φ (.seq a (.seq b r)) env D :=
  h1 { D with nx := fun e => wpS Φ r e D } h2
theorem wps_t1 {Φ : Tbl} {a r : S} {env : Env} {D : Ends} (I : Env → Prop) (h1 : ∀ D' : Ends, (∀ e, I e → D'.nx e) → wpS Φ a env D') (h2 : ∀ e, I e → wpS Φ r e D) : wpS Φ (.seq a r) env D :=
  h1 { D with nx := fun e => wpS Φ r e D } h2
theorem wps_forG {Φ : Tbl} {tg : Tg} {it : It} {b : S} {env : Env} {D : Ends} (h : ∀ P : List PyData → Env → Prop, (∀ items e, forGo (bindT tg) (wpS Φ b) items e D → P items e) → wpI Φ it env P) : wpS Φ (.for tg it b) env D := by
  unfold wpS
  exact h _ fun _ _ q => q
theorem sh_houseD {n : Nat} {ps : List (List Int)} : SeqAt.shaped (houseD n ps) = true := (ok_tuple (k := 2) fun x hx => by
  simp only [List.mem_cons, List.not_mem_nil, or_false] at hx
  rcases hx with rfl | rfl
  · exact ok_int
  · exact ok_tuple (k := 1) fun x hx => by
      obtain ⟨l, _, rfl⟩ := List.mem_map.mp hx
      exact ok_tuple (k := 0) fun y hy => by
        obtain ⟨i, _, rfl⟩ := List.mem_map.mp hy
        exact ok_int).sh (by decide)
theorem eqv_houseD {n : Nat} {ps : List (List Int)} : PyData.eqv (houseD n ps) (houseD n ps) = true := by
  have h : ∀ qs : List (List Int), PyData.eqvAll (qs.map intsD) (qs.map intsD) = true := fun qs => by
    induction qs with
    | nil => rfl
    | cons l qs ih => rw [List.map_cons, PyData.eqvAll, ih, eqv_intsD]; simp
  show PyData.eqv (.tuple [.int n, .tuple (ps.map intsD)]) (.tuple [.int n, .tuple (ps.map intsD)]) = true
  simp [PyData.eqv, PyData.eqvAll, h]
/-- without a pair there are as many rosters exactly if there is none with it -/
theorem cnt_less {ps : List (List Int)} {g : List Int} {k : Nat} {x : Int} (hk : k < ps.length) (hx : x ∈ ps.getD k []) (hn : (ps.getD k []).Nodup) : cntF (wpL ps (k : Int) x) g = cntF ps g ↔ cI g x (cntF (ps.eraseIdx k) (g ++ [x])) = 0 := by
  have h1 := cnt_at ps k g hk
  rw [sum_split hn hx] at h1
  have h2 := cnt_at (wpL ps (k : Int) x) k g (by rw [wpL_len]; exact hk)
  have e0 : ((ps.getD k []).filter fun y => !decide (y = x)) = (ps.getD k []).filter fun y => decide (y ≠ x) := List.filter_congr fun y _ => by simp
  have e1 : (wpL ps (k : Int) x).getD k [] = (ps.getD k []).filter fun y => decide (y ≠ x) := by
    unfold wpL
    rw [Int.toNat_natCast, List.getD_eq_getElem?_getD, List.getElem?_set_self hk]
    exact e0
  have e2 : (wpL ps (k : Int) x).eraseIdx k = ps.eraseIdx k := by
    unfold wpL
    rw [Int.toNat_natCast, List.eraseIdx_set_eq]
  rw [e1, e2] at h2
  omega
structure K4 (n : Nat) (ps : List (List Int)) : Prop where
  n0 : 0 < n
  n1 : n ≤ 8
  p1 : ps.length ≤ 4
  ha : ∀ l ∈ ps, asc n l
theorem K4.l10 {n ps} (q : K4 n ps) : ∀ l ∈ ps, l.length ≤ 10 := fun l hl => Nat.le_trans (asc_len (q.ha l hl)) (by have := q.n1; omega)
theorem K4.nd {n ps} (q : K4 n ps) : ∀ l ∈ ps, l.Nodup := fun l hl => (q.ha l hl).1.imp fun h => by omega
theorem b1_ok (Φ : Tbl) (hcr : Φ "count_rosters" = cntRSp) (hfw : Φ "find_with" = findWithSp) {n : Nat} {ps : List (List Int)} (q : K4 n ps) {j : Nat} (hj : j < ps.length) {x : Int} (hx : x ∈ ps.getD j []) {y0 y1 y2 y3 y4 y5 y7 y11 y12 y13 y14 : Option Sl} {D : Ends}
    (k : ∀ z11 z12 z13 z14 : Option Sl, D.nx [y0, y1, y2, y3, y4, y5, some (.val (houseD n ps)), y7, some (.val (.int (j : Int))), some (.val (intsD (ps.getD j []))), some (.val (.int x)), z11, z12, z13, z14]) : wpS Φ f_law_b1 [y0, y1, y2, y3, y4, y5, some (.val (houseD n ps)), y7, some (.val (.int (j : Int))), some (.val (intsD (ps.getD j []))), some (.val (.int x)), y11, y12, y13, y14] D := by
  have n1 := q.n1
  have p1 := q.p1
  have hmem : ps.getD j [] ∈ ps := by rw [List.getD_eq_getElem?_getD, List.getElem?_eq_getElem hj]; exact List.getElem_mem hj
  have hll := q.l10 _ hmem
  have key := cnt_less (g := []) hj hx (q.nd _ hmem)
  have hwa := wpL_asc (p := (j : Int)) (x := x) q.ha
  have hwl := wpL_len ps (j : Int) x
  have hh : houseD n ps = .tuple [.int n, .tuple (ps.map intsD)] := rfl
  unfold f_law_b1
  refine wps_t2 (fun e => ∃ (z14 : Option Sl), e = [y0, y1, y2, y3, y4, y5, some (.val (houseD n ps)), y7, some (.val (.int (j : Int))), some (.val (intsD (ps.getD j []))), some (.val (.int x)), some (.val (.tuple (((ps.getD j []).filter fun y => !decide (y = x)).map .int))), some (.val (houseD n (wpL ps (j : Int) x))), y13, z14]) (fun N2 next2 => ?_) ?_
  · simp only [intsD]
    walk_at "wps"
    refine ⟨by rw [List.length_map]; show _ < 16777216; omega, lc_ne (x := x) (fun y acc N hy next => ?_) ?_⟩
    · unfold f_law_c1 f_law_e1
      walk_at "wps"
      exact next _ rfl
    · rw [hh]
      walk_at "wps"
      refine stp_nT (n := 0) rfl ?_
      walk_at "wps"
      refine stp_nT (n := 1) rfl ?_
      walk_at "wps"
      have hcl := cut_len (ps.map intsD) none (some (j : Int))
      rw [List.length_map] at hcl
      refine ⟨by show _ ≤ 16777216; omega, ?_⟩
      refine stp_nT (n := 1) rfl ?_
      walk_at "wps"
      have e : (ps.take (j : Int).toNat).map intsD ++ [PyData.tuple (((ps.getD (j : Int).toNat []).filter fun y => !decide (y = x)).map .int)] ++ (ps.drop ((j : Int).toNat + 1)).map intsD = (wpL ps (j : Int) x).map intsD := by
        unfold wpL
        rw [List.set_eq_take_append_cons_drop, if_pos (by omega), List.map_append, List.map_cons]
        simp [intsD]
      rw [cutT (by omega) (by omega), cutD (by omega) (by omega)]
      refine ⟨by rw [List.length_append, List.length_map, List.length_map, List.length_take, List.length_drop]; show _ ≤ 16777216; simp; omega, ?_⟩
      rw [Int.toNat_natCast] at e ⊢
      rw [e]
      exact next2 _ ⟨_, rfl⟩
  rintro e ⟨z14, rfl⟩
  walk_at "wps"
  refine ⟨_, rfl, ?_⟩
  rw [hcr]
  refine ⟨n, wpL ps (j : Int) x, [], rfl, by omega, fun l hl => Nat.le_trans (asc_len (hwa l hl)) (by omega), by simp, fun _ => ?_⟩
  walk_at "wps"
  refine ⟨_, rfl, ?_⟩
  rw [hcr]
  refine ⟨n, ps, [], rfl, by omega, q.l10, by simp, fun _ => ?_⟩
  walk_at "wps"
  refine ⟨_, rfl, ?_⟩
  rw [hfw]
  have ec : cI [] x (cntF (ps.eraseIdx j) ([] ++ [x])) = cntF (ps.eraseIdx j) ([] ++ [x]) := rfl
  rw [ec] at key
  refine ⟨n, ps, [], j, x, rfl, by omega, by omega, q.ha, by simp, hj, fun hno _ => ?_, fun u r _ => ?_⟩
  · have hz : cntF (ps.eraseIdx j) ([] ++ [x]) = 0 := by
      have := mt cnt_pos.mp hno
      omega
    have hk := key.mpr hz
    walk_at "wps"
    refine brn_of (fun hb => ?_) (fun hb => ?_)
    · rw [hk] at hb
      simp at hb
    · walk_at "wps"
      exact k _ _ _ _
  · have hz : ¬ cntF (ps.eraseIdx j) ([] ++ [x]) = 0 := by
      have := cnt_pos.mpr ⟨u, r⟩
      omega
    have hk := mt key.mp hz
    rw [if_pos (by rw [nrI]; rfl)]
    simp only [intsD]
    walk_at "wps"
    refine brn_of (fun hb => ?_) (fun hb => ?_)
    · exfalso
      have hk' : ¬ ((cntF (wpL ps (j : Int) x) [] : Nat) : Int) = ((cntF ps [] : Nat) : Int) := by omega
      simp [hk'] at hb
    · walk_at "wps"
      exact k _ _ _ _
theorem law_ok (Φ : Tbl) (hopen : Φ "_law_open" = openSp) (hone : Φ "_law_one_of" = oneOfSp) (hsome : Φ "_law_some" = someSp) (hkept : Φ "_law_draw_kept" = keptSp) (htid : Φ "tidied" = tidiedSp) (hfo : Φ "find_only" = onlySp) (hbe : Φ "bears_as_much" = bearsSp) (hcr : Φ "count_rosters" = cntRSp) (hfw : Φ "find_with" = findWithSp) : Impl Φ [false] 15 f_law lawSp := by
  rintro ds Q ⟨⟨ns, rfl, hns⟩, k⟩ _
  unfold f_law
  walk_at "wps"
  refine ⟨_, rfl, ?_⟩
  rw [hopen]
  refine ⟨ns, rfl, hns, fun p hp _ => ?_⟩
  walk_at "wps"
  refine ⟨by decide, by decide, for_inv (fun i e => ∃ (pen : PyData) (y2 y3 y4 y5 y6 y7 y8 y9 y10 y11 y12 y13 y14 : Option Sl), e = [some (.val (.list (ns.map .int))), some (.own pen), y2, y3, y4, y5, y6, y7, y8, y9, y10, y11, y12, y13, y14] ∧ Pen (10000 * i) pen)
    ⟨p, none, none, none, none, none, none, none, none, none, none, none, none, none, rfl, hp⟩ ?_ ?_⟩
  · rintro i x e N hx ⟨pen, y2, y3, y4, y5, y6, y7, y8, y9, y10, y11, y12, y13, y14, rfl, hpen⟩ next
    obtain ⟨rfl, hi⟩ := range_some hx
    have hi2 : i < 3 := hi
    unfold f_law_b4
    refine wps_t2 (fun e => ∃ (n : Nat) (ps : List (List Int)) (g : List Int) (pen1 : PyData) (y3 : Option Sl), e = [some (.val (.list (ns.map .int))), some (.own pen1), some (.val (.int (0 + (i : Int)))), y3, y4, y5, some (.val (houseD n ps)), some (.val (intsD g)), y8, y9, y10, y11, y12, y13, y14] ∧ K4 n ps ∧ asc n g ∧ Pen (10000 * i + 500) pen1) (fun N2 next2 => ?_) ?_
    · walk_at "wps"
      refine ⟨_, rfl, ?_⟩
      rw [hone]
      refine ⟨_, pen, _, rfl, hpen, by omega, _, rfl, by decide, by decide, fun x pen2 hx c2 _ => ?_⟩
      obtain ⟨a, b, rfl, a0, a1, b1⟩ : ∃ a b : Nat, x = .tuple [.int a, .int b] ∧ 0 < a ∧ a ≤ 8 ∧ b ≤ 4 := by
        simp only [List.mem_cons, List.not_mem_nil, or_false] at hx
        rcases hx with rfl | rfl | rfl
        · exact ⟨7, 4, rfl, by omega, by omega, by omega⟩
        · exact ⟨7, 4, rfl, by omega, by omega, by omega⟩
        · exact ⟨8, 2, rfl, by omega, by omega, by omega⟩
      walk_at "wps"
      refine stp_nT (n := 0) rfl ?_
      walk_at "wps"
      refine stp_nT (n := 1) rfl ?_
      walk_at "wps"
      refine ⟨_, rfl, ?_⟩
      rw [hkept]
      refine ⟨_, pen2, a, b, rfl, c2, by omega, a0, by omega, by omega, fun n ps g pen3 n0 n1 p1 hasc hg hfit c3 _ => ?_⟩
      walk_at "wps"
      exact next2 _ ⟨n, ps, g, pen3, _, rfl, ⟨n0, by omega, by omega, hasc⟩, hg, c3.mono (by omega)⟩
    rintro e ⟨n, ps, g, pen1, y3, rfl, q, hg, c1⟩
    have n1 := q.n1
    have p1 := q.p1
    have hta := tidy_asc q.ha
    have htl := tidy_len ps
    have ht20 : ∀ l ∈ tidyL ps, l.length ≤ 20 := fun l hl => Nat.le_trans (asc_len (hta l hl)) (by omega)
    have hh : houseD n ps = .tuple [.int n, .tuple (ps.map intsD)] := rfl
    have hp20 : ∀ l ∈ ps, l.length ≤ 20 := fun l hl => Nat.le_trans (q.l10 l hl) (by omega)
    refine wps_t2 (fun e => e = [some (.val (.list (ns.map .int))), some (.own pen1), some (.val (.int (0 + (i : Int)))), y3, some (.val (houseD n (tidyL ps))), y5, some (.val (houseD n ps)), some (.val (intsD g)), y8, y9, y10, y11, y12, y13, y14]) (fun N2 next2 => ?_) ?_
    · walk_at "wps"
      refine ⟨_, rfl, ?_⟩
      rw [htid]
      refine ⟨n, ps, rfl, by omega, by omega, q.ha, fun _ => ?_⟩
      rw [if_pos (by rw [nrH]; rfl)]
      walk_at "wps"
      refine ⟨_, rfl, ?_⟩
      rw [htid]
      refine ⟨n, tidyL ps, rfl, by omega, by omega, hta, fun _ => ?_⟩
      rw [tidy_idem, if_pos (by rw [nrH]; rfl)]
      have ht : houseD n (tidyL ps) = .tuple [.int n, .tuple ((tidyL ps).map intsD)] := rfl
      rw [ht]
      walk_at "wps"
      rw [← ht, eqv_houseD]
      refine ⟨sh_houseD, sh_houseD, ?_⟩
      walk_at "wps"
      refine ⟨_, rfl, ?_⟩
      rw [hfo]
      refine ⟨n, n, ps, tidyL ps, rfl, by omega, by omega, htl, q.ha, ht20, fun t r hno => absurd (tidy_ro.mpr r) hno, fun _ _ => ?_⟩
      walk_at "wps"
      refine ⟨_, rfl, ?_⟩
      rw [hfo]
      refine ⟨n, n, tidyL ps, ps, rfl, by omega, by omega, htl.symm, hta, hp20, fun t r hno => absurd (tidy_ro.mp r) hno, fun _ _ => ?_⟩
      walk_at "wps"
      exact next2 _ rfl
    rintro e rfl
    refine wps_t1 (fun e => e = [some (.val (.list (ns.map .int))), some (.own pen1), some (.val (.int (0 + (i : Int)))), y3, some (.val (houseD n (tidyL ps))), y5, some (.val (houseD n ps)), some (.val (intsD g)), y8, y9, y10, y11, y12, y13, y14]) (fun N2 next2 => ?_) ?_
    · walk_at "wps"
      refine ⟨_, rfl, ?_⟩
      rw [hbe]
      refine ⟨n, ps, tidyL ps, rfl, by omega, by omega, by omega, q.ha, hta, fun b hb _ => ?_⟩
      have hb1 : b = true := hb.mpr fun s _ ⟨t, r⟩ => ⟨t, tidy_ro.mp r⟩
      subst hb1
      walk_at "wps"
      refine ⟨_, rfl, ?_⟩
      rw [hbe]
      refine ⟨n, tidyL ps, ps, rfl, by omega, by omega, by omega, hta, q.ha, fun b hb _ => ?_⟩
      have hb1 : b = true := hb.mpr fun s _ ⟨t, r⟩ => ⟨t, tidy_ro.mpr r⟩
      subst hb1
      walk_at "wps"
      exact next2 _ rfl
    rintro e rfl
    refine wps_t1 (fun e => ∃ (pen2 : PyData) (y5 : Option Sl), e = [some (.val (.list (ns.map .int))), some (.own pen2), some (.val (.int (0 + (i : Int)))), y3, some (.val (houseD n (tidyL ps))), y5, some (.val (houseD n ps)), some (.val (intsD g)), y8, y9, y10, y11, y12, y13, y14] ∧ Pen (10000 * i + 600) pen2) (fun N2 next2 => ?_) ?_
    · refine wps_forG fun P hP => ?_
      rw [hh]
      walk_at "wps"
      refine stp_nT (n := 0) rfl ?_
      walk_at "wps"
      refine ⟨_, rfl, ?_⟩
      rw [hsome]
      refine ⟨_, pen1, n, 3, rfl, c1, by omega, by omega, by omega, by omega, fun g3 pen2 h3 c2 _ => ?_⟩
      walk_at "wps"
      refine stp_nT (n := 0) rfl ?_
      walk_at "wps"
      refine ⟨_, rfl, ?_⟩
      rw [hsome]
      refine ⟨_, pen2, n, 2, rfl, c2, by omega, by omega, by omega, by omega, fun g4 pen3 h4 c3 _ => ?_⟩
      walk_at "wps"
      refine hP _ _ ?_
      rw [← hh]
      refine for_inv (fun j e => ∃ y5 : Option Sl, e = [some (.val (.list (ns.map .int))), some (.own pen3), some (.val (.int (0 + (i : Int)))), y3, some (.val (houseD n (tidyL ps))), y5, some (.val (houseD n ps)), some (.val (intsD g)), y8, y9, y10, y11, y12, y13, y14]) ⟨_, rfl⟩ ?_ ?_
      · rintro j x e N3 hx ⟨y5, rfl⟩ next3
        obtain ⟨s, rfl, hs⟩ : ∃ s, x = intsD s ∧ asc n s := by
          have hm := List.mem_of_getElem? hx
          simp only [List.mem_cons, List.not_mem_nil, or_false] at hm
          rcases hm with rfl | rfl | rfl | rfl
          · exact ⟨_, rfl, hg⟩
          · exact ⟨[], rfl, by simp [asc]⟩
          · exact ⟨_, rfl, h3⟩
          · exact ⟨_, rfl, h4⟩
        have hsl := asc_len hs
        unfold f_law_b3
        walk_at "wps"
        refine ⟨_, rfl, ?_⟩
        rw [hcr]
        refine ⟨n, tidyL ps, s, rfl, by omega, fun l hl => Nat.le_trans (asc_len (hta l hl)) (by omega), by omega, fun _ => ?_⟩
        walk_at "wps"
        refine ⟨_, rfl, ?_⟩
        rw [hcr]
        refine ⟨n, ps, s, rfl, by omega, q.l10, by omega, fun _ => ?_⟩
        rw [tidy_cnt q.nd s]
        walk_at "wps"
        exact next3 _ ⟨_, rfl⟩
      · rintro e ⟨y5, rfl⟩
        exact next2 _ ⟨pen3, _, rfl, c3.mono (by omega)⟩
    rintro e ⟨pen2, y5, rfl, c2⟩
    refine wps_t1 (fun e => ∃ (y8 y9 y10 y11 y12 y13 y14 : Option Sl), e = [some (.val (.list (ns.map .int))), some (.own pen2), some (.val (.int (0 + (i : Int)))), y3, some (.val (houseD n (tidyL ps))), y5, some (.val (houseD n ps)), some (.val (intsD g)), y8, y9, y10, y11, y12, y13, y14]) (fun D3 next2 => ?_) ?_
    · refine wps_forG fun P hP => ?_
      rw [hh]
      walk_at "wps"
      refine stp_nT (n := 1) rfl ?_
      walk_at "wps"
      refine hP _ _ ?_
      rw [← hh]
      refine for_inv (fun j e => ∃ (y8 y9 y10 y11 y12 y13 y14 : Option Sl), e = [some (.val (.list (ns.map .int))), some (.own pen2), some (.val (.int (0 + (i : Int)))), y3, some (.val (houseD n (tidyL ps))), y5, some (.val (houseD n ps)), some (.val (intsD g)), y8, y9, y10, y11, y12, y13, y14]) ⟨_, _, _, _, _, _, _, rfl⟩ ?_ ?_
      · rintro j x e N3 hx ⟨y8, y9, y10, y11, y12, y13, y14, rfl⟩ next3
        obtain ⟨x2, rfl, hx3⟩ := enum_some hx
        obtain ⟨l, rfl, hl⟩ := map_some hx3
        have hj := (List.getElem?_eq_some_iff.mp hl).1
        have hgd : ps.getD j [] = l := by rw [List.getD_eq_getElem?_getD, hl]; rfl
        subst hgd
        unfold f_law_b2
        simp only [intsD]
        walk_at "wps"
        refine for_inv (fun m e => ∃ (y10 y11 y12 y13 y14 : Option Sl), e = [some (.val (.list (ns.map .int))), some (.own pen2), some (.val (.int (0 + (i : Int)))), y3, some (.val (houseD n (tidyL ps))), y5, some (.val (houseD n ps)), some (.val (intsD g)), some (.val (.int (j : Int))), some (.val (intsD (ps.getD j []))), y10, y11, y12, y13, y14]) ⟨_, _, _, _, _, rfl⟩ ?_ ?_
        · rintro m x e N4 hx ⟨y10, y11, y12, y13, y14, rfl⟩ next4
          have hxm : x ∈ (ps.getD j []).map PyData.int := by
            have := List.mem_of_getElem? hx
            unfold cut at this
            exact List.mem_of_mem_drop (List.mem_of_mem_take this)
          obtain ⟨p, hp, rfl⟩ := List.mem_map.mp hxm
          walk_at "wps"
          exact b1_ok Φ hcr hfw q hj hp fun _ _ _ _ => next4 _ ⟨_, _, _, _, _, rfl⟩
        · rintro e ⟨y10, y11, y12, y13, y14, rfl⟩
          walk_at "wps"
          exact next3 _ ⟨_, _, _, _, _, _, _, rfl⟩
      · rintro e ⟨y8, y9, y10, y11, y12, y13, y14, rfl⟩
        exact next2 _ ⟨_, _, _, _, _, _, _, rfl⟩
    rintro e ⟨y8, y9, y10, y11, y12, y13, y14, rfl⟩
    walk_at "wps"
    exact next _ ⟨pen2, _, _, _, _, _, _, _, _, _, _, _, _, _, rfl, c2.mono (by omega)⟩
  · rintro e ⟨pen, y2, y3, y4, y5, y6, y7, y8, y9, y10, y11, y12, y13, y14, rfl, hpen⟩
    walk_at "wps"
    exact k _
end Co

namespace Co
open PySem PySem.Spec PyProof.Rows L2
def Phi (j : Nat) : Tbl := fun s => if s = "_law_open" then openSp else if s = "_law_spread" then spreadSp else if s = "_law_take" then takeSp else if s = "_law_one_of" then oneOfSp else if s = "_law_some" then someSp else if s = "_law_draw_house" then drawBSp else if s = "_law_fit" then fitSp else if s = "_law_draw_kept" then keptSp else if s = "pairs_of" then pairsOfSp else if s = "move_on" then moveSp else if s = "place" then placeSp else if s = "settled" then settledSp else if s = "find_roster" then findSp else if s = "without_post" then withoutPostSp else if s = "with_person" then withPersonSp else if s = "find_with" then findWithSp else if s = "tidied" then tidiedSp else if s = "find_only" then onlySp else if s = "groups_of" then groupsSp else if s = "find_worse" then worseSp else if s = "bears_as_much" then bearsSp else if s = "counted" then cntSp else if s = "count_rosters" then cntRSp else fun _ _ => False
theorem Phi_law_open {j : Nat} : Phi j "_law_open" = openSp := by simp [Phi]
theorem Phi_law_spread {j : Nat} : Phi j "_law_spread" = spreadSp := by simp [Phi]
theorem Phi_law_take {j : Nat} : Phi j "_law_take" = takeSp := by simp [Phi]
theorem Phi_law_one_of {j : Nat} : Phi j "_law_one_of" = oneOfSp := by simp [Phi]
theorem Phi_law_some {j : Nat} : Phi j "_law_some" = someSp := by simp [Phi]
theorem Phi_law_draw_house {j : Nat} : Phi j "_law_draw_house" = drawBSp := by simp [Phi]
theorem Phi_law_fit {j : Nat} : Phi j "_law_fit" = fitSp := by simp [Phi]
theorem Phi_law_draw_kept {j : Nat} : Phi j "_law_draw_kept" = keptSp := by simp [Phi]
theorem Phi_pairs_of {j : Nat} : Phi j "pairs_of" = pairsOfSp := by simp [Phi]
theorem Phi_move_on {j : Nat} : Phi j "move_on" = moveSp := by simp [Phi]
theorem Phi_place {j : Nat} : Phi j "place" = placeSp := by simp [Phi]
theorem Phi_settled {j : Nat} : Phi j "settled" = settledSp := by simp [Phi]
theorem Phi_find_roster {j : Nat} : Phi j "find_roster" = findSp := by simp [Phi]
theorem Phi_without_post {j : Nat} : Phi j "without_post" = withoutPostSp := by simp [Phi]
theorem Phi_with_person {j : Nat} : Phi j "with_person" = withPersonSp := by simp [Phi]
theorem Phi_find_with {j : Nat} : Phi j "find_with" = findWithSp := by simp [Phi]
theorem Phi_tidied {j : Nat} : Phi j "tidied" = tidiedSp := by simp [Phi]
theorem Phi_find_only {j : Nat} : Phi j "find_only" = onlySp := by simp [Phi]
theorem Phi_groups_of {j : Nat} : Phi j "groups_of" = groupsSp := by simp [Phi]
theorem Phi_find_worse {j : Nat} : Phi j "find_worse" = worseSp := by simp [Phi]
theorem Phi_bears_as_much {j : Nat} : Phi j "bears_as_much" = bearsSp := by simp [Phi]
theorem Phi_counted {j : Nat} : Phi j "counted" = cntSp := by simp [Phi]
theorem Phi_count_rosters {j : Nat} : Phi j "count_rosters" = cntRSp := by simp [Phi]
theorem all_mk {l : PySem.W.OpenLaw} {w : World} {K : PySem.W.Frag} {h : Heap} {mg : Str → Option Value} {fa f1 f2 f3 f4 f5 f6 f7 f8 f9 f10 f11 f12 f13 f14 f15 f16 f17 f18 f19 f20 f21 f22 f23 f24 : Addr} (X : K.In h) (G : h.Ns mainGlobals mg) (hfa : mg "law" = some (.ref fa))
    {od1 an1 : Option Addr} {sl1 : Array (Option Value)} {oc1 kV1 dc1 pm1 cd1 ct1 : Value} {od2 an2 : Option Addr} {sl2 : Array (Option Value)} {oc2 kV2 dc2 pm2 cd2 ct2 : Value} {od3 an3 : Option Addr} {sl3 : Array (Option Value)} {oc3 kV3 dc3 pm3 cd3 ct3 : Value} {od4 an4 : Option Addr} {sl4 : Array (Option Value)} {oc4 kV4 dc4 pm4 cd4 ct4 : Value} {od5 an5 : Option Addr} {sl5 : Array (Option Value)} {oc5 kV5 dc5 pm5 cd5 ct5 : Value} {od6 an6 : Option Addr} {sl6 : Array (Option Value)} {oc6 kV6 dc6 pm6 cd6 ct6 : Value} {od7 an7 : Option Addr} {sl7 : Array (Option Value)} {oc7 kV7 dc7 pm7 cd7 ct7 : Value} {od8 an8 : Option Addr} {sl8 : Array (Option Value)} {oc8 kV8 dc8 pm8 cd8 ct8 : Value} {od9 an9 : Option Addr} {sl9 : Array (Option Value)} {oc9 kV9 dc9 pm9 cd9 ct9 : Value} {od10 an10 : Option Addr} {sl10 : Array (Option Value)} {oc10 kV10 dc10 pm10 cd10 ct10 : Value} {od11 an11 : Option Addr} {sl11 : Array (Option Value)} {oc11 kV11 dc11 pm11 cd11 ct11 : Value} {od12 an12 : Option Addr} {sl12 : Array (Option Value)} {oc12 kV12 dc12 pm12 cd12 ct12 : Value} {od13 an13 : Option Addr} {sl13 : Array (Option Value)} {oc13 kV13 dc13 pm13 cd13 ct13 : Value} {od14 an14 : Option Addr} {sl14 : Array (Option Value)} {oc14 kV14 dc14 pm14 cd14 ct14 : Value} {od15 an15 : Option Addr} {sl15 : Array (Option Value)} {oc15 kV15 dc15 pm15 cd15 ct15 : Value} {od16 an16 : Option Addr} {sl16 : Array (Option Value)} {oc16 kV16 dc16 pm16 cd16 ct16 : Value} {od17 an17 : Option Addr} {sl17 : Array (Option Value)} {oc17 kV17 dc17 pm17 cd17 ct17 : Value} {od18 an18 : Option Addr} {sl18 : Array (Option Value)} {oc18 kV18 dc18 pm18 cd18 ct18 : Value} {od19 an19 : Option Addr} {sl19 : Array (Option Value)} {oc19 kV19 dc19 pm19 cd19 ct19 : Value} {od20 an20 : Option Addr} {sl20 : Array (Option Value)} {oc20 kV20 dc20 pm20 cd20 ct20 : Value} {od21 an21 : Option Addr} {sl21 : Array (Option Value)} {oc21 kV21 dc21 pm21 cd21 ct21 : Value} {od22 an22 : Option Addr} {sl22 : Array (Option Value)} {oc22 kV22 dc22 pm22 cd22 ct22 : Value} {od23 an23 : Option Addr} {sl23 : Array (Option Value)} {oc23 kV23 dc23 pm23 cd23 ct23 : Value} {od24 an24 : Option Addr} {sl24 : Array (Option Value)} {oc24 kV24 dc24 pm24 cd24 ct24 : Value}
    (a1 : PySem.W.nsIn K mainGlobals "_law_open" = some (some (.ref f1))) (l1 : K.lookup f1 = some ⟨oc1, od1, .func (PySem.W.fnOf "_law_open" "_law_open" (defArgs (tops 22)) (defBody (tops 22)) (defScope (tops 22)) .none kV1 dc1 pm1 an1 cd1 ct1), sl1⟩) (c1 : PySem.W.codeIn K cd1 "_law_open" = true) (k1 : PySem.W.keepIn K (.ref f1) = true)
    (a2 : PySem.W.nsIn K mainGlobals "_law_spread" = some (some (.ref f2))) (l2 : K.lookup f2 = some ⟨oc2, od2, .func (PySem.W.fnOf "_law_spread" "_law_spread" (defArgs (tops 23)) (defBody (tops 23)) (defScope (tops 23)) .none kV2 dc2 pm2 an2 cd2 ct2), sl2⟩) (c2 : PySem.W.codeIn K cd2 "_law_spread" = true) (k2 : PySem.W.keepIn K (.ref f2) = true)
    (a3 : PySem.W.nsIn K mainGlobals "_law_take" = some (some (.ref f3))) (l3 : K.lookup f3 = some ⟨oc3, od3, .func (PySem.W.fnOf "_law_take" "_law_take" (defArgs (tops 24)) (defBody (tops 24)) (defScope (tops 24)) .none kV3 dc3 pm3 an3 cd3 ct3), sl3⟩) (c3 : PySem.W.codeIn K cd3 "_law_take" = true) (k3 : PySem.W.keepIn K (.ref f3) = true)
    (a4 : PySem.W.nsIn K mainGlobals "_law_one_of" = some (some (.ref f4))) (l4 : K.lookup f4 = some ⟨oc4, od4, .func (PySem.W.fnOf "_law_one_of" "_law_one_of" (defArgs (tops 25)) (defBody (tops 25)) (defScope (tops 25)) .none kV4 dc4 pm4 an4 cd4 ct4), sl4⟩) (c4 : PySem.W.codeIn K cd4 "_law_one_of" = true) (k4 : PySem.W.keepIn K (.ref f4) = true)
    (a5 : PySem.W.nsIn K mainGlobals "_law_some" = some (some (.ref f5))) (l5 : K.lookup f5 = some ⟨oc5, od5, .func (PySem.W.fnOf "_law_some" "_law_some" (defArgs (tops 26)) (defBody (tops 26)) (defScope (tops 26)) .none kV5 dc5 pm5 an5 cd5 ct5), sl5⟩) (c5 : PySem.W.codeIn K cd5 "_law_some" = true) (k5 : PySem.W.keepIn K (.ref f5) = true)
    (a6 : PySem.W.nsIn K mainGlobals "_law_draw_house" = some (some (.ref f6))) (l6 : K.lookup f6 = some ⟨oc6, od6, .func (PySem.W.fnOf "_law_draw_house" "_law_draw_house" (defArgs (tops 27)) (defBody (tops 27)) (defScope (tops 27)) .none kV6 dc6 pm6 an6 cd6 ct6), sl6⟩) (c6 : PySem.W.codeIn K cd6 "_law_draw_house" = true) (k6 : PySem.W.keepIn K (.ref f6) = true)
    (a7 : PySem.W.nsIn K mainGlobals "_law_fit" = some (some (.ref f7))) (l7 : K.lookup f7 = some ⟨oc7, od7, .func (PySem.W.fnOf "_law_fit" "_law_fit" (defArgs (tops 29)) (defBody (tops 29)) (defScope (tops 29)) .none kV7 dc7 pm7 an7 cd7 ct7), sl7⟩) (c7 : PySem.W.codeIn K cd7 "_law_fit" = true) (k7 : PySem.W.keepIn K (.ref f7) = true)
    (a8 : PySem.W.nsIn K mainGlobals "_law_draw_kept" = some (some (.ref f8))) (l8 : K.lookup f8 = some ⟨oc8, od8, .func (PySem.W.fnOf "_law_draw_kept" "_law_draw_kept" (defArgs (tops 28)) (defBody (tops 28)) (defScope (tops 28)) .none kV8 dc8 pm8 an8 cd8 ct8), sl8⟩) (c8 : PySem.W.codeIn K cd8 "_law_draw_kept" = true) (k8 : PySem.W.keepIn K (.ref f8) = true)
    (a9 : PySem.W.nsIn K mainGlobals "pairs_of" = some (some (.ref f9))) (l9 : K.lookup f9 = some ⟨oc9, od9, .func (PySem.W.fnOf "pairs_of" "pairs_of" (defArgs (tops 10)) (defBody (tops 10)) (defScope (tops 10)) .none kV9 dc9 pm9 an9 cd9 ct9), sl9⟩) (c9 : PySem.W.codeIn K cd9 "pairs_of" = true) (k9 : PySem.W.keepIn K (.ref f9) = true)
    (a10 : PySem.W.nsIn K mainGlobals "move_on" = some (some (.ref f10))) (l10 : K.lookup f10 = some ⟨oc10, od10, .func (PySem.W.fnOf "move_on" "move_on" (defArgs (tops 4)) (defBody (tops 4)) (defScope (tops 4)) .none kV10 dc10 pm10 an10 cd10 ct10), sl10⟩) (c10 : PySem.W.codeIn K cd10 "move_on" = true) (k10 : PySem.W.keepIn K (.ref f10) = true)
    (a11 : PySem.W.nsIn K mainGlobals "place" = some (some (.ref f11))) (l11 : K.lookup f11 = some ⟨oc11, od11, .func (PySem.W.fnOf "place" "place" (defArgs (tops 3)) (defBody (tops 3)) (defScope (tops 3)) .none kV11 dc11 pm11 an11 cd11 ct11), sl11⟩) (c11 : PySem.W.codeIn K cd11 "place" = true) (k11 : PySem.W.keepIn K (.ref f11) = true)
    (a12 : PySem.W.nsIn K mainGlobals "settled" = some (some (.ref f12))) (l12 : K.lookup f12 = some ⟨oc12, od12, .func (PySem.W.fnOf "settled" "settled" (defArgs (tops 5)) (defBody (tops 5)) (defScope (tops 5)) .none kV12 dc12 pm12 an12 cd12 ct12), sl12⟩) (c12 : PySem.W.codeIn K cd12 "settled" = true) (k12 : PySem.W.keepIn K (.ref f12) = true)
    (a13 : PySem.W.nsIn K mainGlobals "find_roster" = some (some (.ref f13))) (l13 : K.lookup f13 = some ⟨oc13, od13, .func (PySem.W.fnOf "find_roster" "find_roster" (defArgs (tops 6)) (defBody (tops 6)) (defScope (tops 6)) .none kV13 dc13 pm13 an13 cd13 ct13), sl13⟩) (c13 : PySem.W.codeIn K cd13 "find_roster" = true) (k13 : PySem.W.keepIn K (.ref f13) = true)
    (a14 : PySem.W.nsIn K mainGlobals "without_post" = some (some (.ref f14))) (l14 : K.lookup f14 = some ⟨oc14, od14, .func (PySem.W.fnOf "without_post" "without_post" (defArgs (tops 11)) (defBody (tops 11)) (defScope (tops 11)) .none kV14 dc14 pm14 an14 cd14 ct14), sl14⟩) (c14 : PySem.W.codeIn K cd14 "without_post" = true) (k14 : PySem.W.keepIn K (.ref f14) = true)
    (a15 : PySem.W.nsIn K mainGlobals "with_person" = some (some (.ref f15))) (l15 : K.lookup f15 = some ⟨oc15, od15, .func (PySem.W.fnOf "with_person" "with_person" (defArgs (tops 1)) (defBody (tops 1)) (defScope (tops 1)) .none kV15 dc15 pm15 an15 cd15 ct15), sl15⟩) (c15 : PySem.W.codeIn K cd15 "with_person" = true) (k15 : PySem.W.keepIn K (.ref f15) = true)
    (a16 : PySem.W.nsIn K mainGlobals "find_with" = some (some (.ref f16))) (l16 : K.lookup f16 = some ⟨oc16, od16, .func (PySem.W.fnOf "find_with" "find_with" (defArgs (tops 12)) (defBody (tops 12)) (defScope (tops 12)) .none kV16 dc16 pm16 an16 cd16 ct16), sl16⟩) (c16 : PySem.W.codeIn K cd16 "find_with" = true) (k16 : PySem.W.keepIn K (.ref f16) = true)
    (a17 : PySem.W.nsIn K mainGlobals "tidied" = some (some (.ref f17))) (l17 : K.lookup f17 = some ⟨oc17, od17, .func (PySem.W.fnOf "tidied" "tidied" (defArgs (tops 14)) (defBody (tops 14)) (defScope (tops 14)) .none kV17 dc17 pm17 an17 cd17 ct17), sl17⟩) (c17 : PySem.W.codeIn K cd17 "tidied" = true) (k17 : PySem.W.keepIn K (.ref f17) = true)
    (a18 : PySem.W.nsIn K mainGlobals "find_only" = some (some (.ref f18))) (l18 : K.lookup f18 = some ⟨oc18, od18, .func (PySem.W.fnOf "find_only" "find_only" (defArgs (tops 15)) (defBody (tops 15)) (defScope (tops 15)) .none kV18 dc18 pm18 an18 cd18 ct18), sl18⟩) (c18 : PySem.W.codeIn K cd18 "find_only" = true) (k18 : PySem.W.keepIn K (.ref f18) = true)
    (a19 : PySem.W.nsIn K mainGlobals "groups_of" = some (some (.ref f19))) (l19 : K.lookup f19 = some ⟨oc19, od19, .func (PySem.W.fnOf "groups_of" "groups_of" (defArgs (tops 8)) (defBody (tops 8)) (defScope (tops 8)) .none kV19 dc19 pm19 an19 cd19 ct19), sl19⟩) (c19 : PySem.W.codeIn K cd19 "groups_of" = true) (k19 : PySem.W.keepIn K (.ref f19) = true)
    (a20 : PySem.W.nsIn K mainGlobals "find_worse" = some (some (.ref f20))) (l20 : K.lookup f20 = some ⟨oc20, od20, .func (PySem.W.fnOf "find_worse" "find_worse" (defArgs (tops 16)) (defBody (tops 16)) (defScope (tops 16)) .none kV20 dc20 pm20 an20 cd20 ct20), sl20⟩) (c20 : PySem.W.codeIn K cd20 "find_worse" = true) (k20 : PySem.W.keepIn K (.ref f20) = true)
    (a21 : PySem.W.nsIn K mainGlobals "bears_as_much" = some (some (.ref f21))) (l21 : K.lookup f21 = some ⟨oc21, od21, .func (PySem.W.fnOf "bears_as_much" "bears_as_much" (defArgs (tops 17)) (defBody (tops 17)) (defScope (tops 17)) .none kV21 dc21 pm21 an21 cd21 ct21), sl21⟩) (c21 : PySem.W.codeIn K cd21 "bears_as_much" = true) (k21 : PySem.W.keepIn K (.ref f21) = true)
    (a22 : PySem.W.nsIn K mainGlobals "counted" = some (some (.ref f22))) (l22 : K.lookup f22 = some ⟨oc22, od22, .func (PySem.W.fnOf "counted" "counted" (defArgs (tops 19)) (defBody (tops 19)) (defScope (tops 19)) .none kV22 dc22 pm22 an22 cd22 ct22), sl22⟩) (c22 : PySem.W.codeIn K cd22 "counted" = true) (k22 : PySem.W.keepIn K (.ref f22) = true)
    (a23 : PySem.W.nsIn K mainGlobals "count_rosters" = some (some (.ref f23))) (l23 : K.lookup f23 = some ⟨oc23, od23, .func (PySem.W.fnOf "count_rosters" "count_rosters" (defArgs (tops 20)) (defBody (tops 20)) (defScope (tops 20)) .none kV23 dc23 pm23 an23 cd23 ct23), sl23⟩) (c23 : PySem.W.codeIn K cd23 "count_rosters" = true) (k23 : PySem.W.keepIn K (.ref f23) = true)
    (a24 : PySem.W.nsIn K mainGlobals "law" = some (some (.ref f24))) (l24 : K.lookup f24 = some ⟨oc24, od24, .func (PySem.W.fnOf "law" "law" (defArgs (tops 30)) (defBody (tops 30)) (defScope (tops 30)) .none kV24 dc24 pm24 an24 cd24 ct24), sl24⟩) (c24 : PySem.W.codeIn K cd24 "law" = true) (k24 : PySem.W.keepIn K (.ref f24) = true)
    (z1 : PySem.W.nsIn K mainGlobals "len" = some none) (z2 : PySem.W.nsIn K mainGlobals "repr" = some none) (z3 : PySem.W.nsIn K mainGlobals "sorted" = some none) (z4 : PySem.W.nsIn K mainGlobals "tuple" = some none) (z5 : PySem.W.nsIn K mainGlobals "list" = some none) (z6 : PySem.W.nsIn K mainGlobals "min" = some none) (z7 : PySem.W.nsIn K mainGlobals "max" = some none) (z8 : PySem.W.nsIn K mainGlobals "sum" = some none) (z9 : PySem.W.nsIn K mainGlobals "all" = some none) (z10 : PySem.W.nsIn K mainGlobals "any" = some none) (z11 : PySem.W.nsIn K mainGlobals "int" = some none) (z12 : PySem.W.nsIn K mainGlobals "isinstance" = some none) (z13 : PySem.W.nsIn K mainGlobals "range" = some none) (z14 : PySem.W.nsIn K mainGlobals "enumerate" = some none) (z15 : PySem.W.nsIn K mainGlobals "zip" = some none) (z16 : PySem.W.nsIn K mainGlobals "set" = some none) (z17 : PySem.W.nsIn K mainGlobals "bool" = some none) (z18 : PySem.W.nsIn K mainGlobals "str" = some none) (z19 : PySem.W.nsIn K mainGlobals "dict" = some none) :
    ∃ fd : FuncData, (∀ (s : Shared) (v : Value), BindsTo s fd ⟨[v], []⟩ [("script", v)]) ∧ ∀ base : Heap, K.In base → base.Ns mainGlobals mg → (∃ m, base.Ns sysModules m) → FnG l.prog w K mg base 7 fa fd ["script"] (spOf K [false] lawSp) := by
  have e := hfa.symm.trans (PySem.W.mg_of X G a24)
  cases e
  have blt : ∀ x ∈ bltNames, mg (Str.ofString x) = none := by
    intro x hx
    simp only [bltNames, List.mem_cons, List.not_mem_nil, or_false] at hx
    rcases hx with rfl | rfl | rfl | rfl | rfl | rfl | rfl | rfl | rfl | rfl | rfl | rfl | rfl | rfl | rfl | rfl | rfl | rfl | rfl
    · exact PySem.W.mg_none_of X G z1
    · exact PySem.W.mg_none_of X G z2
    · exact PySem.W.mg_none_of X G z3
    · exact PySem.W.mg_none_of X G z4
    · exact PySem.W.mg_none_of X G z5
    · exact PySem.W.mg_none_of X G z6
    · exact PySem.W.mg_none_of X G z7
    · exact PySem.W.mg_none_of X G z8
    · exact PySem.W.mg_none_of X G z9
    · exact PySem.W.mg_none_of X G z10
    · exact PySem.W.mg_none_of X G z11
    · exact PySem.W.mg_none_of X G z12
    · exact PySem.W.mg_none_of X G z13
    · exact PySem.W.mg_none_of X G z14
    · exact PySem.W.mg_none_of X G z15
    · exact PySem.W.mg_none_of X G z16
    · exact PySem.W.mg_none_of X G z17
    · exact PySem.W.mg_none_of X G z18
    · exact PySem.W.mg_none_of X G z19
  have F1 := fun_mk (st := tops 22) l1 c1 k1
  have b1 := F1.binds (ps := ["script"]) fun _ _ _ _ _ _ us hl => match us, hl with | [_], _ => rfl
  have F2 := fun_mk (st := tops 23) l2 c2 k2
  have b2 := F2.binds (ps := ["cell", "at"]) fun _ _ _ _ _ _ us hl => match us, hl with | [_, _], _ => rfl
  have F3 := fun_mk (st := tops 24) l3 c3 k3
  have b3 := F3.binds (ps := ["pen", "amount"]) fun _ _ _ _ _ _ us hl => match us, hl with | [_, _], _ => rfl
  have F4 := fun_mk (st := tops 25) l4 c4 k4
  have b4 := F4.binds (ps := ["pen", "some"]) fun _ _ _ _ _ _ us hl => match us, hl with | [_, _], _ => rfl
  have F5 := fun_mk (st := tops 26) l5 c5 k5
  have b5 := F5.binds (ps := ["pen", "many", "rare"]) fun _ _ _ _ _ _ us hl => match us, hl with | [_, _, _], _ => rfl
  have F6 := fun_mk (st := tops 27) l6 c6 k6
  have b6 := F6.binds (ps := ["pen", "most", "jobs"]) fun _ _ _ _ _ _ us hl => match us, hl with | [_, _, _], _ => rfl
  have F7 := fun_mk (st := tops 29) l7 c7 k7
  have b7 := F7.binds (ps := ["house", "gone"]) fun _ _ _ _ _ _ us hl => match us, hl with | [_, _], _ => rfl
  have F8 := fun_mk (st := tops 28) l8 c8 k8
  have b8 := F8.binds (ps := ["pen", "most", "jobs"]) fun _ _ _ _ _ _ us hl => match us, hl with | [_, _, _], _ => rfl
  have F9 := fun_mk (st := tops 10) l9 c9 k9
  have b9 := F9.binds (ps := ["house", "gone"]) fun _ _ _ _ _ _ us hl => match us, hl with | [_, _], _ => rfl
  have F10 := fun_mk (st := tops 4) l10 c10 k10
  have b10 := F10.binds (ps := ["found", "came", "person", "post"]) fun _ _ _ _ _ _ us hl => match us, hl with | [_, _, _, _], _ => rfl
  have F11 := fun_mk (st := tops 3) l11 c11 k11
  have b11 := F11.binds (ps := ["house", "gone", "found", "post"]) fun _ _ _ _ _ _ us hl => match us, hl with | [_, _, _, _], _ => rfl
  have F12 := fun_mk (st := tops 5) l12 c12 k12
  have b12 := F12.binds (ps := ["house", "gone"]) fun _ _ _ _ _ _ us hl => match us, hl with | [_, _], _ => rfl
  have F13 := fun_mk (st := tops 6) l13 c13 k13
  have b13 := F13.binds (ps := ["house", "gone"]) fun _ _ _ _ _ _ us hl => match us, hl with | [_, _], _ => rfl
  have F14 := fun_mk (st := tops 11) l14 c14 k14
  have b14 := F14.binds (ps := ["house", "post"]) fun _ _ _ _ _ _ us hl => match us, hl with | [_, _], _ => rfl
  have F15 := fun_mk (st := tops 1) l15 c15 k15
  have b15 := F15.binds (ps := ["gone", "person"]) fun _ _ _ _ _ _ us hl => match us, hl with | [_, _], _ => rfl
  have F16 := fun_mk (st := tops 12) l16 c16 k16
  have b16 := F16.binds (ps := ["house", "gone", "post", "person"]) fun _ _ _ _ _ _ us hl => match us, hl with | [_, _, _, _], _ => rfl
  have F17 := fun_mk (st := tops 14) l17 c17 k17
  have b17 := F17.binds (ps := ["house"]) fun _ _ _ _ _ _ us hl => match us, hl with | [_], _ => rfl
  have F18 := fun_mk (st := tops 15) l18 c18 k18
  have b18 := F18.binds (ps := ["one", "other"]) fun _ _ _ _ _ _ us hl => match us, hl with | [_, _], _ => rfl
  have F19 := fun_mk (st := tops 8) l19 c19 k19
  have b19 := F19.binds (ps := ["people"]) fun _ _ _ _ _ _ us hl => match us, hl with | [_], _ => rfl
  have F20 := fun_mk (st := tops 16) l20 c20 k20
  have b20 := F20.binds (ps := ["one", "other"]) fun _ _ _ _ _ _ us hl => match us, hl with | [_, _], _ => rfl
  have F21 := fun_mk (st := tops 17) l21 c21 k21
  have b21 := F21.binds (ps := ["one", "other"]) fun _ _ _ _ _ _ us hl => match us, hl with | [_, _], _ => rfl
  have F22 := fun_mk (st := tops 19) l22 c22 k22
  have b22 := F22.binds (ps := ["house", "gone", "post"]) fun _ _ _ _ _ _ us hl => match us, hl with | [_, _, _], _ => rfl
  have F23 := fun_mk (st := tops 20) l23 c23 k23
  have b23 := F23.binds (ps := ["house", "gone"]) fun _ _ _ _ _ _ us hl => match us, hl with | [_, _], _ => rfl
  have F24 := fun_mk (st := tops 30) l24 c24 k24
  have b24 := F24.binds (ps := ["script"]) fun _ _ _ _ _ _ us hl => match us, hl with | [_], _ => rfl
  refine ⟨PySem.W.fnOf "law" "law" (defArgs (tops 30)) (defBody (tops 30)) (defScope (tops 30)) .none kV24 dc24 pm24 an24 cd24 ct24, fun s v => .of_eq rfl, fun base _ _ sys => ?_⟩
  have G1 : FnG l.prog w K mg base 1 f1 _ _ (spOf K [false] openSp) := fn_ok (Φ := Phi 0) (body := f_law_open) F1 sc_law_open rfl sys blt (fun p hp => absurd hp (by simp [L_law_open])) m_law_open (open_ok _)
  have G2 : FnG l.prog w K mg base 1 f2 _ _ (spOf K [false, false] spreadSp) := fn_ok (Φ := Phi 0) (body := f_law_spread) F2 sc_law_spread rfl sys blt (fun p hp => absurd hp (by simp [L_law_spread])) m_law_spread (spread_ok _)
  have G3 : FnG l.prog w K mg base 2 f3 _ _ (spOf K [true, false] takeSp) := fn_ok (Φ := Phi 0) (body := f_law_take) F3 sc_law_take rfl sys blt (fun p hp => by
      simp only [L_law_take, List.mem_cons, List.not_mem_nil, or_false] at hp
      rcases hp with rfl
      · exact ⟨_, _, _, PySem.W.mg_of X G a2, k2, b2, by rw [Phi_law_spread]; exact G2.mono (by decide)⟩) m_law_take (take_ok _ Phi_law_spread)
  have G4 : FnG l.prog w K mg base 3 f4 _ _ (spOf K [true, false] oneOfSp) := fn_ok (Φ := Phi 0) (body := f_law_one_of) F4 sc_law_one_of rfl sys blt (fun p hp => by
      simp only [L_law_one_of, List.mem_cons, List.not_mem_nil, or_false] at hp
      rcases hp with rfl
      · exact ⟨_, _, _, PySem.W.mg_of X G a3, k3, b3, by rw [Phi_law_take]; exact G3.mono (by decide)⟩) m_law_one_of (one_of_ok _ Phi_law_take)
  have G5 : FnG l.prog w K mg base 3 f5 _ _ (spOf K [true, false, false] someSp) := fn_ok (Φ := Phi 0) (body := f_law_some) F5 sc_law_some rfl sys blt (fun p hp => by
      simp only [L_law_some, List.mem_cons, List.not_mem_nil, or_false] at hp
      rcases hp with rfl
      · exact ⟨_, _, _, PySem.W.mg_of X G a3, k3, b3, by rw [Phi_law_take]; exact G3.mono (by decide)⟩) m_law_some (law_some_ok _ Phi_law_take)
  have G6 : FnG l.prog w K mg base 4 f6 _ _ (spOf K [true, false, false] drawBSp) := fn_ok (Φ := Phi 0) (body := f_law_draw_house) F6 sc_law_draw_house rfl sys blt (fun p hp => by
      simp only [L_law_draw_house, List.mem_cons, List.not_mem_nil, or_false] at hp
      rcases hp with rfl | rfl | rfl
      · exact ⟨_, _, _, PySem.W.mg_of X G a3, k3, b3, by rw [Phi_law_take]; exact G3.mono (by decide)⟩
      · exact ⟨_, _, _, PySem.W.mg_of X G a5, k5, b5, by rw [Phi_law_some]; exact G5.mono (by decide)⟩
      · exact ⟨_, _, _, PySem.W.mg_of X G a4, k4, b4, by rw [Phi_law_one_of]; exact G4.mono (by decide)⟩) m_law_draw_house (draw_houseB_ok _ Phi_law_take Phi_law_one_of Phi_law_some)
  have G7 : FnG l.prog w K mg base 1 f7 _ _ (spOf K [false, false] fitSp) := fit_fn (k := 0) (Φ := Phi 0) F7 sc_law_fit rfl rfl sys blt m_law_fit
  have G8 : FnG l.prog w K mg base 5 f8 _ _ (spOf K [true, false, false] keptSp) := fn_ok (Φ := Phi 0) (body := f_law_draw_kept) F8 sc_law_draw_kept rfl sys blt (fun p hp => by
      simp only [L_law_draw_kept, List.mem_cons, List.not_mem_nil, or_false] at hp
      rcases hp with rfl | rfl | rfl
      · exact ⟨_, _, _, PySem.W.mg_of X G a6, k6, b6, by rw [Phi_law_draw_house]; exact G6.mono (by decide)⟩
      · exact ⟨_, _, _, PySem.W.mg_of X G a5, k5, b5, by rw [Phi_law_some]; exact G5.mono (by decide)⟩
      · exact ⟨_, _, _, PySem.W.mg_of X G a7, k7, b7, by rw [Phi_law_fit]; exact G7.mono (by decide)⟩) m_law_draw_kept (draw_kept_ok _ Phi_law_draw_house Phi_law_some Phi_law_fit)
  have G9 : FnG l.prog w K mg base 1 f9 _ _ (spOf K [false, false] pairsOfSp) := fn_ok (Φ := Phi 0) (body := f_pairs_of) F9 sc_pairs_of rfl sys blt (fun p hp => absurd hp (by simp [L_pairs_of])) m_pairs_of (pairs_of_ok _)
  have G10 : FnG l.prog w K mg base 1 f10 _ _ (spOf K [true, false, false, false] moveSp) := fn_ok (Φ := Phi 0) (body := f_move_on) F10 sc_move_on rfl sys blt (fun p hp => absurd hp (by simp [L_move_on])) m_move_on (move_on_ok _)
  have G11 : FnG l.prog w K mg base 2 f11 _ _ (spOf K [false, false, true, false] placeSp) := fn_ok (Φ := Phi 0) (body := f_place) F11 sc_place rfl sys blt (fun p hp => by
      simp only [L_place, List.mem_cons, List.not_mem_nil, or_false] at hp
      rcases hp with rfl
      · exact ⟨_, _, _, PySem.W.mg_of X G a10, k10, b10, by rw [Phi_move_on]; exact G10.mono (by decide)⟩) m_place (place_ok _ Phi_move_on)
  have G12 : FnG l.prog w K mg base 3 f12 _ _ (spOf K [false, false] settledSp) := fn_ok (Φ := Phi 0) (body := f_settled) F12 sc_settled rfl sys blt (fun p hp => by
      simp only [L_settled, List.mem_cons, List.not_mem_nil, or_false] at hp
      rcases hp with rfl
      · exact ⟨_, _, _, PySem.W.mg_of X G a11, k11, b11, by rw [Phi_place]; exact G11.mono (by decide)⟩) m_settled (settled_ok _ Phi_place)
  have G13 : FnG l.prog w K mg base 4 f13 _ _ (spOf K [false, false] findSp) := fn_ok (Φ := Phi 0) (body := f_find_roster) F13 sc_find_roster rfl sys blt (fun p hp => by
      simp only [L_find_roster, List.mem_cons, List.not_mem_nil, or_false] at hp
      rcases hp with rfl
      · exact ⟨_, _, _, PySem.W.mg_of X G a12, k12, b12, by rw [Phi_settled]; exact G12.mono (by decide)⟩) m_find_roster (find_roster_ok _ Phi_settled)
  have G14 : FnG l.prog w K mg base 1 f14 _ _ (spOf K [false, false] withoutPostSp) := fn_ok (Φ := Phi 0) (body := f_without_post) F14 sc_without_post rfl sys blt (fun p hp => absurd hp (by simp [L_without_post])) m_without_post (without_post_ok _)
  have G15 : FnG l.prog w K mg base 1 f15 _ _ (spOf K [false, false] withPersonSp) := fn_ok (Φ := Phi 0) (body := f_with_person) F15 sc_with_person rfl sys blt (fun p hp => absurd hp (by simp [L_with_person])) m_with_person (with_person_ok _)
  have G16 : FnG l.prog w K mg base 5 f16 _ _ (spOf K [false, false, false, false] findWithSp) := fn_ok (Φ := Phi 0) (body := f_find_with) F16 sc_find_with rfl sys blt (fun p hp => by
      simp only [L_find_with, List.mem_cons, List.not_mem_nil, or_false] at hp
      rcases hp with rfl | rfl | rfl
      · exact ⟨_, _, _, PySem.W.mg_of X G a13, k13, b13, by rw [Phi_find_roster]; exact G13.mono (by decide)⟩
      · exact ⟨_, _, _, PySem.W.mg_of X G a14, k14, b14, by rw [Phi_without_post]; exact G14.mono (by decide)⟩
      · exact ⟨_, _, _, PySem.W.mg_of X G a15, k15, b15, by rw [Phi_with_person]; exact G15.mono (by decide)⟩) m_find_with (find_with_ok _ Phi_find_roster Phi_without_post Phi_with_person)
  have G17 : FnG l.prog w K mg base 6 f17 _ _ (spOf K [false] tidiedSp) := td_fn (Φ := Phi 0) F17 sc_tidied rfl rfl sys blt (fun p hp => by
      simp only [List.mem_cons, List.not_mem_nil, or_false] at hp
      rcases hp with rfl | rfl
      · exact ⟨_, _, _, PySem.W.mg_of X G a9, k9, b9, by rw [Phi_pairs_of]; exact G9.mono (by decide)⟩
      · exact ⟨_, _, _, PySem.W.mg_of X G a16, k16, b16, by rw [Phi_find_with]; exact G16.mono (by decide)⟩) m_tidied (tidied_ok _ Phi_pairs_of Phi_find_with)
  have G18 : FnG l.prog w K mg base 6 f18 _ _ (spOf K [false, false] onlySp) := fn_ok (Φ := Phi 0) (body := f_find_only) F18 sc_find_only rfl sys blt (fun p hp => by
      simp only [L_find_only, List.mem_cons, List.not_mem_nil, or_false] at hp
      rcases hp with rfl | rfl
      · exact ⟨_, _, _, PySem.W.mg_of X G a9, k9, b9, by rw [Phi_pairs_of]; exact G9.mono (by decide)⟩
      · exact ⟨_, _, _, PySem.W.mg_of X G a16, k16, b16, by rw [Phi_find_with]; exact G16.mono (by decide)⟩) m_find_only (find_only_ok _ Phi_pairs_of Phi_find_with)
  have G19 : FnG l.prog w K mg base 1 f19 _ _ (spOf K [false] groupsSp) := fn_ok (Φ := Phi 0) (body := f_groups_of) F19 sc_groups_of rfl sys blt (fun p hp => absurd hp (by simp [L_groups_of])) m_groups_of (groups_of_ok _)
  have G20 : FnG l.prog w K mg base 5 f20 _ _ (spOf K [false, false] worseSp) := fn_ok (Φ := Phi 0) (body := f_find_worse) F20 sc_find_worse rfl sys blt (fun p hp => by
      simp only [L_find_worse, List.mem_cons, List.not_mem_nil, or_false] at hp
      rcases hp with rfl | rfl
      · exact ⟨_, _, _, PySem.W.mg_of X G a19, k19, b19, by rw [Phi_groups_of]; exact G19.mono (by decide)⟩
      · exact ⟨_, _, _, PySem.W.mg_of X G a13, k13, b13, by rw [Phi_find_roster]; exact G13.mono (by decide)⟩) m_find_worse (find_worse_ok _ Phi_groups_of Phi_find_roster)
  have G21 : FnG l.prog w K mg base 6 f21 _ _ (spOf K [false, false] bearsSp) := fn_ok (Φ := Phi 0) (body := f_bears_as_much) F21 sc_bears_as_much rfl sys blt (fun p hp => by
      simp only [L_bears_as_much, List.mem_cons, List.not_mem_nil, or_false] at hp
      rcases hp with rfl
      · exact ⟨_, _, _, PySem.W.mg_of X G a20, k20, b20, by rw [Phi_find_worse]; exact G20.mono (by decide)⟩) m_bears_as_much (bears_ok _ Phi_find_worse)
  have G22 : FnG l.prog w K mg base 2 f22 _ _ (spOf K [false, false, false] cntSp) := cnt_fn (k := 1) (Φ := Phi 0) F22 sc_counted rfl rfl sys blt m_counted ⟨_, _, _, PySem.W.mg_of X G a15, k15, b15, wp_fn (k := 0) F15 sc_with_person rfl rfl sys blt mw_person⟩
  have G23 : FnG l.prog w K mg base 3 f23 _ _ (spOf K [false, false] cntRSp) := fn_ok (Φ := Phi 0) (body := f_count_rosters) F23 sc_count_rosters rfl sys blt (fun p hp => by
      simp only [L_count_rosters, List.mem_cons, List.not_mem_nil, or_false] at hp
      rcases hp with rfl
      · exact ⟨_, _, _, PySem.W.mg_of X G a22, k22, b22, by rw [Phi_counted]; exact G22.mono (by decide)⟩) m_count_rosters (count_rosters_ok _ Phi_counted)
  have G24 : FnG l.prog w K mg base 7 fa _ _ (spOf K [false] lawSp) := fn_ok (Φ := Phi 0) (body := f_law) F24 sc_law rfl sys blt (fun p hp => by
      simp only [L_law, List.mem_cons, List.not_mem_nil, or_false] at hp
      rcases hp with rfl | rfl | rfl | rfl | rfl | rfl | rfl | rfl | rfl
      · exact ⟨_, _, _, PySem.W.mg_of X G a1, k1, b1, by rw [Phi_law_open]; exact G1.mono (by decide)⟩
      · exact ⟨_, _, _, PySem.W.mg_of X G a4, k4, b4, by rw [Phi_law_one_of]; exact G4.mono (by decide)⟩
      · exact ⟨_, _, _, PySem.W.mg_of X G a8, k8, b8, by rw [Phi_law_draw_kept]; exact G8.mono (by decide)⟩
      · exact ⟨_, _, _, PySem.W.mg_of X G a17, k17, b17, by rw [Phi_tidied]; exact G17.mono (by decide)⟩
      · exact ⟨_, _, _, PySem.W.mg_of X G a5, k5, b5, by rw [Phi_law_some]; exact G5.mono (by decide)⟩
      · exact ⟨_, _, _, PySem.W.mg_of X G a18, k18, b18, by rw [Phi_find_only]; exact G18.mono (by decide)⟩
      · exact ⟨_, _, _, PySem.W.mg_of X G a21, k21, b21, by rw [Phi_bears_as_much]; exact G21.mono (by decide)⟩
      · exact ⟨_, _, _, PySem.W.mg_of X G a23, k23, b23, by rw [Phi_count_rosters]; exact G23.mono (by decide)⟩
      · exact ⟨_, _, _, PySem.W.mg_of X G a16, k16, b16, by rw [Phi_find_with]; exact G16.mono (by decide)⟩) m_law (law_ok _ Phi_law_open Phi_law_one_of Phi_law_some Phi_law_draw_kept Phi_tidied Phi_find_only Phi_bears_as_much Phi_count_rosters Phi_find_with)
  exact G24
end Co
open PySem PySem.W PyProof.Rows in
set_option maxRecDepth 100000 in
set_option maxHeartbeats 0 in
theorem PySem.Challenge.cw_sparehands_k64_whole_tidy_houses_holds : PySem.Challenge.rw_sparehands_k64_whole_tidy_houses.Holds := by
  w_on; o_law; k_head; (case hw => w_witness2)
  k_fill
  refine Co.walkG (l := PySem.Challenge.rw_sparehands_k64_whole_tidy_houses) (k := 7) (x := "script") rfl (by decide) rfl ⟨rfl, by decide, by decide⟩ (fun w h Y => PySem.W.kIn_of Y) ?F
  case F =>
    intro w mg fa h KX G hmg
    refine' Co.all_mk KX G hmg ?a1 ?l1 ?c1 ?k1 ?a2 ?l2 ?c2 ?k2 ?a3 ?l3 ?c3 ?k3 ?a4 ?l4 ?c4 ?k4 ?a5 ?l5 ?c5 ?k5 ?a6 ?l6 ?c6 ?k6 ?a7 ?l7 ?c7 ?k7 ?a8 ?l8 ?c8 ?k8 ?a9 ?l9 ?c9 ?k9 ?a10 ?l10 ?c10 ?k10 ?a11 ?l11 ?c11 ?k11 ?a12 ?l12 ?c12 ?k12 ?a13 ?l13 ?c13 ?k13 ?a14 ?l14 ?c14 ?k14 ?a15 ?l15 ?c15 ?k15 ?a16 ?l16 ?c16 ?k16 ?a17 ?l17 ?c17 ?k17 ?a18 ?l18 ?c18 ?k18 ?a19 ?l19 ?c19 ?k19 ?a20 ?l20 ?c20 ?k20 ?a21 ?l21 ?c21 ?k21 ?a22 ?l22 ?c22 ?k22 ?a23 ?l23 ?c23 ?k23 ?a24 ?l24 ?c24 ?k24 ?z1 ?z2 ?z3 ?z4 ?z5 ?z6 ?z7 ?z8 ?z9 ?z10 ?z11 ?z12 ?z13 ?z14 ?z15 ?z16 ?z17 ?z18 ?z19
    (case a1 => k_is)
    (case l1 => k_is)
    (case c1 => k_is)
    (case k1 => k_is)
    (case a2 => k_is)
    (case l2 => k_is)
    (case c2 => k_is)
    (case k2 => k_is)
    (case a3 => k_is)
    (case l3 => k_is)
    (case c3 => k_is)
    (case k3 => k_is)
    (case a4 => k_is)
    (case l4 => k_is)
    (case c4 => k_is)
    (case k4 => k_is)
    (case a5 => k_is)
    (case l5 => k_is)
    (case c5 => k_is)
    (case k5 => k_is)
    (case a6 => k_is)
    (case l6 => k_is)
    (case c6 => k_is)
    (case k6 => k_is)
    (case a7 => k_is)
    (case l7 => k_is)
    (case c7 => k_is)
    (case k7 => k_is)
    (case a8 => k_is)
    (case l8 => k_is)
    (case c8 => k_is)
    (case k8 => k_is)
    (case a9 => k_is)
    (case l9 => k_is)
    (case c9 => k_is)
    (case k9 => k_is)
    (case a10 => k_is)
    (case l10 => k_is)
    (case c10 => k_is)
    (case k10 => k_is)
    (case a11 => k_is)
    (case l11 => k_is)
    (case c11 => k_is)
    (case k11 => k_is)
    (case a12 => k_is)
    (case l12 => k_is)
    (case c12 => k_is)
    (case k12 => k_is)
    (case a13 => k_is)
    (case l13 => k_is)
    (case c13 => k_is)
    (case k13 => k_is)
    (case a14 => k_is)
    (case l14 => k_is)
    (case c14 => k_is)
    (case k14 => k_is)
    (case a15 => k_is)
    (case l15 => k_is)
    (case c15 => k_is)
    (case k15 => k_is)
    (case a16 => k_is)
    (case l16 => k_is)
    (case c16 => k_is)
    (case k16 => k_is)
    (case a17 => k_is)
    (case l17 => k_is)
    (case c17 => k_is)
    (case k17 => k_is)
    (case a18 => k_is)
    (case l18 => k_is)
    (case c18 => k_is)
    (case k18 => k_is)
    (case a19 => k_is)
    (case l19 => k_is)
    (case c19 => k_is)
    (case k19 => k_is)
    (case a20 => k_is)
    (case l20 => k_is)
    (case c20 => k_is)
    (case k20 => k_is)
    (case a21 => k_is)
    (case l21 => k_is)
    (case c21 => k_is)
    (case k21 => k_is)
    (case a22 => k_is)
    (case l22 => k_is)
    (case c22 => k_is)
    (case k22 => k_is)
    (case a23 => k_is)
    (case l23 => k_is)
    (case c23 => k_is)
    (case k23 => k_is)
    (case a24 => k_is)
    (case l24 => k_is)
    (case c24 => k_is)
    (case k24 => k_is)
    (case z1 => k_is)
    (case z2 => k_is)
    (case z3 => k_is)
    (case z4 => k_is)
    (case z5 => k_is)
    (case z6 => k_is)
    (case z7 => k_is)
    (case z8 => k_is)
    (case z9 => k_is)
    (case z10 => k_is)
    (case z11 => k_is)
    (case z12 => k_is)
    (case z13 => k_is)
    (case z14 => k_is)
    (case z15 => k_is)
    (case z16 => k_is)
    (case z17 => k_is)
    (case z18 => k_is)
    (case z19 => k_is)
