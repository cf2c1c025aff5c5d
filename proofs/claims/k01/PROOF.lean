import PyProof.Rows.All
import Wide.All
import OpenK.AllK
import Wide.FinOn
import HandS.ForMost
import HandS.Evl
import HandS.TupAny
import HandS.TupMul
import HandS.TupLe
import HandS.Deep
import HandS.Style
import HandS.SortInts
import HandS.IsInst
import HandS.Strs
import HandS.Conv
import KE.KRevSl
import HandS.NamedTupSort
import HandS.TupSets
import KE.KSortTup
import HandS.Walk
import HandS.SetFor
import KE.GoesEnum
import HandS.Small
import HandS.Ends
import PySem.Challenge.RW_sparehands_k01_houses_recognized
set_option Elab.async false
set_option maxRecDepth 100000
set_option maxHeartbeats 4000000
set_option linter.all false
/-! Co0: a little language over pure data, and its weakest preconditions. -/
namespace Co
open PySem

/-- the largest size that is asked for -/
def LINE : Nat := 16777216

/-- what an expression hands back: a fresh list or dict of its own, a value, or the name in slot i -/
inductive R where
  | own (d : PyData) | val (d : PyData) | pl (i : Nat)
/-- what a name holds -/
inductive Sl where
  | own (d : PyData) | val (d : PyData)
  /-- a list that the caller lent, to be changed -/
  | io (d : PyData)
abbrev Env := List (Option Sl)

inductive BOp where
  | add | sub | mul | fdiv | mod | pow
  deriving DecidableEq
inductive COp where
  | eq | ne | lt | le | gt | ge | isin | notin
  deriving DecidableEq
/-- built-ins of one argument -/
inductive B1 where
  | len | repr | sorted | tuple | list | min | sum | all | any | int | lenset | sortset
  deriving DecidableEq
inductive B2 where
  | max | min
  deriving DecidableEq
inductive Ty where
  | int | bool | str | tuple | list | dict
  deriving DecidableEq
/-- a target -/
inductive Tg where
  | nm (i : Nat) | tp (is : List Nat)

mutual
inductive E where
  | var (i : Nat)
  | cst (d : PyData)
  | tup (es : Es)
  | lst (es : Es)
  | dct (es : Es)
  | bin (op : BOp) (a b : E)
  | lrep (es : Es) (k : E)
  | glb (x : String) (n : Nat)
  | rg1 (a : E)
  | rg2 (a b : E)
  | orep (x k : E)
  | neg (a : E)
  | not (a : E)
  | cmp (op : COp) (a b : E)
  | isn (a : E)
  | notn (a : E)
  | chain (o1 o2 : COp) (a b c : E)
  | and (a b : E)
  | or (a b : E)
  | ite (c a b : E)
  | idx (a i : E)
  | slo (a lo : E)
  | shi (a hi : E)
  | slh (a lo hi : E)
  | rev (a : E)
  | call (f : String) (sig : List Bool) (es : Es)
  | b1 (f : B1) (a : E)
  | b2 (f : B2) (a b : E)
  | isi (a : E) (ts : List Ty)
  | index (a b : E)
  | get1 (a k : E)
  | get2 (a k x : E)
  | append (i : Nat) (a : E)
  | extend (i : Nat) (a : E)
  | pop (i : Nat)
  | popat (i : Nat) (a : E)
  | lc (own : List Nat) (tg : Tg) (it : It) (cs : Es) (elt : E)
  | lc2 (own : List Nat) (tg : Tg) (it : It) (cs : Es) (tg2 : Tg) (it2 : It) (cs2 : Es) (elt : E)
inductive Es where
  | nil | cons (e : E) (es : Es)
inductive It where
  | of (e : E)
  | range1 (a : E)
  | range2 (a b : E)
  | enum (a : E)
  | zip2 (strict : Bool) (a b : E)
  | zip3 (strict : Bool) (a b c : E)
end

inductive S where
  | skip
  | seq (a b : S)
  | expr (e : E)
  | asg (i : Nat) (e : E)
  | unpack (is : List Nat) (e : E)
  | par (is : List Nat) (es : Es)
  | put (i : Nat) (k e : E)
  | aug (i : Nat) (op : BOp) (e : E)
  | ifs (c : E) (a b : S)
  | for (tg : Tg) (it : It) (body : S)
  | whl (c : E) (body : S)
  | ret (e : E)
  | retn
  | brk
  | cont

/-- keeps what it tells of from being rewritten -/
inductive Kp {α : Sort u} (a : α) : Type where
  | mk
/-- one way or the other -/
def brn (b : Bool) (A B : Prop) (_ : Kp A) (_ : Kp B) : Prop := if b = true then A else B
/-- f, then K -/
def stp {α : Sort u} (f : α → Prop) (K : α) (_ : Kp K) : Prop := f K
/-- a def's promise: the arguments' data, what is wanted of the result and of the arguments that it changes -/
abbrev Spec := List PyData → (Sl → List PyData → Prop) → Prop
abbrev Tbl := String → Spec

/-! ### data -/
mutual
/-- no list, no dict within -/
def noRef : PyData → Bool
  | .list _ | .dict _ => false
  | .tuple xs => noRefs xs
  | .none | .bool _ | .int _ | .str _ => true
def noRefs : List PyData → Bool
  | [] => true
  | x :: xs => noRef x && noRefs xs
end
def isNoneD : PyData → Bool
  | .none => true
  | _ => false
def itemsOf : PyData → Option (List PyData)
  | .list xs | .tuple xs => some xs
  | _ => none
def boolsOf : List PyData → Option (List Bool)
  | [] => some []
  | .bool b :: r => (boolsOf r).map (b :: ·)
  | _ => none
def intsOf : List PyData → Option (List Int)
  | [] => some []
  | .int i :: r => (intsOf r).map (i :: ·)
  | _ => none
def isTy : Ty → PyData → Bool
  | .int, .int _ | .int, .bool _ | .bool, .bool _ | .str, .str _ | .tuple, .tuple _ | .list, .list _ | .dict, .dict _ => true
  | _, _ => false
abbrev ixN (n : Nat) (i : Int) : Option Nat := L2.ixN n i
def cut (xs : List PyData) (lo hi : Option Int) : List PyData := (xs.drop (HT.sIx xs.length 0 lo)).take (HT.sIx xs.length xs.length hi - HT.sIx xs.length 0 lo)
/-- a key of a dict that is served: an int, a text, a tuple of such -/
def keyEq : PyData → PyData → Bool := PyData.eqv
def lookK (kvs : List (PyData × PyData)) (k : PyData) : Option PyData := (kvs.find? fun p => PyData.eqv p.1 k).map (·.2)
def putK (kvs : List (PyData × PyData)) (k v : PyData) : List (PyData × PyData) :=
  if (kvs.any fun p => PyData.eqv p.1 k) = true then kvs.map (fun p => if PyData.eqv p.1 k = true then (p.1, v) else p) else kvs ++ [(k, v)]
def isKey : PyData → Bool
  | .int _ | .str _ => true
  | _ => false
/-! ### results and names -/
def slot (env : Env) (i : Nat) : Option Sl := (env[i]?).join
def peek (r : R) (env : Env) : Option PyData :=
  match r with
  | .own d => some d
  | .val d => some d
  | .pl i => match slot env i with
    | some (.own d) => some d
    | some (.val d) => some d
    | some (.io d) => some d
    | none => none
/-- new contents of a list that may be changed -/
def slC : Option Sl → Option PyData
  | some (.own d) => some d
  | some (.io d) => some d
  | _ => none
def setC (env : Env) (i : Nat) (d : PyData) : Env :=
  match slot env i with
  | some (.io _) => env.set i (some (.io d))
  | _ => env.set i (some (.own d))
def isLst : Option PyData → Bool
  | some (.list _) => true
  | _ => false
/-- as a value that is shared from now on -/
def asV (r : R) (env : Env) (K : PyData → Env → Prop) : Prop :=
  match r with
  | .own d => K d env
  | .val d => K d env
  | .pl i => match slot env i with
    | some (.val d) => K d env
    | some (.own d) => K d (env.set i (some (.val d)))
    | _ => False
/-- as what a name is to hold: a list of its own goes over -/
def asS (r : R) (env : Env) (K : Sl → Env → Prop) : Prop :=
  match r with
  | .own d => K (.own d) env
  | .val d => K (.val d) env
  | .pl i => match slot env i with
    | some (.val d) => K (.val d) env
    | some (.own d) => K (.own d) (env.set i none)
    | _ => False
def asVs : List R → Env → (List PyData → Env → Prop) → Prop
  | [], env, K => K [] env
  | r :: rs, env, K => asV r env fun d env1 => asVs rs env1 fun ds env2 => K (d :: ds) env2
def asSs : List R → Env → (List Sl → Env → Prop) → Prop
  | [], env, K => K [] env
  | r :: rs, env, K => asS r env fun d env1 => asSs rs env1 fun ds env2 => K (d :: ds) env2
def setMany : Env → List Nat → List Sl → Env
  | env, i :: is, x :: xs => setMany (env.set i (some x)) is xs
  | env, _, _ => env
def bindT (tg : Tg) (x : PyData) (env : Env) (K : Env → Prop) : Prop :=
  match tg with
  | .nm i => K (env.set i (some (.val x)))
  | .tp is => match x with
    | .tuple xs => xs.length = is.length ∧ K (setMany env is (xs.map .val))
    | _ => False
def wipeE (env : Env) : List Nat → Env
  | [] => env
  | v :: vs => (wipeE env vs).set v none
/-- behind a comprehension's block: its own names are what they were -/
def unwipe (env0 env1 : Env) : List Nat → Env
  | [] => env1
  | v :: vs => (unwipe env0 env1 vs).set v (match slot env0 v with | some (.val d) => some (.val d) | _ => none)

/-! ### operations on data -/
def intBin (op : BOp) (i j : Int) (Q : R → Prop) : Prop :=
  match op with
  | .add => Q (.val (.int (i + j)))
  | .sub => Q (.val (.int (i - j)))
  | .mul => L2.CMul i j ∧ Q (.val (.int (i * j)))
  | .fdiv => L2.CDiv i j ∧ Q (.val (.int (i / j)))
  | .mod => 0 < j ∧ Q (.val (.int (i % j)))
  | .pow => L2.CPow i j ∧ Q (.val (.int (i ^ j.toNat)))
def bI (b : Bool) : Int := if b = true then 1 else 0
def boolBin (op : BOp) (b : Bool) (j : Int) (Q : R → Prop) : Prop :=
  match op with
  | .add => Q (.val (.int (bI b + j)))
  | .sub => Q (.val (.int (bI b - j)))
  | .mul => Q (.val (.int (bI b * j)))
  | _ => False
def binD (op : BOp) (x y : PyData) (Q : R → Prop) : Prop :=
  match x, y with
  | .int i, .int j => intBin op i j Q
  | .bool b, .int j => boolBin op b j Q
  | .str a, .str b => op = .add ∧ a.length + b.length ≤ LINE ∧ Q (.val (.str (a ++ b)))
  | .list a, .list b => op = .add ∧ a.length + b.length ≤ LINE ∧ Q (.own (.list (a ++ b)))
  | .tuple a, .tuple b => op = .add ∧ a.length + b.length ≤ LINE ∧ Q (.val (.tuple (a ++ b)))
  | .tuple a, .int k => op = .mul ∧ a ≠ [] ∧ 0 ≤ k ∧ k ≤ 1000 ∧ a.length ≤ 1000 ∧ Q (.val (.tuple (List.replicate k.toNat a).flatten))
  | _, _ => False
def ordI (op : COp) (i j : Int) : Bool :=
  match op with
  | .lt => decide (i < j)
  | .le => decide (i ≤ j)
  | .gt => decide (j < i)
  | _ => decide (j ≤ i)
def memD (x y : PyData) (K : Bool → Prop) : Prop :=
  match y with
  | .list ds => SeqAt.shaped x = true ∧ SeqAt.shaped y = true ∧ K (ds.any fun z => PyData.eqv z x)
  | .tuple ds => SeqAt.shaped x = true ∧ SeqAt.shaped y = true ∧ K (ds.any fun z => PyData.eqv z x)
  | .dict kvs => isKey x = true ∧ K (lookK kvs x).isSome
  | _ => False
def ordD (op : COp) (x y : PyData) (K : Bool → Prop) : Prop :=
  match x, y with
  | .int i, .int j => K (ordI op i j)
  | .int i, .bool b => op = .le ∧ K (decide (i ≤ bI b))
  | .bool b, .int j => op = .lt ∧ K (decide (bI b < j))
  | _, _ => False
def eqD (x y : PyData) (K : Bool → Prop) : Prop :=
  match x, y with
  | .str a, .str b => K (decide (a = b))
  | x, y => SeqAt.shaped x = true ∧ SeqAt.shaped y = true ∧ K (PyData.eqv x y)
def cmpD (op : COp) (x y : PyData) (K : Bool → Prop) : Prop :=
  match op with
  | .eq => eqD x y K
  | .ne => eqD x y fun b => K (!b)
  | .isin => memD x y K
  | .notin => memD x y fun b => K (!b)
  | op => ordD op x y K
def idxD (x i : PyData) (K : PyData → Prop) : Prop :=
  match x, i with
  | .list ds, .int k => ∃ v, L2.atI ds k = some v ∧ K v
  | .tuple ds, .int k => ∃ v, L2.atI ds k = some v ∧ K v
  | .dict kvs, k => isKey k = true ∧ ∃ v, lookK kvs k = some v ∧ K v
  | _, _ => False
def slcD (x : PyData) (lo hi : Option Int) (Q : R → Prop) : Prop :=
  match x with
  | .list ds => Q (.own (.list (cut ds lo hi)))
  | .tuple ds => Q (.val (.tuple (cut ds lo hi)))
  | _ => False
def revD (x : PyData) (Q : R → Prop) : Prop :=
  match x with
  | .list ds => Q (.own (.list ds.reverse))
  | .tuple ds => Q (.val (.tuple ds.reverse))
  | _ => False
/-- texts that are told are no longer than this -/
def fits (d : PyData) : Prop := d.showable = true ∧ d.depth ≤ 64 ∧ d.shown.length ≤ LINE
def ltInts : List Int → List Int → Bool := HT.lexLt
/-- tuples of ints, as sorting takes them -/
def tupsOf : List PyData → Option (List (List Int))
  | [] => some []
  | .tuple xs :: r => (intsOf xs).bind fun i => (tupsOf r).map (i :: ·)
  | _ => none
def isort {α : Type} (le : α → α → Bool) (xs : List α) : List α := xs.mergeSort le
def b1D (f : B1) (x : PyData) (Q : R → Prop) : Prop :=
  match f with
  | .len => (match x with
    | .list ds => Q (.val (.int (ds.length : Nat)))
    | .tuple ds => Q (.val (.int (ds.length : Nat)))
    | _ => False)
  | .repr => fits x ∧ Q (.val (.str x.shown))
  | .sorted => (match itemsOf x with
    | some ds => ds.length ≤ LINE ∧ ((∃ ns, intsOf ds = some ns ∧ Q (.own (.list ((isort (fun a b => decide (a ≤ b)) ns).map .int)))) ∨
      (x = .list ds ∧ ∃ ts, tupsOf ds = some ts ∧ (ds.length < 2 ∨ ∀ t ∈ ts, t ≠ []) ∧ ∀ ts' : List (List Int), ts'.Perm ts → ts'.Pairwise (fun a b => HT.lexLt b a = false) → Q (.own (.list (ts'.map fun t => .tuple (t.map .int))))))
    | none => False)
  | .tuple => (match x with
    | .list ds => Q (.val (.tuple ds))
    | .tuple ds => Q (.val (.tuple ds))
    | _ => False)
  | .list => (match x with
    | .list ds => Q (.own (.list ds))
    | .tuple ds => Q (.own (.list ds))
    | .dict kvs => Q (.own (.list (kvs.map (·.1))))
    | _ => False)
  | .min => (match itemsOf x with
    | some ds => ∃ ns, intsOf ds = some ns ∧ 0 < ns.length ∧ ∀ m, m ∈ ns → (∀ y, y ∈ ns → m ≤ y) → Q (.val (.int m))
    | none => False)
  | .sum => (match itemsOf x with
    | some ds => ∃ ns, intsOf ds = some ns ∧ Q (.val (.int ns.sum))
    | none => False)
  | .all => (match x with
    | .list ds => ∃ bs, boolsOf ds = some bs ∧ Q (.val (.bool (bs.all id)))
    | _ => False)
  | .any => (match x with
    | .list ds => ∃ bs, boolsOf ds = some bs ∧ Q (.val (.bool (bs.any id)))
    | _ => False)
  | .int => (match x with
    | .int i => Q (.val (.int i))
    | _ => False)
  | .lenset => (match x with
    | .tuple ds => ∃ ns, intsOf ds = some ns ∧ ns.length ≤ 4000 ∧ ∀ ks : List Int, ks.Nodup → (∀ k, k ∈ ks ↔ k ∈ ns) → Q (.val (.int (ks.length : Nat)))
    | _ => False)
  | .sortset => (match x with
    | .tuple ds => ∃ ns, intsOf ds = some ns ∧ ns.length ≤ 63 ∧ ∀ ms : List Int, ms.Pairwise (· < ·) → (∀ k, k ∈ ms ↔ k ∈ ns) → Q (.own (.list (ms.map .int)))
    | _ => False)
def b2D (f : B2) (x y : PyData) (Q : R → Prop) : Prop :=
  match x, y with
  | .int i, .int j => Q (.val (.int (match f with | .max => max i j | .min => min i j)))
  | _, _ => False

/-! ### calls -/
def noRefR : Sl → Bool
  | .val d => noRef d
  | .own (.list xs) => noRefs xs
  | .own (.dict kvs) => kvs.all fun p => noRef p.1 && noRef p.2
  | _ => false
def peeks : List R → Env → Option (List PyData)
  | [], _ => some []
  | r :: rs, env => match peek r env, peeks rs env with
    | some d, some ds => some (d :: ds)
    | _, _ => none
def isOwn (env : Env) (i : Nat) : Bool := (slC (slot env i)).isSome
def isIo (env : Env) (i : Nat) : Bool := match slot env i with | some (.io _) => true | _ => false
/-- the names whose lists are handed over to be changed -/
def inouts : List Bool → List R → List Nat
  | true :: sg, .pl i :: rs => i :: inouts sg rs
  | _ :: sg, _ :: rs => inouts sg rs
  | _, _ => []
/-- the other names that are handed over -/
def lents : List Bool → List R → List Nat
  | false :: sg, .pl i :: rs => i :: lents sg rs
  | _ :: sg, _ :: rs => lents sg rs
  | _, _ => []
def sigOk : List Bool → List R → Bool
  | [], [] => true
  | true :: sg, .pl _ :: rs => sigOk sg rs
  | false :: sg, _ :: rs => sigOk sg rs
  | _, _ => false
def okArgs (sig : List Bool) (rs : List R) (env : Env) : Bool :=
  sigOk sig rs && (inouts sig rs).all (isOwn env) && (inouts sig rs).all (fun i => !(lents sig rs).contains i) && decide ((inouts sig rs).Nodup)
def setOwn : Env → List Nat → List PyData → Env
  | env, i :: is, d :: ds => setOwn (setC env i d) is ds
  | env, _, _ => env
def freeze : Env → List Nat → Env
  | env, [] => env
  | env, i :: is => match slot env i with
    | some (.own d) => freeze (env.set i (some (.val d))) is
    | _ => freeze env is
def Sl.r : Sl → R
  | .own d => .own d
  | .val d => .val d
  | .io d => .val d
def Sl.d : Sl → PyData
  | .own d => d
  | .val d => d
  | .io d => d
def callW (Sp : Spec) (sig : List Bool) (rs : List R) (env : Env) (Q : R → Env → Prop) : Prop :=
  okArgs sig rs env = true ∧ ∃ ds, peeks rs env = some ds ∧
    stp (Sp ds) (fun res news => news.length = (inouts sig rs).length →
      if (noRefR res && (inouts sig rs).isEmpty) = true then Q res.r env
      else (lents sig rs).all (fun i => !isIo env i) = true ∧ Q res.r (setOwn (freeze env (lents sig rs)) (inouts sig rs) news)) .mk

/-! ### loops over items -/
def lcGo (bind : PyData → Env → (Env → Prop) → Prop) (conds : Env → (Bool → Env → Prop) → Prop) (elt : Env → (PyData → Env → Prop) → Prop) (own : List Nat) :
    List PyData → List PyData → Env → (List PyData → Env → Prop) → Prop
  | [], acc, env, K => K acc (wipeE env own)
  | x :: xs, acc, env, K => bind x (wipeE env own) fun env1 => conds env1 fun b env2 =>
      if b = true then elt env2 fun y env3 => lcGo bind conds elt own xs (acc ++ [y]) env3 K else lcGo bind conds elt own xs acc env2 K
structure Ends where
  nx : Env → Prop
  rt : Sl → Env → Prop
  bk : Env → Prop
  ct : Env → Prop
def forGo (bind : PyData → Env → (Env → Prop) → Prop) (body : Env → Ends → Prop) : List PyData → Env → Ends → Prop
  | [], env, D => D.nx env
  | x :: xs, env, D => bind x env fun env1 => body env1 { nx := fun e => forGo bind body xs e D, rt := D.rt, bk := D.nx, ct := fun e => forGo bind body xs e D }
/-- ints from lo on, so many -/
def rangeL (lo : Int) (n : Nat) : List PyData := (List.range n).map fun (k : Nat) => PyData.int (lo + (k : Int))
def pairs2 (xs ys : List PyData) : List PyData := (xs.zip ys).map fun p => .tuple [p.1, p.2]
def pairs3 (xs ys zs : List PyData) : List PyData := (xs.zip (ys.zip zs)).map fun p => .tuple [p.1, p.2.1, p.2.2]
def enumL (xs : List PyData) : List PyData := pairs2 (rangeL 0 xs.length) xs

/-! ### weakest preconditions -/
def R.isNot (i : Nat) : R → Bool
  | .pl j => decide (j ≠ i)
  | _ => true
def dctGo : List PyData → List (PyData × PyData) → (List (PyData × PyData) → Prop) → Prop
  | [], acc, K => K acc
  | k :: v :: r, acc, K => isKey k = true ∧ dctGo r (putK acc k v) K
  | [_], _, _ => False
def dctD (ds : List PyData) (K : List (PyData × PyData) → Prop) : Prop := ds.length ≤ 20 ∧ dctGo ds [] K
def isT (r : R) (env : Env) (K : Bool → Prop) : Prop :=
  match peek r env with
  | some (.bool b) => K b
  | _ => False
def pk (r : R) (env : Env) (K : PyData → Prop) : Prop :=
  match peek r env with
  | some d => K d
  | none => False
/-- a temporary list is shared as soon as something else is reckoned -/
def R.still : R → R
  | .own d => .val d
  | r => r
mutual
def wpE (Φ : Tbl) : E → Env → (R → Env → Prop) → Prop
  | .var i, env, Q => (slot env i).isSome = true ∧ Q (.pl i) env
  | .cst d, env, Q => Q (.val d) env
  | .tup es, env, Q => wpEs Φ es env fun rs env1 => asVs rs env1 fun ds env2 => Q (.val (.tuple ds)) env2
  | .lst es, env, Q => wpEs Φ es env fun rs env1 => asVs rs env1 fun ds env2 => Q (.own (.list ds)) env2
  | .dct es, env, Q => wpEs Φ es env fun rs env1 => asVs rs env1 fun ds env2 => dctD ds fun kvs => Q (.own (.dict kvs)) env2
  | .bin op a b, env, Q => wpE Φ a env fun r1 env1 => wpE Φ b env1 fun r2 env2 => pk r1 env2 fun x => pk r2 env2 fun y => binD op x y fun r => Q r env2
  | .lrep es a, env, Q => wpEs Φ es env fun rs env1 => asVs rs env1 fun ds env2 => wpE Φ a env2 fun r env3 => pk r env3 fun y => match y with
    | .int k => -(2 ^ 63) ≤ k ∧ k < 2 ^ 63 ∧ ds.length * k.toNat ≤ LINE ∧ Q (.own (.list (List.replicate k.toNat ds).flatten)) env3
    | _ => False
  | .glb x n, env, Q => Q (.val (.int (n : Int))) env
  | .rg1 a, env, Q => wpE Φ a env fun r env1 => pk r env1 fun x => match x with
    | .int j => -(2 ^ 62) ≤ j ∧ j < 2 ^ 62 ∧ j.toNat ≤ LINE ∧ Q (.own (.list (rangeL 0 j.toNat))) env1
    | _ => False
  | .rg2 a b, env, Q => wpE Φ a env fun r1 env1 => wpE Φ b env1 fun r2 env2 => pk r1 env2 fun x => pk r2 env2 fun y => match x, y with
    | .int i, .int j => (-(2 ^ 62) ≤ i ∧ i < 2 ^ 62 ∧ -(2 ^ 62) ≤ j ∧ j < 2 ^ 62) ∧ (j - i).toNat ≤ LINE ∧ Q (.own (.list (rangeL i (j - i).toNat))) env2
    | _, _ => False
  | .orep x k, env, Q => wpE Φ x env fun r env1 => match r with
    | .own (.list ds) => wpE Φ k env1 fun r2 env2 => pk r2 env2 fun y => match y with
      | .int k => -(2 ^ 63) ≤ k ∧ k < 2 ^ 63 ∧ ds.length * k.toNat ≤ LINE ∧ Q (.own (.list (List.replicate k.toNat ds).flatten)) env2
      | _ => False
    | _ => False
  | .neg a, env, Q => wpE Φ a env fun r env1 => pk r env1 fun x => match x with
    | .int i => Q (.val (.int (-i))) env1
    | _ => False
  | .not a, env, Q => wpE Φ a env fun r env1 => isT r env1 fun b => Q (.val (.bool (!b))) env1
  | .cmp op a b, env, Q => wpE Φ a env fun r1 env1 => wpE Φ b env1 fun r2 env2 => pk r1 env2 fun x => pk r2 env2 fun y => cmpD op x y fun b => Q (.val (.bool b)) env2
  | .isn a, env, Q => wpE Φ a env fun r env1 => pk r env1 fun x => Q (.val (.bool (isNoneD x))) env1
  | .notn a, env, Q => wpE Φ a env fun r env1 => pk r env1 fun x => Q (.val (.bool (!isNoneD x))) env1
  | .chain o1 o2 a b c, env, Q => wpE Φ a env fun r1 env1 => wpE Φ b env1 fun r2 env2 => pk r1 env2 fun x => pk r2 env2 fun y => cmpD o1 x y fun b1 =>
      brn b1 (wpE Φ c env2 fun r3 env3 => pk r2 env3 fun y' => pk r3 env3 fun z => cmpD o2 y' z fun b2 => Q (.val (.bool b2)) env3) (Q (.val (.bool false)) env2) .mk .mk
  | .and a b, env, Q => wpE Φ a env fun r env1 => isT r env1 fun t => brn t (wpE Φ b env1 Q) (Q (.val (.bool false)) env1) .mk .mk
  | .or a b, env, Q => wpE Φ a env fun r env1 => isT r env1 fun t => brn t (Q (.val (.bool true)) env1) (wpE Φ b env1 Q) .mk .mk
  | .ite c a b, env, Q => wpE Φ c env fun r env1 => isT r env1 fun t => brn t (wpE Φ a env1 Q) (wpE Φ b env1 Q) .mk .mk
  | .idx a i, env, Q => wpE Φ a env fun r1 env1 => wpE Φ i env1 fun r2 env2 => pk r1 env2 fun x => pk r2 env2 fun y => stp (idxD x y) (fun d => Q (.val d) env2) .mk
  | .slo a lo, env, Q => wpE Φ a env fun r1 env1 => wpE Φ lo env1 fun r2 env2 => pk r1 env2 fun x => pk r2 env2 fun y => match y with
    | .int i => slcD x (some i) none fun r => Q r env2
    | _ => False
  | .shi a hi, env, Q => wpE Φ a env fun r1 env1 => wpE Φ hi env1 fun r2 env2 => pk r1 env2 fun x => pk r2 env2 fun y => match y with
    | .int i => slcD x none (some i) fun r => Q r env2
    | _ => False
  | .slh a lo hi, env, Q => wpE Φ a env fun r1 env1 => wpE Φ lo env1 fun r2 env2 => pk r2 env2 fun y => match y with
    | .int i => wpE Φ hi env2 fun r3 env3 => pk r3 env3 fun z => (match z with
      | .int j => pk r1 env3 fun x => slcD x (some i) (some j) fun r => Q r env3
      | _ => False)
    | _ => False
  | .rev a, env, Q => wpE Φ a env fun r env1 => pk r env1 fun x => revD x fun r' => Q r' env1
  | .call f sig es, env, Q => wpEs Φ es env fun rs env1 => callW (Φ f) sig rs env1 Q
  | .b1 f a, env, Q => wpE Φ a env fun r env1 => pk r env1 fun x => b1D f x fun r' => Q r' env1
  | .b2 f a b, env, Q => wpE Φ a env fun r1 env1 => wpE Φ b env1 fun r2 env2 => pk r1 env2 fun x => pk r2 env2 fun y => b2D f x y fun r => Q r env2
  | .isi a ts, env, Q => wpE Φ a env fun r env1 => pk r env1 fun x => Q (.val (.bool (ts.any fun t => isTy t x))) env1
  | .index a b, env, Q => wpE Φ a env fun r1 env1 => pk r1 env1 (fun x => isTy .tuple x = true) ∧ wpE Φ b env1 fun r2 env2 => pk r1 env2 fun x => pk r2 env2 fun y => match x with
    | .tuple ds => SeqAt.shaped x = true ∧ SeqAt.shaped y = true ∧ ∃ j, ds.findIdx? (fun z => PyData.eqv z y) = some j ∧ Q (.val (.int (j : Nat))) env2
    | _ => False
  | .get1 a k, env, Q => wpE Φ a env fun r1 env1 => pk r1 env1 (fun x => isTy .dict x = true) ∧ wpE Φ k env1 fun r2 env2 => pk r1 env2 fun x => pk r2 env2 fun y => match x with
    | .dict kvs => isKey y = true ∧ stp (fun (K : PyData → Prop) => K ((lookK kvs y).getD .none)) (fun d => Q (.val d) env2) .mk
    | _ => False
  | .get2 a k x, env, Q => wpE Φ a env fun r1 env1 => pk r1 env1 (fun x => isTy .dict x = true) ∧ wpE Φ k env1 fun r2 env2 => wpE Φ x env2 fun r3 env3 => pk r1 env3 fun c => pk r2 env3 fun y => asV r3 env3 fun z env4 => match c with
    | .dict kvs => isKey y = true ∧ stp (fun (K : PyData → Prop) => K ((lookK kvs y).getD z)) (fun d => Q (.val d) env4) .mk
    | _ => False
  | .append i a, env, Q => isLst (slC (slot env i)) = true ∧ wpE Φ a env fun r env1 => asV r env1 fun d env2 => match slC (slot env2 i) with
    | some (.list ds) => ds.length < LINE ∧ Q (.val .none) (setC env2 i (.list (ds ++ [d])))
    | _ => False
  | .extend i a, env, Q => isLst (slC (slot env i)) = true ∧ wpE Φ a env fun r env1 => asV r env1 fun d env1 => match slC (slot env1 i), d with
    | some (.list ds), .list xs => ds.length + xs.length ≤ LINE ∧ Q (.val .none) (setC env1 i (.list (ds ++ xs)))
    | some (.list ds), .tuple xs => ds.length + xs.length ≤ LINE ∧ Q (.val .none) (setC env1 i (.list (ds ++ xs)))
    | _, _ => False
  | .pop i, env, Q => match slC (slot env i) with
    | some (.list ds) => stp (fun (K : PyData → Prop) => ∃ d, ds.getLast? = some d ∧ K d) (fun d => Q (.val d) (setC env i (.list ds.dropLast))) .mk
    | _ => False
  | .popat i a, env, Q => isLst (slC (slot env i)) = true ∧ wpE Φ a env fun r env1 => pk r env1 fun k => match slC (slot env1 i), k with
    | some (.list ds), .int j => -(2 ^ 63) ≤ j ∧ j < 2 ^ 63 ∧ stp (fun (K : Nat → PyData → Prop) => ∃ n d, L2.ixN ds.length j = some n ∧ ds[n]? = some d ∧ K n d) (fun n d => Q (.val d) (setC env1 i (.list (ds.eraseIdx n)))) .mk
    | _, _ => False
  | .lc own tg it cs elt, env, Q => wpI Φ it env fun items env1 => items.length < LINE ∧
      stp (lcGo (bindT tg) (wpCs Φ cs) (fun e K => wpE Φ elt e fun r e1 => asV r e1 K) own items [] env1) (fun ds env2 => Q (.own (.list ds)) (unwipe env1 env2 own)) .mk
  | .lc2 own tg it cs tg2 it2 cs2 elt, env, Q => False
def wpEs (Φ : Tbl) : Es → Env → (List R → Env → Prop) → Prop
  | .nil, env, Q => Q [] env
  | .cons e es, env, Q => wpE Φ e env fun r env1 => wpEs Φ es env1 fun rs env2 => Q (r.still :: rs) env2
def wpEs' (Φ : Tbl) : Es → Env → (List R → Env → Prop) → Prop
  | .nil, env, Q => Q [] env
  | .cons e es, env, Q => wpE Φ e env fun r env1 => wpEs' Φ es env1 fun rs env2 => Q (r :: rs) env2
/-- the tests of a comprehension: none or one -/
def wpCs (Φ : Tbl) : Es → Env → (Bool → Env → Prop) → Prop
  | .nil, env, K => K true env
  | .cons e _, env, K => wpE Φ e env fun r env1 => isT r env1 fun b => K b env1
def wpI (Φ : Tbl) : It → Env → (List PyData → Env → Prop) → Prop
  | .of e, env, K => wpE Φ e env fun r env1 => asV r env1 fun d env2 => match d with
    | .list ds => K ds env2
    | .tuple ds => K ds env2
    | _ => False
  | .range1 a, env, K => wpE Φ a env fun r env1 => pk r env1 fun d => match d with
    | .int j => -(2 ^ 62) ≤ j ∧ j < 2 ^ 62 ∧ K (rangeL 0 j.toNat) env1
    | _ => False
  | .range2 a b, env, K => wpE Φ a env fun r1 env1 => wpE Φ b env1 fun r2 env2 => pk r1 env2 fun x => pk r2 env2 fun y => match x, y with
    | .int i, .int j => (-(2 ^ 62) ≤ i ∧ i < 2 ^ 62 ∧ -(2 ^ 62) ≤ j ∧ j < 2 ^ 62) ∧ K (rangeL i (j - i).toNat) env2
    | _, _ => False
  | .enum a, env, K => wpE Φ a env fun r env1 => asV r env1 fun d env2 => match d with
    | .list ds => K (enumL ds) env2
    | .tuple ds => K (enumL ds) env2
    | _ => False
  | .zip2 strict a b, env, K => wpE Φ a env fun r1 env1 => wpE Φ b env1 fun r2 env2 => asV r1 env2 fun x env3 => asV r2 env3 fun y env4 => match itemsOf x, itemsOf y with
    | some xs, some ys => (strict = true → xs.length = ys.length) ∧ K (pairs2 xs ys) env4
    | _, _ => False
  | .zip3 strict a b c, env, K => wpE Φ a env fun r1 env1 => wpE Φ b env1 fun r2 env2 => wpE Φ c env2 fun r3 env3 => asV r1 env3 fun x env4 => asV r2 env4 fun y env5 => asV r3 env5 fun z env6 =>
      match itemsOf x, itemsOf y, itemsOf z with
      | some xs, some ys, some zs => (strict = true → xs.length = ys.length ∧ ys.length = zs.length) ∧ K (pairs3 xs ys zs) env6
      | _, _, _ => False
end

def wpS (Φ : Tbl) : S → Env → Ends → Prop
  | .skip, env, D => D.nx env
  | .seq a b, env, D => wpS Φ a env { D with nx := fun e => wpS Φ b e D }
  | .expr e, env, D => wpE Φ e env fun _ env1 => D.nx env1
  | .asg i e, env, D => wpE Φ e env fun r env1 => asS r env1 fun s env2 => D.nx (env2.set i (some s))
  | .unpack is e, env, D => wpE Φ e env fun r env1 => pk r env1 fun d => match d with
    | .tuple ds => ds.length = is.length ∧ D.nx (setMany env1 is (ds.map .val))
    | _ => False
  | .par is es, env, D => wpEs' Φ es env fun rs env1 => asSs rs env1 fun ss env2 => ss.length = is.length ∧ D.nx (setMany env2 is ss)
  | .put i k e, env, D => wpE Φ e env fun r env1 => asV r env1 fun d env2 => (slC (slot env2 i)).isSome = true ∧ wpE Φ k env2 fun r2 env3 => pk r2 env3 fun y => match slC (slot env3 i), y with
    | some (.list ds), .int j => ∃ n, L2.ixN ds.length j = some n ∧ D.nx (setC env3 i (.list (ds.set n d)))
    | some (.dict kvs), y => isKey y = true ∧ kvs.length < LINE ∧ D.nx (setC env3 i (.dict (putK kvs y d)))
    | _, _ => False
  | .aug i op e, env, D => match op with
    | .add => (slot env i).isSome = true ∧ wpE Φ e env fun r env1 => pk r env1 fun y => ∃ n k, slot env1 i = some (.val (.int n)) ∧ y = .int k ∧ D.nx (env1.set i (some (.val (.int (n + k)))))
    | .sub => (slot env i).isSome = true ∧ wpE Φ e env fun r env1 => pk r env1 fun y => ∃ n k, slot env1 i = some (.val (.int n)) ∧ y = .int k ∧ D.nx (env1.set i (some (.val (.int (n - k)))))
    | _ => False
  | .ifs c a b, env, D => wpE Φ c env fun r env1 => isT r env1 fun t => brn t (wpS Φ a env1 D) (wpS Φ b env1 D) .mk .mk
  | .for tg it body, env, D => wpI Φ it env fun items env1 => stp (forGo (bindT tg) (wpS Φ body) items env1) D .mk
  | .whl c body, env, D => ∃ W : Nat → Env → Prop, (∃ m, W m env) ∧ ∀ m env, W m env → wpE Φ c env fun r env1 => isT r env1 fun t =>
      brn t (wpS Φ body env1 { nx := fun e => ∃ m', m' < m ∧ W m' e, rt := D.rt, bk := D.nx, ct := fun e => ∃ m', m' < m ∧ W m' e }) (D.nx env1) .mk .mk
  | .ret e, env, D => wpE Φ e env fun r env1 => asS r env1 D.rt
  | .retn, env, D => D.rt (.val .none) env
  | .brk, env, D => D.bk env
  | .cont, env, D => D.ct env
end Co

set_option linter.all false
/-! Co1: how data stands in the layer's heap. -/
namespace Co
open PySem PySem.Spec PyProof.Rows L2

abbrev Frag := PySem.W.Frag
def keyD : Key → PyData
  | .inl i => .int i
  | .inr x => .str x
def dctOf (kv : List (Key × V)) (ds : List PyData) : List (PyData × PyData) := (kv.map fun p => keyD p.1).zip ds

mutual
/-- a value that stands for a datum, all of it shared: in F -/
inductive Den (K : Frag) (F : Hp) : V → PyData → Prop
  | non : Den K F .non .none
  | bl (b : Bool) : Den K F (.bl b) (.bool b)
  | int (i : Int) : Den K F (.int i) (.int i)
  | str (x : Str) : Den K F (.str x) (.str x)
  | lst {a : Addr} {xs : List V} {ds : List PyData} : SqL K F a xs → DenAll K F xs ds → Den K F (.ref a) (.list ds)
  | tup {a : Addr} {xs : List V} {ds : List PyData} : SqT K F a xs → DenAll K F xs ds → Den K F (.ref a) (.tuple ds)
  | dct {a : Addr} {kv : List (Key × V)} {ds : List PyData} {kvs : List (PyData × PyData)} : F a = some (.dK kv) → DenAll K F (kv.map (·.2)) ds → kvs = dctOf kv ds → Den K F (.ref a) (.dict kvs)
inductive DenAll (K : Frag) (F : Hp) : List V → List PyData → Prop
  | nil : DenAll K F [] []
  | cons {v : V} {vs : List V} {d : PyData} {ds : List PyData} : Den K F v d → DenAll K F vs ds → DenAll K F (v :: vs) (d :: ds)
end

section
variable {K : Frag} {F F' H H' : Hp}
theorem same_sqT {a : Addr} {xs : List V} (e : Same F F') (h : SqT K F a xs) : SqT K F' a xs := by
  rcases h with (h | ⟨o, h⟩) | h
  · exact .inl (.inl (e _ _ h))
  · exact .inl (.inr ⟨o, e _ _ h⟩)
  · exact .inr h
mutual
theorem Den.mono (e : Same F F') : ∀ {v : V} {d : PyData}, Den K F v d → Den K F' v d
  | _, _, .non => .non
  | _, _, .bl b => .bl b
  | _, _, .int i => .int i
  | _, _, .str x => .str x
  | _, _, .lst h t => .lst (e.seq h) (DenAll.mono e t)
  | _, _, .tup h t => .tup (same_sqT e h) (DenAll.mono e t)
  | _, _, .dct h t q => .dct (e _ _ h) (DenAll.mono e t) q
theorem DenAll.mono (e : Same F F') : ∀ {vs : List V} {ds : List PyData}, DenAll K F vs ds → DenAll K F' vs ds
  | _, _, .nil => .nil
  | _, _, .cons h t => .cons (Den.mono e h) (DenAll.mono e t)
end
theorem DenAll.length : ∀ {vs : List V} {ds : List PyData}, DenAll K F vs ds → vs.length = ds.length
  | _, _, .nil => rfl
  | _, _, .cons _ t => by simp [DenAll.length t]
theorem DenAll.get : ∀ {vs : List V} {ds : List PyData} {i : Nat} {d : PyData}, DenAll K F vs ds → ds[i]? = some d → ∃ v, vs[i]? = some v ∧ Den K F v d
  | _, _, _, _, .nil, e => by simp at e
  | _, _, 0, _, .cons h _, e => by simp at e; subst e; exact ⟨_, rfl, h⟩
  | _, _, i + 1, _, .cons _ t, e => by simpa using DenAll.get (i := i) t (by simpa using e)
theorem DenAll.getV : ∀ {vs : List V} {ds : List PyData} {i : Nat} {v : V}, DenAll K F vs ds → vs[i]? = some v → ∃ d, ds[i]? = some d ∧ Den K F v d
  | _, _, _, _, .nil, e => by simp at e
  | _, _, 0, _, .cons h _, e => by simp at e; subst e; exact ⟨_, rfl, h⟩
  | _, _, i + 1, _, .cons _ t, e => by simpa using DenAll.getV (i := i) t (by simpa using e)
theorem DenAll.append : ∀ {vs ws : List V} {ds es : List PyData}, DenAll K F vs ds → DenAll K F ws es → DenAll K F (vs ++ ws) (ds ++ es)
  | _, _, _, _, .nil, h => h
  | _, _, _, _, .cons h t, q => .cons h (DenAll.append t q)
theorem DenAll.take (n : Nat) : ∀ {vs : List V} {ds : List PyData}, DenAll K F vs ds → DenAll K F (vs.take n) (ds.take n) := by
  induction n with
  | zero => intro _ _ _; simp; exact .nil
  | succ n ih =>
    intro vs ds h
    cases h with
    | nil => exact .nil
    | cons h t => exact .cons h (ih t)
theorem DenAll.drop (n : Nat) : ∀ {vs : List V} {ds : List PyData}, DenAll K F vs ds → DenAll K F (vs.drop n) (ds.drop n) := by
  induction n with
  | zero => intro _ _ h; exact h
  | succ n ih =>
    intro vs ds h
    cases h with
    | nil => exact .nil
    | cons h t => exact ih t
theorem DenAll.set {v : V} {d : PyData} (q : Den K F v d) : ∀ {vs : List V} {ds : List PyData} (n : Nat), DenAll K F vs ds → DenAll K F (vs.set n v) (ds.set n d)
  | _, _, _, .nil => .nil
  | _, _, 0, .cons _ t => .cons q t
  | _, _, n + 1, .cons h t => .cons h (DenAll.set q n t)
theorem DenAll.erase : ∀ {vs : List V} {ds : List PyData} (n : Nat), DenAll K F vs ds → DenAll K F (vs.eraseIdx n) (ds.eraseIdx n)
  | _, _, _, .nil => .nil
  | _, _, 0, .cons _ t => t
  | _, _, n + 1, .cons h t => .cons h (DenAll.erase n t)
theorem DenAll.reverse {vs : List V} {ds : List PyData} (h : DenAll K F vs ds) : DenAll K F vs.reverse ds.reverse := by
  induction h using DenAll.rec (motive_1 := fun _ _ _ => True) with
  | nil => exact .nil
  | cons h t _ ih => simp only [List.reverse_cons]; exact ih.append (.cons h .nil)
  | _ => trivial
theorem DenAll.dropLast {vs : List V} {ds : List PyData} (h : DenAll K F vs ds) : DenAll K F vs.dropLast ds.dropLast := by
  rw [List.dropLast_eq_take, List.dropLast_eq_take, h.length]; exact h.take _
theorem DenAll.rep {vs : List V} {ds : List PyData} (h : DenAll K F vs ds) : ∀ k : Nat, DenAll K F (List.replicate k vs).flatten (List.replicate k ds).flatten
  | 0 => by simp; exact .nil
  | k + 1 => by simp only [List.replicate_succ, List.flatten_cons]; exact h.append (DenAll.rep h k)
theorem DenAll.ints : ∀ {ns : List Int} {vs : List V}, DenAll K F vs (ns.map PyData.int) → vs = ns.map V.int
  | [], _, h => by cases h; rfl
  | n :: ns, _, h => by
    cases h with
    | cons h t => cases h; rw [DenAll.ints t]; rfl
theorem DenAll.of_ints : ∀ (ns : List Int), DenAll K F (ns.map V.int) (ns.map PyData.int)
  | [] => .nil
  | n :: ns => .cons (.int n) (DenAll.of_ints ns)
theorem DenAll.bools : ∀ {bs : List Bool} {vs : List V}, DenAll K F vs (bs.map PyData.bool) → vs = bs.map V.bl
  | [], _, h => by cases h; rfl
  | n :: ns, _, h => by
    cases h with
    | cons h t => cases h; rw [DenAll.bools t]; rfl

/-- at p a list or dict of one's own -/
def OwnAt (K : Frag) (F H : Hp) (p : Addr) : PyData → Prop
  | .list ds => ∃ vs, H p = some (.lst vs) ∧ DenAll K F vs ds
  | .dict kvs => ∃ kv ds, H p = some (.dK kv) ∧ DenAll K F (kv.map (·.2)) ds ∧ kvs = dctOf kv ds
  | _ => False
theorem OwnAt.mono {p : Addr} {d : PyData} (h : OwnAt K F H p d) (e : Same F F') (q : H' p = H p) : OwnAt K F' H' p d := by
  cases d <;> first | exact h.elim | skip
  · obtain ⟨vs, a, b⟩ := h; exact ⟨vs, q.trans a, b.mono e⟩
  · obtain ⟨kv, ds, a, b, c⟩ := h; exact ⟨kv, ds, q.trans a, b.mono e, c⟩
theorem OwnAt.there {p : Addr} {d : PyData} (h : OwnAt K F H p d) : ∃ o, H p = some o ∧ Mut (some o) := by
  cases d <;> first | exact h.elim | skip
  · obtain ⟨vs, a, b⟩ := h; exact ⟨_, a, trivial⟩
  · obtain ⟨kv, ds, a, b, c⟩ := h; exact ⟨_, a, trivial⟩
theorem same_add {p : Addr} {o : HO} (h : F p = none) : Same F (upd F p o) := fun b x e => by
  rw [upd_ne (ne_of_none e h)]; exact e
/-- a list of one's own becomes shared -/
theorem OwnAt.share {p : Addr} {d : PyData} {o : HO} (h : OwnAt K F H p d) (e : H p = some o) (n : F p = none) : Den K (upd F p o) (.ref p) d := by
  cases d <;> first | exact h.elim | skip
  · obtain ⟨vs, a, b⟩ := h
    rw [a] at e; cases e
    exact .lst (.inl (.inl upd_same)) (b.mono (same_add n))
  · obtain ⟨kv, ds, a, b, c⟩ := h
    rw [a] at e; cases e
    exact .dct upd_same (b.mono (same_add n)) c

/-- what may be read of a value: its first level in H, the rest shared -/
def View (K : Frag) (F H : Hp) (v : V) : PyData → Prop
  | .list ds => ∃ a xs, v = .ref a ∧ SqL K H a xs ∧ DenAll K F xs ds
  | .tuple ds => ∃ a xs, v = .ref a ∧ SqT K F a xs ∧ DenAll K F xs ds
  | .dict kvs => ∃ a kv ds, v = .ref a ∧ H a = some (.dK kv) ∧ DenAll K F (kv.map (·.2)) ds ∧ kvs = dctOf kv ds
  | .none => v = .non
  | .bool b => v = .bl b
  | .int i => v = .int i
  | .str x => v = .str x
theorem View.of_den (e : Same F H) {v : V} {d : PyData} (h : Den K F v d) : View K F H v d := by
  cases h with
  | non => rfl
  | bl b => rfl
  | int i => rfl
  | str x => rfl
  | lst h t => exact ⟨_, _, rfl, e.seq h, t⟩
  | tup h t => exact ⟨_, _, rfl, h, t⟩
  | dct h t q => exact ⟨_, _, _, rfl, e _ _ h, t, q⟩
theorem View.of_own {p : Addr} {d : PyData} (h : OwnAt K F H p d) : View K F H (.ref p) d := by
  cases d <;> first | exact h.elim | skip
  · obtain ⟨vs, a, b⟩ := h; exact ⟨_, _, rfl, .inl (.inl a), b⟩
  · obtain ⟨kv, ds, a, b, c⟩ := h; exact ⟨_, _, _, rfl, a, b, c⟩
theorem View.den (e : Same F H) {v : V} {d : PyData} (h : View K F H v d) : Den K H v d := by
  cases d with
  | none => cases h; exact .non
  | bool b => cases h; exact .bl b
  | int i => cases h; exact .int i
  | str x => cases h; exact .str x
  | list ds => obtain ⟨a, xs, rfl, h, t⟩ := h; exact .lst h (t.mono e)
  | tuple ds => obtain ⟨a, xs, rfl, h, t⟩ := h; exact .tup (same_sqT e h) (t.mono e)
  | dict kvs => obtain ⟨a, kv, ds, rfl, h, t, q⟩ := h; exact .dct h (t.mono e) q

/-- what is known of a def's (or block's) run: the heap it began with, the lists that were lent to it, the temporary lists -/
structure Gh where
  H0 : Hp
  F0 : Hp
  ins : List (Nat × Addr)
  tmps : List (Addr × PyData)

theorem slot_set {env : Env} {i j : Nat} {s : Option Sl} : slot (env.set i s) j = if i = j ∧ i < env.length then s else slot env j := by
  unfold slot
  by_cases h : i = j
  · subst h
    by_cases hl : i < env.length
    · rw [List.getElem?_set_self hl, if_pos ⟨rfl, hl⟩]; rfl
    · rw [if_neg (fun q => hl q.2), List.getElem?_eq_none (by simpa using hl), List.getElem?_eq_none (by simpa using hl)]
  · rw [List.getElem?_set_ne h, if_neg (fun q => h q.1)]
theorem slot_lt {env : Env} {i : Nat} {s : Sl} (h : slot env i = some s) : i < env.length := by
  unfold slot at h
  by_cases q : i < env.length
  · exact q
  · rw [List.getElem?_eq_none (by omega)] at h; cases h

structure Rep (K : Frag) (io : List Nat) (g : Gh) (env : Env) (σ : L2.St) (F H : Hp) : Prop where
  sub : Same F H
  sub0 : Same g.F0 F
  frame : ∀ b o, g.H0 b = some o → (∀ q ∈ g.ins, q.2 ≠ b) → H b = some o
  nof : ∀ b o, g.H0 b = some o → g.F0 b = none → F b = none
  len : env.length = σ.length
  vals : ∀ i d, slot env i = some (.val d) → ∃ v, σ[i]? = some (some v) ∧ Den K F v d
  owns : ∀ i d, slot env i = some (.own d) → ∃ p, σ[i]? = some (some (.ref p)) ∧ F p = none ∧ OwnAt K F H p d ∧ g.H0 p = none ∧ ∀ t ∈ g.tmps, t.1 ≠ p
  sep : ∀ i j d e p, slot env i = some (.own d) → slot env j = some (.own e) → σ[i]? = some (some (.ref p)) → σ[j]? = some (some (.ref p)) → i = j
  ios : ∀ i d, slot env i = some (.io d) → ∃ p, (i, p) ∈ g.ins ∧ F p = none ∧ OwnAt K F H p d
  ins : ∀ q ∈ g.ins, σ[q.1]? = some (some (.ref q.2)) ∧ (∃ d, slot env q.1 = some (.io d)) ∧ ∃ o, g.H0 q.2 = some o
  insI : g.ins.map (·.1) = io
  insN : (g.ins.map (·.2)).Nodup
  tmp : ∀ t ∈ g.tmps, F t.1 = none ∧ OwnAt K F H t.1 t.2 ∧ g.H0 t.1 = none
  tmpN : (g.tmps.map (·.1)).Nodup

/-- what an expression handed back -/
def RDen (K : Frag) (g : Gh) (F H : Hp) (σ : L2.St) (env : Env) (v : V) : R → Prop
  | .val d => Den K F v d
  | .own d => ∃ p, v = .ref p ∧ F p = none ∧ OwnAt K F H p d ∧ g.H0 p = none ∧ (∀ t ∈ g.tmps, t.1 ≠ p) ∧ ∀ i d', slot env i = some (.own d') → σ[i]? ≠ some (some (.ref p))
  | .pl i => σ[i]? = some (some v) ∧ (slot env i).isSome = true
/-- .. a temporary list being shared -/
def StDen (K : Frag) (F : Hp) (σ : L2.St) (v : V) : R → Prop
  | .val d => Den K F v d
  | .own d => Den K F v d
  | .pl i => σ[i]? = some (some v)
theorem StDen.mono {σ : L2.St} {v : V} {r : R} (h : StDen K F σ v r) (e : Same F F') : StDen K F' σ v r := by
  cases r with
  | val d => exact Den.mono e h
  | own d => exact Den.mono e h
  | pl i => exact h

variable {io : List Nat} {g : Gh} {env : Env} {σ : L2.St}
/-- sharing an address that is nobody's -/
theorem Rep.share {p : Addr} {o : HO} (R : Rep K io g env σ F H) (n : F p = none) (e : H p = some o) (h0 : g.H0 p = none)
    (h1 : ∀ i d, slot env i = some (.own d) → σ[i]? ≠ some (some (.ref p))) (h2 : ∀ q ∈ g.ins, q.2 ≠ p) (h3 : ∀ t ∈ g.tmps, t.1 ≠ p) : Rep K io g env σ (upd F p o) H := by
  have m := same_add (F := F) (o := o) n
  have nf : ∀ b x, g.H0 b = some x → g.F0 b = none → upd F p o b = none := fun b x q z => by
    rw [upd_ne (ne_of_none q h0)]; exact R.nof b x q z
  refine ⟨fun b x q => ?_, R.sub0.trans m, R.frame, nf, R.len, fun i d q => ?_, fun i d q => ?_, R.sep, fun i d q => ?_, R.ins, R.insI, R.insN, fun t ht => ?_, R.tmpN⟩
  · by_cases hb : b = p
    · subst hb; rw [upd_same] at q; cases q; exact e
    · rw [upd_ne hb] at q; exact R.sub _ _ q
  · obtain ⟨v, a, b⟩ := R.vals i d q; exact ⟨v, a, b.mono m⟩
  · obtain ⟨p', a, b, c, dd⟩ := R.owns i d q
    have ne : p' ≠ p := fun z => h1 i d q (z ▸ a)
    exact ⟨p', a, by rw [upd_ne ne]; exact b, c.mono m rfl, dd⟩
  · obtain ⟨p', a, b, c⟩ := R.ios i d q
    exact ⟨p', a, by rw [upd_ne (h2 _ a)]; exact b, c.mono m rfl⟩
  · obtain ⟨a, b, c⟩ := R.tmp t ht
    exact ⟨by rw [upd_ne (h3 t ht)]; exact a, b.mono m rfl, c⟩
/-- a temporary is shared -/
theorem still_ok {v : V} {r : R} (R : Rep K io g env σ F H) (h : RDen K g F H σ env v r) : ∃ F', Same F F' ∧ Rep K io g env σ F' H ∧ StDen K F' σ v r ∧ RDen K g F' H σ env v r.still := by
  cases r with
  | val d => exact ⟨F, Same.refl F, R, h, h⟩
  | pl i => exact ⟨F, Same.refl F, R, h.1, h⟩
  | own d =>
    obtain ⟨p, rfl, n, o, z, t, s⟩ := h
    obtain ⟨ho, e, _⟩ := o.there
    have dn := o.share e n
    refine ⟨upd F p ho, same_add n, R.share n e z s (fun q hq z' => ?_) t, dn, dn⟩
    obtain ⟨_, _, w, hw⟩ := R.ins q hq
    rw [z', z] at hw; cases hw
/-- what a result's datum looks like -/
theorem peek_view {v : V} {r : R} {d : PyData} (R : Rep K io g env σ F H) (h : StDen K F σ v r) (e : peek r env = some d) : View K F H v d := by
  cases r with
  | val d' => cases e; exact .of_den R.sub h
  | own d' => cases e; exact .of_den R.sub h
  | pl i =>
    have hs : σ[i]? = some (some v) := h
    unfold peek at e
    simp only at e
    cases q : slot env i with
    | none => rw [q] at e; cases e
    | some s =>
      rw [q] at e
      cases s with
      | own d' =>
        cases e
        obtain ⟨p, a, _, c, _⟩ := R.owns i _ q
        rw [hs] at a; cases a
        exact .of_own c
      | val d' =>
        cases e
        obtain ⟨v', a, c⟩ := R.vals i _ q
        rw [hs] at a; cases a
        exact .of_den R.sub c
      | io d' =>
        cases e
        obtain ⟨p, hq, _, c⟩ := R.ios i _ q
        have a := (R.ins _ hq).1
        rw [hs] at a; cases a
        exact .of_own c
theorem pk_view {v : V} {r : R} {P : PyData → Prop} (R : Rep K io g env σ F H) (h : StDen K F σ v r) (e : pk r env P) : ∃ d, View K F H v d ∧ P d := by
  unfold pk at e
  cases q : peek r env with
  | none => rw [q] at e; exact e.elim
  | some d => rw [q] at e; exact ⟨d, peek_view R h q, e⟩
theorem isT_view {v : V} {r : R} {P : Bool → Prop} (R : Rep K io g env σ F H) (h : StDen K F σ v r) (e : isT r env P) : ∃ b, v = .bl b ∧ P b := by
  unfold isT at e
  cases q : peek r env with
  | none => rw [q] at e; exact e.elim
  | some d =>
    rw [q] at e
    cases d <;> first | exact e.elim | exact ⟨_, peek_view R h q, e⟩

/-- a name's own list becomes shared -/
theorem Rep.freeze1 {i : Nat} {d : PyData} (R : Rep K io g env σ F H) (h : slot env i = some (.own d)) :
    ∃ p F', σ[i]? = some (some (.ref p)) ∧ Same F F' ∧ Rep K io g (env.set i (some (.val d))) σ F' H ∧ Den K F' (.ref p) d := by
  obtain ⟨p, a, n, o, z, t⟩ := R.owns i d h
  obtain ⟨ho, e, _⟩ := o.there
  have hl := slot_lt h
  have m := same_add (F := F) (o := ho) n
  have hsl : ∀ j, slot (env.set i (some (.val d))) j = if i = j then some (.val d) else slot env j := fun j => by
    rw [slot_set]; by_cases q : i = j
    · rw [if_pos ⟨q, hl⟩, if_pos q]
    · rw [if_neg (fun z => q z.1), if_neg q]
  have nio : ∀ q ∈ g.ins, q.2 ≠ p := fun q hq z' => by
    obtain ⟨_, _, w, hw⟩ := R.ins q hq
    rw [z', z] at hw; cases hw
  have nf : ∀ b x, g.H0 b = some x → g.F0 b = none → upd F p ho b = none := fun b x q w => by
    rw [upd_ne (ne_of_none q z)]; exact R.nof b x q w
  refine ⟨p, upd F p ho, a, m, ⟨fun b x q => ?_, R.sub0.trans m, R.frame, nf, by simpa using R.len, fun j d' q => ?_, fun j d' q => ?_, fun j k d' e' p' q1 q2 q3 q4 => ?_, fun j d' q => ?_, fun q hq => ?_, R.insI, R.insN, fun t' ht => ?_, R.tmpN⟩, o.share e n⟩
  · by_cases hb : b = p
    · subst hb; rw [upd_same] at q; cases q; exact e
    · rw [upd_ne hb] at q; exact R.sub _ _ q
  · rw [hsl] at q
    by_cases c : i = j
    · subst c
      rw [if_pos rfl] at q; cases q
      exact ⟨_, a, o.share e n⟩
    · rw [if_neg c] at q
      obtain ⟨v, a', b⟩ := R.vals j d' q; exact ⟨v, a', b.mono m⟩
  · rw [hsl] at q
    by_cases c : i = j
    · rw [if_pos c] at q; cases q
    · rw [if_neg c] at q
      obtain ⟨p', a', b', c', dd⟩ := R.owns j d' q
      have ne : p' ≠ p := fun z' => c (R.sep i j _ _ p h q a (z' ▸ a'))
      exact ⟨p', a', by rw [upd_ne ne]; exact b', c'.mono m rfl, dd⟩
  · rw [hsl] at q1 q2
    by_cases c1 : i = j
    · rw [if_pos c1] at q1; cases q1
    · by_cases c2 : i = k
      · rw [if_pos c2] at q2; cases q2
      · rw [if_neg c1] at q1; rw [if_neg c2] at q2
        exact R.sep j k _ _ p' q1 q2 q3 q4
  · rw [hsl] at q
    by_cases c : i = j
    · rw [if_pos c] at q; cases q
    · rw [if_neg c] at q
      obtain ⟨p', a', b', c'⟩ := R.ios j d' q
      exact ⟨p', a', by rw [upd_ne (nio _ a')]; exact b', c'.mono m rfl⟩
  · obtain ⟨q1, ⟨d', q2⟩, q3⟩ := R.ins q hq
    refine ⟨q1, ⟨d', ?_⟩, q3⟩
    rw [hsl, if_neg]
    · exact q2
    · intro c; rw [← c, h] at q2; cases q2
  · obtain ⟨a', b', c'⟩ := R.tmp t' ht
    exact ⟨by rw [upd_ne (t t' ht)]; exact a', b'.mono m rfl, c'⟩
/-- asV, as the heap has it -/
theorem asV_ok {v : V} {r : R} {P : PyData → Env → Prop} (R : Rep K io g env σ F H) (h : StDen K F σ v r) (e : asV r env P) :
    ∃ d env' F', Same F F' ∧ Rep K io g env' σ F' H ∧ Den K F' v d ∧ P d env' := by
  cases r with
  | val d => exact ⟨d, env, F, Same.refl F, R, h, e⟩
  | own d => exact ⟨d, env, F, Same.refl F, R, h, e⟩
  | pl i =>
    have hs : σ[i]? = some (some v) := h
    unfold asV at e
    simp only at e
    cases q : slot env i with
    | none => rw [q] at e; exact e.elim
    | some s =>
      rw [q] at e
      cases s with
      | val d =>
        obtain ⟨v', a, c⟩ := R.vals i _ q
        rw [hs] at a; cases a
        exact ⟨d, env, F, Same.refl F, R, c, e⟩
      | own d =>
        obtain ⟨p, F', a, m, R', dn⟩ := R.freeze1 q
        rw [hs] at a; cases a
        exact ⟨d, _, F', m, R', dn, e⟩
      | io d => exact e.elim
end
end Co

set_option linter.all false
/-! Co2: results of operations; expressions one in another. -/
namespace Co
open PySem PySem.Spec PyProof.Rows L2

/-- how a result comes: an old value, a new list or dict, a new tuple -/
inductive Out (K : Frag) (F H : Hp) : R → V → Hp → Prop
  | old {v : V} {d : PyData} : Den K F v d → Out K F H (.val d) v H
  | own {p : Addr} {o : HO} {d : PyData} : H p = none → OwnAt K F (upd H p o) p d → Out K F H (.own d) (.ref p) (upd H p o)
  | tup {p : Addr} {xs : List V} {ds : List PyData} : H p = none → DenAll K F xs ds → Out K F H (.val (.tuple ds)) (.ref p) (upd H p (.tup xs))

section
variable {K : Frag} {F F' H H' : Hp} {io : List Nat} {g : Gh} {env : Env} {σ : L2.St}
theorem Rep.h0 (R : Rep K io g env σ F H) {p : Addr} (n : H p = none) : g.H0 p = none ∧ F p = none ∧ (∀ t ∈ g.tmps, t.1 ≠ p) ∧ (∀ q ∈ g.ins, q.2 ≠ p) ∧ ∀ i d, slot env i = some (.own d) → σ[i]? ≠ some (some (.ref p)) := by
  have i1 : ∀ q ∈ g.ins, q.2 ≠ p := fun q hq z => by
    obtain ⟨_, ⟨d, hd⟩, _⟩ := R.ins q hq
    obtain ⟨p', hp, _, o⟩ := R.ios _ _ hd
    obtain ⟨ho, e, _⟩ := o.there
    have e1 := (R.ins _ hp).1
    have e2 := (R.ins q hq).1
    rw [e1] at e2
    have e3 : p' = q.2 := by injection (Option.some.inj (Option.some.inj e2))
    rw [e3, z, n] at e; cases e
  refine ⟨?_, ?_, fun t ht z => ?_, i1, fun i d h z => ?_⟩
  · cases q : g.H0 p with
    | none => rfl
    | some o =>
      rw [R.frame p o q i1] at n; cases n
  · cases q : F p with
    | none => rfl
    | some o => rw [R.sub p o q] at n; cases n
  · obtain ⟨_, o, _⟩ := R.tmp t ht
    obtain ⟨ho, e, _⟩ := o.there
    rw [z, n] at e; cases e
  · obtain ⟨p', a, _, o, _⟩ := R.owns i d h
    rw [z] at a; cases a
    obtain ⟨ho, e, _⟩ := o.there
    rw [n] at e; cases e
/-- a new object is laid -/
theorem Rep.lay (R : Rep K io g env σ F H) {p : Addr} {o : HO} (n : H p = none) : Rep K io g env σ F (upd H p o) := by
  obtain ⟨h0, hF, ht, hi, ho⟩ := R.h0 n
  have m : Same H (upd H p o) := same_add n
  have ne : ∀ {b : Addr} {d : PyData}, OwnAt K F H b d → upd H p o b = H b := fun {b d} q => by
    obtain ⟨w, e, _⟩ := q.there
    exact upd_ne (ne_of_none e n)
  exact ⟨R.sub.trans m, R.sub0, fun b x q i => m _ _ (R.frame b x q i), R.nof, R.len, R.vals, fun i d q => by
      obtain ⟨p', a, b, c, e⟩ := R.owns i d q
      exact ⟨p', a, b, c.mono (Same.refl F) (ne c), e⟩, R.sep, fun i d q => by
      obtain ⟨p', a, b, c⟩ := R.ios i d q
      exact ⟨p', a, b, c.mono (Same.refl F) (ne c)⟩, R.ins, R.insI, R.insN, fun t ht => by
      obtain ⟨a, b, c⟩ := R.tmp t ht
      exact ⟨a, b.mono (Same.refl F) (ne b), c⟩, R.tmpN⟩
theorem out_ok {r : R} {v : V} (R : Rep K io g env σ F H) (h : Out K F H r v H') : ∃ F', Same F F' ∧ Rep K io g env σ F' H' ∧ RDen K g F' H' σ env v r := by
  cases h with
  | old d => exact ⟨F, Same.refl F, R, d⟩
  | @own p o d n q =>
    obtain ⟨h0, hF, ht, hi, ho⟩ := R.h0 n
    exact ⟨F, Same.refl F, R.lay n, p, rfl, hF, q, h0, ht, ho⟩
  | @tup p xs ds n q =>
    obtain ⟨h0, hF, ht, hi, ho⟩ := R.h0 n
    have m := same_add (F := F) (o := .tup xs) hF
    refine ⟨_, m, (R.lay n).share hF upd_same h0 ho hi ht, ?_⟩
    exact .tup (.inl (.inl upd_same)) (q.mono m)
end

/-- the reading of an expression of the little language -/
def tE (K : Frag) (Φ : Tbl) (io : List Nat) (c : E) : TE := fun σ H Qv => ∃ g F env Q, Rep K io g env σ F H ∧ wpE Φ c env Q ∧
  ∀ v H' F' r env', Same F F' → Rep K io g env' σ F' H' → RDen K g F' H' σ env' v r → Q r env' → Qv v H'
theorem PE.weak {X : Cx} {e : Expr} {t t' : TE} (h : PE X e t) (w : ∀ σ H Q, t' σ H Q → t σ H Q) : PE X e t' := ⟨fun pins s σ H Q I q => h.run pins s σ H Q I (w _ _ _ q)⟩
theorem PT.weak {X : Cx} {e : Expr} {t t' : TT} (h : PT X e t) (w : ∀ σ H Q, t' σ H Q → t σ H Q) : PT X e t' := ⟨fun pins s σ H Q I q => h.run pins s σ H Q I (w _ _ _ q)⟩
theorem PA.weak {X : Cx} {es : List Expr} {t t' : TA} (h : PA X es t) (w : ∀ σ H Q, t' σ H Q → t σ H Q) : PA X es t' := ⟨fun pos pins s σ H Q I q => h.run pos pins s σ H Q I (w _ _ _ q)⟩
theorem PI.weak {X : Cx} {tg e : Expr} {t t' : TI} (h : PI X tg e t) (w : ∀ σ H Q, t' σ H Q → t σ H Q) : PI X tg e t' := ⟨fun pins s σ H Q I q => h.run pins s σ H Q I (w _ _ _ q)⟩
theorem PS.weak {X : Cx} {e : Stmt} {t t' : TS} (h : PS X e t) (w : ∀ D σ H, t' D σ H → t D σ H) : PS X e t' := ⟨fun pins s σ H D I q => h.run pins s σ H D I (w _ _ _ q)⟩
theorem PSs.weak {X : Cx} {e : List Stmt} {t t' : TS} (h : PSs X e t) (w : ∀ D σ H, t' D σ H → t D σ H) : PSs X e t' := ⟨fun pins s σ H D I q => h.run pins s σ H D I (w _ _ _ q)⟩

section
variable {K : Frag} {Φ : Tbl} {io : List Nat} {g : Gh} {F H : Hp} {env : Env} {σ : L2.St}
theorem one_ {a : E} {P : R → Env → Prop} {Qv : V → Hp → Prop} (R : Rep K io g env σ F H) (h : wpE Φ a env P)
    (k : ∀ v H' F' r env', Same F F' → Rep K io g env' σ F' H' → StDen K F' σ v r → P r env' → Qv v H') : tE K Φ io a σ H Qv :=
  ⟨g, F, env, P, R, h, fun v H' F' r env' e R' d q => by
    obtain ⟨F2, m, R2, s, _⟩ := still_ok R' d
    exact k v H' F2 r env' (e.trans m) R2 s q⟩
theorem two_ {a b : E} {P : R → R → Env → Prop} {Qv : V → V → Hp → Prop} (R : Rep K io g env σ F H) (h : wpE Φ a env fun r1 env1 => wpE Φ b env1 fun r2 env2 => P r1 r2 env2)
    (k : ∀ v1 v2 H' F' r1 r2 env', Same F F' → Rep K io g env' σ F' H' → StDen K F' σ v1 r1 → StDen K F' σ v2 r2 → P r1 r2 env' → Qv v1 v2 H') :
    tE K Φ io a σ H fun v1 H1 => tE K Φ io b σ H1 fun v2 H2 => Qv v1 v2 H2 :=
  one_ R h fun v1 H1 F1 r1 env1 e1 R1 s1 q1 => one_ R1 q1 fun v2 H2 F2 r2 env2 e2 R2 s2 q2 => k v1 v2 H2 F2 r1 r2 env2 (e1.trans e2) R2 (s1.mono e2) s2 q2
theorem three_ {a b c : E} {P : R → R → R → Env → Prop} {Qv : V → V → V → Hp → Prop} (R : Rep K io g env σ F H)
    (h : wpE Φ a env fun r1 env1 => wpE Φ b env1 fun r2 env2 => wpE Φ c env2 fun r3 env3 => P r1 r2 r3 env3)
    (k : ∀ v1 v2 v3 H' F' r1 r2 r3 env', Same F F' → Rep K io g env' σ F' H' → StDen K F' σ v1 r1 → StDen K F' σ v2 r2 → StDen K F' σ v3 r3 → P r1 r2 r3 env' → Qv v1 v2 v3 H') :
    tE K Φ io a σ H fun v1 H1 => tE K Φ io b σ H1 fun v2 H2 => tE K Φ io c σ H2 fun v3 H3 => Qv v1 v2 v3 H3 :=
  one_ R h fun v1 H1 F1 r1 env1 e1 R1 s1 q1 => two_ R1 q1 fun v2 v3 H2 F2 r2 r3 env2 e2 R2 s2 s3 q2 => k v1 v2 v3 H2 F2 r1 r2 r3 env2 (e1.trans e2) R2 (s1.mono e2) s2 s3 q2

/-- two operands, an operation on their data -/
def rOp (K : Frag) (D : PyData → PyData → (R → Prop) → Prop) : R2 := fun x y H Q => ∃ F d1 d2, Same F H ∧ View K F H x d1 ∧ View K F H y d2 ∧ D d1 d2 fun r => ∀ v H', Out K F H r v H' → Q v H'
def Mono2 (D : PyData → PyData → (R → Prop) → Prop) : Prop := ∀ x y (Q Q' : R → Prop), (∀ r, Q r → Q' r) → D x y Q → D x y Q'
def Mono1 (D : PyData → (R → Prop) → Prop) : Prop := ∀ x (Q Q' : R → Prop), (∀ r, Q r → Q' r) → D x Q → D x Q'
theorem op_ok {a b : E} {D : PyData → PyData → (R → Prop) → Prop} {Q : R → Env → Prop} {Qv : V → Hp → Prop} (M : Mono2 D) (R : Rep K io g env σ F H)
    (h : wpE Φ a env fun r1 env1 => wpE Φ b env1 fun r2 env2 => pk r1 env2 fun x => pk r2 env2 fun y => D x y fun r => Q r env2)
    (k : ∀ v H' F' r env', Same F F' → Rep K io g env' σ F' H' → RDen K g F' H' σ env' v r → Q r env' → Qv v H') : tOp (rOp K D) (tE K Φ io a) (tE K Φ io b) σ H Qv :=
  two_ R h fun v1 v2 H' F' r1 r2 env' e R' s1 s2 q => by
    obtain ⟨d1, w1, q⟩ := pk_view R' s1 q
    obtain ⟨d2, w2, q⟩ := pk_view R' s2 q
    refine ⟨F', d1, d2, R'.sub, w1, w2, M _ _ _ _ (fun r hr v H2 o => ?_) q⟩
    obtain ⟨F2, m, R2, dn⟩ := out_ok R' o
    exact k v H2 F2 r env' (e.trans m) R2 dn hr
def rUn (K : Frag) (D : PyData → (R → Prop) → Prop) : V → Hp → VK → Prop := fun x H Q => ∃ F d, Same F H ∧ View K F H x d ∧ D d fun r => ∀ v H', Out K F H r v H' → Q v H'
theorem un_ok {a : E} {D : PyData → (R → Prop) → Prop} {Q : R → Env → Prop} {Qv : V → Hp → Prop} (M : Mono1 D) (R : Rep K io g env σ F H) (h : wpE Φ a env fun r env1 => pk r env1 fun x => D x fun r' => Q r' env1)
    (k : ∀ v H' F' r env', Same F F' → Rep K io g env' σ F' H' → RDen K g F' H' σ env' v r → Q r env' → Qv v H') : tE K Φ io a σ H fun x H1 => rUn K D x H1 Qv :=
  one_ R h fun v1 H' F' r1 env' e R' s1 q => by
    obtain ⟨d1, w1, q⟩ := pk_view R' s1 q
    refine ⟨F', d1, R'.sub, w1, M _ _ _ (fun r hr v H2 o => ?_) q⟩
    obtain ⟨F2, m, R2, dn⟩ := out_ok R' o
    exact k v H2 F2 r env' (e.trans m) R2 dn hr
def rC1 (K : Frag) (D : PyData → (R → Prop) → Prop) : List V → Hp → VK → Prop := fun vs H Q => ∃ x, vs = [x] ∧ rUn K D x H Q
def rC2 (K : Frag) (D : PyData → PyData → (R → Prop) → Prop) : List V → Hp → VK → Prop := fun vs H Q => ∃ x y, vs = [x, y] ∧ rOp K D x y H Q
/-- scalars as results -/
theorem Out.int {F H : Hp} {i : Int} : Out K F H (.val (.int i)) (.int i) H := .old (.int i)
theorem Out.bl {F H : Hp} {b : Bool} : Out K F H (.val (.bool b)) (.bl b) H := .old (.bl b)
theorem Out.non {F H : Hp} : Out K F H (.val .none) .non H := .old .non
theorem Out.str {F H : Hp} {x : Str} : Out K F H (.val (.str x)) (.str x) H := .old (.str x)
end

/-! ### monotony of the operations -/
theorem binD_mono (op : BOp) : Mono2 (binD op) := fun x y Q Q' h q => by
  unfold binD at q ⊢
  split at q
  · unfold intBin at q ⊢
    cases op
    · exact h _ q
    · exact h _ q
    · exact ⟨q.1, h _ q.2⟩
    · exact ⟨q.1, h _ q.2⟩
    · exact ⟨q.1, h _ q.2⟩
    · exact ⟨q.1, h _ q.2⟩
  · unfold boolBin at q ⊢
    cases op <;> first | exact h _ q | exact q
  · exact ⟨q.1, q.2.1, h _ q.2.2⟩
  · exact ⟨q.1, q.2.1, h _ q.2.2⟩
  · exact ⟨q.1, q.2.1, h _ q.2.2⟩
  · exact ⟨q.1, q.2.1, q.2.2.1, q.2.2.2.1, q.2.2.2.2.1, h _ q.2.2.2.2.2⟩
  · exact q
theorem memD_mono {x y : PyData} {Q Q' : Bool → Prop} (h : ∀ b, Q b → Q' b) (q : memD x y Q) : memD x y Q' := by
  unfold memD at q ⊢
  split at q
  · exact ⟨q.1, q.2.1, h _ q.2.2⟩
  · exact ⟨q.1, q.2.1, h _ q.2.2⟩
  · exact ⟨q.1, h _ q.2⟩
  · exact q
theorem ordD_mono {op : COp} {x y : PyData} {Q Q' : Bool → Prop} (h : ∀ b, Q b → Q' b) (q : ordD op x y Q) : ordD op x y Q' := by
  unfold ordD at q ⊢
  split at q
  · exact h _ q
  · exact ⟨q.1, h _ q.2⟩
  · exact ⟨q.1, h _ q.2⟩
  · exact q.elim
theorem eqD_mono {x y : PyData} {Q Q' : Bool → Prop} (h : ∀ b, Q b → Q' b) (q : eqD x y Q) : eqD x y Q' := by
  unfold eqD at q ⊢
  split at q
  · exact h _ q
  · exact ⟨q.1, q.2.1, h _ q.2.2⟩
theorem cmpD_mono (op : COp) {x y : PyData} {Q Q' : Bool → Prop} (h : ∀ b, Q b → Q' b) (q : cmpD op x y Q) : cmpD op x y Q' := by
  unfold cmpD at q ⊢
  cases op <;> simp only at q ⊢
  · exact eqD_mono h q
  · exact eqD_mono (fun b => h _) q
  · exact ordD_mono h q
  · exact ordD_mono h q
  · exact ordD_mono h q
  · exact ordD_mono h q
  · exact memD_mono h q
  · exact memD_mono (fun b => h _) q
theorem slcD_mono {lo hi : Option Int} {x : PyData} {Q Q' : R → Prop} (h : ∀ b, Q b → Q' b) (q : slcD x lo hi Q) : slcD x lo hi Q' := by
  unfold slcD at q ⊢
  split at q
  · exact h _ q
  · exact h _ q
  · exact q
theorem revD_mono : Mono1 revD := fun x Q Q' h q => by
  unfold revD at q ⊢
  split at q
  · exact h _ q
  · exact h _ q
  · exact q
theorem b2D_mono (f : B2) : Mono2 (b2D f) := fun x y Q Q' h q => by
  unfold b2D at q ⊢
  split at q
  · exact h _ q
  · exact q
theorem b1D_mono (f : B1) : Mono1 (b1D f) := fun x Q Q' h q => by
  unfold b1D at q ⊢
  cases f <;> simp only at q ⊢
  case len => split at q <;> first | exact h _ q | exact q
  case repr => exact ⟨q.1, h _ q.2⟩
  case sorted =>
    split at q
    · obtain ⟨l, q⟩ := q
      refine ⟨l, ?_⟩
      rcases q with ⟨ns, e, q⟩ | ⟨e0, ts, e, n, q⟩
      · exact .inl ⟨ns, e, h _ q⟩
      · exact .inr ⟨e0, ts, e, n, fun ts' a b => h _ (q ts' a b)⟩
    · exact q
  case tuple => split at q <;> first | exact h _ q | exact q
  case list => split at q <;> first | exact h _ q | exact q
  case min =>
    split at q
    · obtain ⟨ns, e, l, q⟩ := q
      exact ⟨ns, e, l, fun m a b => h _ (q m a b)⟩
    · exact q
  case sum =>
    split at q
    · obtain ⟨ns, e, q⟩ := q
      exact ⟨ns, e, h _ q⟩
    · exact q
  case all =>
    split at q
    · obtain ⟨ns, e, q⟩ := q
      exact ⟨ns, e, h _ q⟩
    · exact q
  case any =>
    split at q
    · obtain ⟨ns, e, q⟩ := q
      exact ⟨ns, e, h _ q⟩
    · exact q
  case int => split at q <;> first | exact h _ q | exact q
  case lenset =>
    split at q
    · obtain ⟨ns, e, l, q⟩ := q
      exact ⟨ns, e, l, fun ks a b => h _ (q ks a b)⟩
    · exact q
  case sortset =>
    split at q
    · obtain ⟨ns, e, l, q⟩ := q
      exact ⟨ns, e, l, fun ks a b => h _ (q ks a b)⟩
    · exact q
end Co

set_option linter.all false
/-! Co3: the operations of the little language, as the machine has them. -/
namespace Co
open PySem PySem.Spec PyProof.Rows L2

def opOf : BOp → Operator
  | .add => .Add | .sub => .Sub | .mul => .Mult | .fdiv => .FloorDiv | .mod => .Mod | .pow => .Pow

section
variable {X : Cx}
theorem line_le {n : Nat} (h : n ≤ LINE) : n ≤ sizeLine := by rw [sizeLine_eq]; exact h
theorem le_line {n : Nat} (h : n ≤ sizeLine) : n ≤ LINE := by rw [sizeLine_eq] at h; exact h

/-- xs + ys, lists that are read -/
def rCatL (K : Frag) : R2 := fun x y H Q => ∃ a b xs ys, x = .ref a ∧ y = .ref b ∧ SqL K H a xs ∧ SqL K H b ys ∧ xs.length + ys.length ≤ sizeLine ∧ ∀ p, H p = none → Q (.ref p) (upd H p (.lst (xs ++ ys)))
theorem op_catL : OpR X (binaryOp .Add) (rCatL X.K) := by
  intro pins s σ H x y v u Q I rx ry h
  obtain ⟨a, b, xs, ys, rfl, rfl, hx, hy, hz, q⟩ := h
  cases rx
  cases ry
  obtain ⟨its, r, ⟨⟨cls, dd, data, sl⟩, n, e, hc, hd, hda⟩, z⟩ := I.list hx
  obtain ⟨its2, r2, ⟨⟨cls2, dd2, data2, sl2⟩, n2, e2, hc2, hd2, hda2⟩, z2⟩ := I.list hy
  simp only at hc hd hda hc2 hd2 hda2
  subst hc hd hda hc2 hd2 hda2
  have hl := r.length
  have hl2 := r2.length
  have hs : its.toArray.size + its2.toArray.size ≤ sizeLine := by rw [List.size_toArray, List.size_toArray, ← hl, ← hl2]; exact hz
  refine concat_meets ⟨_, e, rfl⟩ ⟨_, e2, rfl⟩ noFill_list_add seq_list_add PySem.F.slot_list_add PySem.F.entry_list_add (PySem.F.args_list_add_2 _ _) (list_addW a b its.toArray its2.toArray n n2 none none sl sl2 hs) ⟨e, e2, ?_⟩
  have ea : its.toArray ++ its2.toArray = (its ++ its2).toArray := List.append_toArray _ _
  rw [ea]
  exact ⟨.ref _, _, I.lnew (t' := s.toks) (r.append r2) (by rw [List.length_append]; exact hz), rfl, q _ I.fresh⟩

theorem tuple_mulOne (l : Addr) (items : Array Value) (n : Nat) (dd : Option Addr) (sl : Array (Option Value)) (x : Int) (u : Tok) (c0 : (decide (x < -(2 ^ 63)) || decide (x ≥ 2 ^ 63)) = false) (c1 : (items.isEmpty || x == 1) = true) :
    Meets (Builtin.«tuple.__mul__» ⟨[.ref l, .int x u], []⟩) (fun _ R s => s.heap.get? l = some { cls := .type "tuple", dict := dd, data := .seq items n, slots := sl } ∧ R (.ok (.ret (Value.ref l))) s) :=
  .of_wp fun prog w A R s h => by
    obtain ⟨hp, g, d, tk, os⟩ := s
    obtain ⟨hl, h⟩ := h
    have f1 := AutoSeq1.idx_int
    wp_walk using wpAny_loadPart' hl
    repeat (first
      | (refine wpAny_ite_false (decide_eq_false (by rw [c0]; exact Bool.false_ne_true)) ?_; wp_walk using wpAny_loadPart' hl)
      | (refine wpAny_ite_true (decide_eq_true c1) ?_; wp_walk using wpAny_loadPart' hl))
    exact ⟨_, rfl, h⟩
theorem tuple_mulNone (l : Addr) (items : Array Value) (n : Nat) (dd : Option Addr) (sl : Array (Option Value)) (x : Int) (u : Tok) (c0 : (decide (x < -(2 ^ 63)) || decide (x ≥ 2 ^ 63)) = false) (c1 : (items.isEmpty || x == 1) = false) (c2 : (decide (x ≤ 0) || items.isEmpty) = true) :
    Meets (Builtin.«tuple.__mul__» ⟨[.ref l, .int x u], []⟩) (fun _ R s => s.heap.get? l = some { cls := .type "tuple", dict := dd, data := .seq items n, slots := sl } ∧
      R (.ok (.ret (Value.ref s.heap.objs.size))) { s with heap := s.heap.push { cls := Value.type "tuple", data := Data.seq #[] }, toks := s.toks }) :=
  .of_wp fun prog w A R s h => by
    obtain ⟨hp, g, d, tk, os⟩ := s
    obtain ⟨hl, h⟩ := h
    have f1 := AutoSeq1.idx_int
    wp_walk using wpAny_loadPart' hl
    repeat (first
      | (refine wpAny_ite_false (decide_eq_false (by rw [c0]; exact Bool.false_ne_true)) ?_; wp_walk using wpAny_loadPart' hl)
      | (refine wpAny_ite_false (decide_eq_false (by rw [c1]; exact Bool.false_ne_true)) ?_; wp_walk using wpAny_loadPart' hl)
      | (refine wpAny_ite_true (decide_eq_true c2) ?_; wp_walk using wpAny_loadPart' hl))
    exact ⟨_, rfl, h⟩
/-- tuple * k, not the empty tuple -/
def rRepA (K : Frag) : R2 := fun x y H Q => ∃ l k xs, x = .ref l ∧ y = .int k ∧ SqT K H l xs ∧ xs ≠ [] ∧ 0 ≤ k ∧ k ≤ 1000 ∧ xs.length ≤ 1000 ∧
  (∀ p, H p = none → Q (.ref p) (upd H p (.tup (List.replicate k.toNat xs).flatten))) ∧ (k = 1 → Q (.ref l) H)
theorem op_repA : OpR X (binaryOp .Mult) (rRepA X.K) := by
  intro pins s σ H x y v u Q I rx ry h
  obtain ⟨l, k, xs, rfl, rfl, hT, hne, h0, h1, hz, q, q1⟩ := h
  by_cases hk : 2 ≤ k
  · exact op_repT pins s σ H _ _ v u Q I rx ry ⟨l, k, xs, rfl, rfl, hT, hne, hk, h1, hz, q⟩
  cases rx
  obtain ⟨t, rfl⟩ := ry
  obtain ⟨its, r, ⟨⟨cls, dd, data, sl⟩, ho, hc, n, hd⟩, hs⟩ := I.tuple hT
  simp only at hc hd
  subst hc hd
  have hi : its.toArray.isEmpty = false := by
    cases its with
    | nil => exact absurd (r.length.symm ▸ rfl : xs.length = 0) (fun e => hne (List.eq_nil_of_length_eq_zero e))
    | cons a b => rfl
  have c0 : (decide (k < -(2 ^ 63)) || decide (k ≥ 2 ^ 63)) = false := by
    rw [decide_eq_false (by omega), decide_eq_false (by omega)] <;> rfl
  by_cases he : k = 1
  · subst he
    have c1 : (its.toArray.isEmpty || (1 : Int) == 1) = true := by simp
    exact wpAny_binaryOp_repeat_ref (T := "tuple") (U := "int") (by decide) ⟨_, ho, rfl⟩ (fun s' => typeIs_int s' 1 t) noFill_tuple_mul F.fills_int_mul F.slot_int_rmul repeat_tuple F.slot_int_index.lookup
      (call_meets F.slot_int_rmul (typeIs_int s 1 t) F.entry_int_rmul (F.args_int_rmul_2 _ _) (int_rmul_tuple 1 t l its.toArray n dd sl)
        ⟨ho, rfl, ⟨_, ho, rfl⟩, call_meets F.slot_tuple_mul ⟨_, ho, rfl⟩ F.entry_tuple_mul (F.args_tuple_mul_2 _ _) (tuple_mulOne l its.toArray n dd sl 1 t c0 c1) ⟨ho, .ref l, H, I, rfl, q1 rfl⟩⟩)
  · have e : k = 0 := by omega
    subst e
    have c1 : (its.toArray.isEmpty || (0 : Int) == 1) = false := by rw [hi]; rfl
    have c2 : (decide ((0 : Int) ≤ 0) || its.toArray.isEmpty) = true := by simp
    refine wpAny_binaryOp_repeat_ref (T := "tuple") (U := "int") (by decide) ⟨_, ho, rfl⟩ (fun s' => typeIs_int s' 0 t) noFill_tuple_mul F.fills_int_mul F.slot_int_rmul repeat_tuple F.slot_int_index.lookup
      (call_meets F.slot_int_rmul (typeIs_int s 0 t) F.entry_int_rmul (F.args_int_rmul_2 _ _) (int_rmul_tuple 0 t l its.toArray n dd sl)
        ⟨ho, rfl, ⟨_, ho, rfl⟩, call_meets F.slot_tuple_mul ⟨_, ho, rfl⟩ F.entry_tuple_mul (F.args_tuple_mul_2 _ _) (tuple_mulNone l its.toArray n dd sl 0 t c0 c1 c2) ⟨ho, ?_⟩⟩)
    refine ⟨.ref s.heap.objs.size, _, I.laid (t' := s.toks) (o := .tup []) (fun b ob q => Heap.get?_push_of_some _ q) (Nat.le_refl _) ?_, rfl, q _ (I.hok.fresh (Nat.le_refl _))⟩
    exact ⟨Nat.zero_le _, [], .nil, IsTup.new _ _⟩

theorem binR (op : BOp) : OpR X (binaryOp (opOf op)) (rOp X.K (binD op)) := by
  intro pins s σ H x y v u Q I rx ry h
  obtain ⟨F, d1, d2, m, w1, w2, q⟩ := h
  unfold binD at q
  split at q
  · -- int, int
    rename_i i j
    cases w1
    cases w2
    unfold intBin at q
    cases op
    · exact op_add pins s σ H _ _ v u Q I rx ry ⟨i, j, rfl, rfl, q _ _ .int⟩
    · exact op_sub pins s σ H _ _ v u Q I rx ry ⟨i, j, rfl, rfl, q _ _ .int⟩
    · exact op_mul pins s σ H _ _ v u Q I rx ry ⟨i, j, rfl, rfl, q.1, q.2 _ _ .int⟩
    · exact op_fdiv pins s σ H _ _ v u Q I rx ry ⟨i, j, rfl, rfl, q.1, q.2 _ _ .int⟩
    · exact op_mod pins s σ H _ _ v u Q I rx ry ⟨i, j, rfl, rfl, q.1, q.2 _ _ .int⟩
    · exact op_pow pins s σ H _ _ v u Q I rx ry ⟨i, j, rfl, rfl, q.1, q.2 _ _ .int⟩
  · -- bool, int
    rename_i b j
    cases w1
    cases w2
    cases rx
    obtain ⟨t, rfl⟩ := ry
    unfold boolBin at q
    cases op <;> first | exact q.elim | skip
    · exact PySem.IntBool.add_bool_int ⟨.int _, H, I.tok _, ⟨_, rfl⟩, q _ _ .int⟩
    · exact PySem.IntBool.sub_bool_int ⟨.int _, H, I.tok _, ⟨_, rfl⟩, q _ _ .int⟩
    · exact PySem.IntBool.mul_bool_int ⟨.int _, H, I.tok _, ⟨_, rfl⟩, q _ _ .int⟩
  · -- texts
    rename_i a b
    cases w1
    cases w2
    obtain ⟨rfl, z, q⟩ := q
    exact op_add_str pins s σ H _ _ v u Q I rx ry ⟨a, b, rfl, rfl, line_le z, q _ _ .str⟩
  · -- lists
    obtain ⟨rfl, z, q⟩ := q
    obtain ⟨a, xs, rfl, h1, t1⟩ := w1
    obtain ⟨b, ys, rfl, h2, t2⟩ := w2
    refine op_catL pins s σ H _ _ v u Q I rx ry ⟨a, b, xs, ys, rfl, rfl, h1, h2, ?_, fun p n => q _ _ (.own n ⟨_, upd_same, t1.append t2⟩)⟩
    rw [t1.length, t2.length]; exact line_le z
  · -- tuples
    obtain ⟨rfl, z, q⟩ := q
    obtain ⟨a, xs, rfl, h1, t1⟩ := w1
    obtain ⟨b, ys, rfl, h2, t2⟩ := w2
    refine op_catA pins s σ H _ _ v u Q I rx ry ⟨a, b, xs, ys, rfl, rfl, same_sqT m h1, same_sqT m h2, by rw [t1.length, t2.length]; exact line_le z, fun e => ?_, fun _ e => ?_, fun _ _ p n => q _ _ (.tup n (t1.append t2))⟩
    · subst e
      cases t1
      exact q _ _ (.old (.tup h2 t2))
    · subst e
      cases t2
      rw [List.append_nil] at q
      exact q _ _ (.old (.tup h1 t1))
  · -- tuple * int
    obtain ⟨rfl, ne, k0, k1, z, q⟩ := q
    obtain ⟨a, xs, rfl, h1, t1⟩ := w1
    cases w2
    exact op_repA pins s σ H _ _ v u Q I rx ry ⟨a, _, xs, rfl, rfl, same_sqT m h1, fun e => ne (by subst e; cases t1; rfl), k0, k1, by rw [t1.length]; exact z, fun p n => q _ _ (.tup n (t1.rep _)), fun e => by
      subst e
      have e2 := q (.ref a) H (.old (.tup h1 (by simpa using t1)))
      exact e2⟩
  · exact q.elim
end
end Co

set_option linter.all false
/-! Co4: comparisons, subscripts, slices. -/
namespace Co
open PySem PySem.Spec PyProof.Rows L2

def cmpOf : COp → CmpOp
  | .eq => .Eq | .ne => .NotEq | .lt => .Lt | .le => .LtE | .gt => .Gt | .ge => .GtE | .isin => .In | .notin => .NotIn

/-! ### data without dicts -/
mutual
theorem Den.dp {K : Frag} {F : Hp} : ∀ {v : V} {d : PyData}, Den K F v d → d.canLay0 = true → Dp K F v d
  | _, _, .non, _ => .non
  | _, _, .bl b, _ => .bl b
  | _, _, .int i, _ => .int i
  | _, _, .str x, _ => .str x
  | _, _, .lst h t, q => .lst h (DenAll.dp t (by simpa [PyData.canLay0] using q))
  | _, _, .tup h t, q => .tup h (DenAll.dp t (by simpa [PyData.canLay0] using q))
  | _, _, .dct h t e, q => by simp [PyData.canLay0] at q
theorem DenAll.dp {K : Frag} {F : Hp} : ∀ {v : List V} {d : List PyData}, DenAll K F v d → PyData.canLayAll0 d = true → DpAll K F v d
  | _, _, .nil, _ => .nil
  | _, _, .cons h t, q => by
    simp only [PyData.canLayAll0, Bool.and_eq_true] at q
    exact .cons (Den.dp h q.1) (DenAll.dp t q.2)
end

/-! ### dicts -/
theorem eqv_key (a b : Key) : PyData.eqv (keyD a) (keyD b) = decide (a = b) := by
  cases a <;> cases b <;> simp [keyD, PyData.eqv]
  · exact (Bool.beq_eq_decide_eq _ _)
  · exact (Bool.beq_eq_decide_eq _ _)
theorem isKey_of {d : PyData} (h : isKey d = true) : ∃ k, d = keyD k := by
  cases d <;> simp [isKey] at h
  · exact ⟨.inl _, rfl⟩
  · exact ⟨.inr _, rfl⟩
theorem den_key {K : Frag} {F : Hp} {v : V} {k : Key} (h : View K F F v (keyD k)) : v = kV k := by
  cases k <;> exact h
theorem view_key {K : Frag} {F H : Hp} {v : V} {k : Key} (h : View K F H v (keyD k)) : v = kV k := by
  cases k <;> exact h
section
variable {K : Frag} {F : Hp}
theorem look_dct {k : Key} : ∀ {kv : List (Key × V)} {ds : List PyData}, DenAll K F (kv.map (·.2)) ds →
    (valV kv k = none ∧ lookK (dctOf kv ds) (keyD k) = none) ∨ ∃ v d, valV kv k = some v ∧ lookK (dctOf kv ds) (keyD k) = some d ∧ Den K F v d
  | [], ds, h => by
    cases h
    exact .inl ⟨rfl, rfl⟩
  | (a, v) :: kv, ds, h => by
    cases h with
    | @cons _ _ d ds h t =>
      by_cases e : a = k
      · refine .inr ⟨v, d, valV_pos e, ?_, h⟩
        simp [lookK, dctOf, List.find?_cons, eqv_key, e]
      · have e2 : lookK (dctOf ((a, v) :: kv) (d :: ds)) (keyD k) = lookK (dctOf kv ds) (keyD k) := by
          simp [lookK, dctOf, List.find?_cons, eqv_key, e]
        rw [e2, valV_neg (p := (a, v)) e]
        exact look_dct t
theorem any_dct {k : Key} {kv : List (Key × V)} {ds : List PyData} (t : DenAll K F (kv.map (·.2)) ds) : ((dctOf kv ds).any fun p => PyData.eqv p.1 (keyD k)) = kv.any fun p => decide (p.1 = k) := by
  induction kv generalizing ds with
  | nil => cases t; rfl
  | cons p kv ih =>
    cases t with
    | @cons _ _ d ds h t =>
      show ((PyData.eqv (keyD p.1) (keyD k)) || (dctOf kv ds).any _) = _
      rw [ih t, eqv_key]; rfl
theorem map_dct {k : Key} {v : V} {d : PyData} (hv : Den K F v d) : ∀ {kv : List (Key × V)} {ds : List PyData}, DenAll K F (kv.map (·.2)) ds →
    ∃ ds', DenAll K F ((kv.map (fun p => if p.1 = k then (p.1, v) else p)).map (·.2)) ds' ∧ (dctOf kv ds).map (fun p => if PyData.eqv p.1 (keyD k) = true then (p.1, d) else p) = dctOf (kv.map (fun p => if p.1 = k then (p.1, v) else p)) ds'
  | [], ds, h => by
    cases h
    exact ⟨[], .nil, rfl⟩
  | (a, w) :: kv, ds, h => by
    cases h with
    | @cons _ _ e ds h t =>
      obtain ⟨ds', i1, i2⟩ := map_dct hv t
      by_cases q : a = k
      · refine ⟨d :: ds', ?_, ?_⟩
        · simp only [List.map_cons, if_pos q]
          exact .cons hv i1
        · simp only [List.map_cons, dctOf, List.zip_cons_cons, eqv_key, q, decide_true, if_true] at i2 ⊢
          rw [← i2]
      · refine ⟨e :: ds', ?_, ?_⟩
        · simp only [List.map_cons, if_neg q]
          exact .cons h i1
        · simp only [List.map_cons, dctOf, List.zip_cons_cons, eqv_key, q, decide_false, Bool.false_eq_true, if_false] at i2 ⊢
          rw [← i2]
theorem zip_one {α β : Type} : ∀ (as : List α) (bs : List β) (a : α) (b : β), as.length = bs.length → (as ++ [a]).zip (bs ++ [b]) = as.zip bs ++ [(a, b)] := fun as bs a b h => by
  rw [List.zip_append h]; rfl
theorem put_dct {k : Key} {v : V} {d : PyData} (hv : Den K F v d) {kv : List (Key × V)} {ds : List PyData} (t : DenAll K F (kv.map (·.2)) ds) :
    ∃ ds', DenAll K F ((L2.putK kv k v).map (·.2)) ds' ∧ putK (dctOf kv ds) (keyD k) d = dctOf (L2.putK kv k v) ds' := by
  unfold putK L2.putK
  rw [any_dct t]
  split
  · exact map_dct hv t
  · refine ⟨ds ++ [d], ?_, ?_⟩
    · rw [List.map_append]; exact t.append (.cons hv .nil)
    · unfold dctOf
      rw [List.map_append, List.map_cons, List.map_nil, zip_one]
      have := t.length
      simpa using this
end

section
variable {X : Cx}
theorem View.dp {K : Frag} {F H : Hp} (m : Same F H) {v : V} {d : PyData} (h : View K F H v d) (q : SeqAt.shaped d = true) : Dp K H v d := (h.den m).dp (SeqAt.canLay_of_shaped q)
def qB (D : PyData → PyData → (Bool → Prop) → Prop) : PyData → PyData → (R → Prop) → Prop := fun x y Q => D x y fun b => Q (.val (.bool b))
theorem op_inTup (hu : X.A.units + 65 < cLine) {pins : List (Addr × Obj)} {s : Shared} {σ : L2.St} {H : Hp} {x y : V} {v u : Value} {Q : VK} {d : PyData} {ds : List PyData} (I : Inv X pins σ H s) (rx : RelV x v) (ry : RelV y u)
    (hd : Dp X.K H x d) (he : Dp X.K H y (.tuple ds)) (sd : SeqAt.shaped d = true) (se : SeqAt.shaped (.tuple ds) = true) (q : Q (.bl (ds.any fun z => PyData.eqv z d)) H) :
    wpAny (model X.prog X.w) X.A (compareOp .In v u) (EP X pins σ Q) X.xe s := by
  obtain ⟨as, r1⟩ := Dp.reads I d x v hd rx
  obtain ⟨bs, r2⟩ := Dp.reads I (.tuple ds) y u he ry
  have hc : PyData.canLayAll0 ds = true := by simpa [PyData.canLay0] using SeqAt.canLay_of_shaped se
  exact SeqAt.in_tuple_reads r2 r1 hc (SeqAt.canLay_of_shaped sd) (room_in_shaped sd hu) ⟨.bl _, H, I, rfl, q⟩
theorem op_notInTup (hu : X.A.units + 65 < cLine) {pins : List (Addr × Obj)} {s : Shared} {σ : L2.St} {H : Hp} {x y : V} {v u : Value} {Q : VK} {d : PyData} {ds : List PyData} (I : Inv X pins σ H s) (rx : RelV x v) (ry : RelV y u)
    (hd : Dp X.K H x d) (he : Dp X.K H y (.tuple ds)) (sd : SeqAt.shaped d = true) (se : SeqAt.shaped (.tuple ds) = true) (q : Q (.bl (!ds.any fun z => PyData.eqv z d)) H) :
    wpAny (model X.prog X.w) X.A (compareOp .NotIn v u) (EP X pins σ Q) X.xe s := by
  obtain ⟨as, r1⟩ := Dp.reads I d x v hd rx
  obtain ⟨bs, r2⟩ := Dp.reads I (.tuple ds) y u he ry
  have hc : PyData.canLayAll0 ds = true := by simpa [PyData.canLay0] using SeqAt.canLay_of_shaped se
  exact SeqAt.notIn_tuple_reads r2 r1 hc (SeqAt.canLay_of_shaped sd) (room_in_shaped sd hu) ⟨.bl _, H, I, rfl, q⟩
theorem dget_view {K : Frag} {F H : Hp} {k : Key} {kv : List (Key × V)} {ds : List PyData} {a : Addr} (h : H a = some (.dK kv)) (t : DenAll K F (kv.map (·.2)) ds) :
    ∃ o, DGet H a (kV k) o ∧ o.isSome = (lookK (dctOf kv ds) (keyD k)).isSome ∧ ∀ d, lookK (dctOf kv ds) (keyD k) = some d → ∃ v, o = some v ∧ Den K F v d := by
  refine ⟨_, DGet.k h, ?_, fun d q => ?_⟩
  · rcases look_dct (k := k) t with ⟨a, b⟩ | ⟨v, d, a, b, c⟩ <;> rw [a, b] <;> rfl
  · rcases look_dct (k := k) t with ⟨a, b⟩ | ⟨v, d', a, b, c⟩
    · rw [b] at q; cases q
    · rw [b] at q; cases q
      exact ⟨v, a, c⟩
theorem memR_in (hu : X.A.units + 66 < cLine) : OpR X (compareOp .In) (rOp X.K (qB memD)) := by
  intro pins s σ H x y v u Q I rx ry h
  obtain ⟨F, d1, d2, m, w1, w2, q⟩ := h
  unfold qB memD at q
  split at q
  · rename_i ds
    exact op_inD (by omega) pins s σ H x y v u Q I rx ry ⟨d1, ds, w1.dp m q.1, w2.dp m q.2.1, q.1, q.2.1, q.2.2 _ _ .bl⟩
  · rename_i ds
    exact op_inTup (by omega) I rx ry (w1.dp m q.1) (w2.dp m q.2.1) q.1 q.2.1 (q.2.2 _ _ .bl)
  · rename_i kvs
    obtain ⟨hk, q⟩ := q
    obtain ⟨k, rfl⟩ := isKey_of hk
    obtain rfl := view_key w1
    obtain ⟨a, kv, ds, rfl, h1, t, rfl⟩ := w2
    cases ry
    obtain ⟨o, g, e, _⟩ := dget_view (k := k) h1 t
    refine d_in (by omega) I g rx fun s' I' => ⟨.bl _, H, I', rfl, ?_⟩
    rw [e]
    exact q _ _ .bl
  · exact q.elim
theorem memR_notin (hu : X.A.units + 66 < cLine) : OpR X (compareOp .NotIn) (rOp X.K (qB fun x y K => memD x y fun b => K (!b))) := by
  intro pins s σ H x y v u Q I rx ry h
  obtain ⟨F, d1, d2, m, w1, w2, q⟩ := h
  replace q : memD d1 d2 fun b => ∀ v H', Out X.K F H (.val (.bool !b)) v H' → Q v H' := q
  unfold memD at q
  split at q
  · rename_i ds
    exact op_notInD (by omega) pins s σ H x y v u Q I rx ry ⟨d1, ds, w1.dp m q.1, w2.dp m q.2.1, q.1, q.2.1, q.2.2 _ _ .bl⟩
  · rename_i ds
    exact op_notInTup (by omega) I rx ry (w1.dp m q.1) (w2.dp m q.2.1) q.1 q.2.1 (q.2.2 _ _ .bl)
  · rename_i kvs
    obtain ⟨hk, q⟩ := q
    obtain ⟨k, rfl⟩ := isKey_of hk
    obtain rfl := view_key w1
    obtain ⟨a, kv, ds, rfl, h1, t, rfl⟩ := w2
    cases ry
    obtain ⟨o, g, e, _⟩ := dget_view (k := k) h1 t
    refine d_notIn (by omega) I g rx fun s' I' => ⟨.bl _, H, I', rfl, ?_⟩
    rw [e]
    exact q _ _ .bl
  · exact q.elim
theorem bool_lt_int (a : Bool) (b : Int) (u : Tok) : Gives (Builtin.«int.__lt__» ⟨[.bool a, .int b u], []⟩) (.val (Value.bool (decide ((if a = true then (1 : Int) else 0) < b)))) :=
  .of_wp fun M A E s Q h => by obtain ⟨hp, g, d, tk, os⟩ := s; wp_walk; exact ⟨_, rfl, h⟩
theorem bool_ge_int (a : Bool) (b : Int) (u : Tok) : Gives (Builtin.«int.__ge__» ⟨[.bool a, .int b u], []⟩) (.val (Value.bool (decide ((if a = true then (1 : Int) else 0) ≥ b)))) :=
  .of_wp fun M A E s Q h => by obtain ⟨hp, g, d, tk, os⟩ := s; wp_walk; exact ⟨_, rfl, h⟩
theorem ordR (op : COp) (h1 : op ≠ .eq) (h2 : op ≠ .ne) (h3 : op ≠ .isin) (h4 : op ≠ .notin) : OpR X (compareOp (cmpOf op)) (rOp X.K (qB (ordD op))) := by
  intro pins s σ H x y v u Q I rx ry h
  obtain ⟨F, d1, d2, m, w1, w2, q⟩ := h
  unfold qB ordD at q
  split at q
  · rename_i i j
    cases w1
    cases w2
    cases op <;> first | contradiction | skip
    · exact op_lt pins s σ H _ _ v u Q I rx ry ⟨i, j, rfl, rfl, q _ _ .bl⟩
    · exact op_le pins s σ H _ _ v u Q I rx ry ⟨i, j, rfl, rfl, q _ _ .bl⟩
    · exact op_gt pins s σ H _ _ v u Q I rx ry ⟨i, j, rfl, rfl, q _ _ .bl⟩
    · exact op_ge pins s σ H _ _ v u Q I rx ry ⟨i, j, rfl, rfl, q _ _ .bl⟩
  · rename_i i b
    obtain ⟨rfl, q⟩ := q
    cases w1
    cases w2
    obtain ⟨t, rfl⟩ := rx
    cases ry
    show wpAny _ X.A (richCompare .LtE _ _) _ _ _
    exact SeqAt.rc_sub_first_or (typeIs_int s i t) rfl (by decide) PySem.F.sub_bool_int PySem.F.slot_bool_ge (call_gives PySem.F.slot_bool_ge rfl PySem.F.entry_int_ge (PySem.F.args_int_ge_2 _ _) (bool_ge_int b i t) ⟨nofun, .bl _, H, I, rfl, q _ _ .bl⟩) (.inl rfl)
  · rename_i b j
    obtain ⟨rfl, q⟩ := q
    cases w1
    cases w2
    cases rx
    obtain ⟨t, rfl⟩ := ry
    show wpAny _ X.A (richCompare .Lt _ _) _ _ _
    exact wpAny_richCompare_left rfl (typeIs_int s j t) (by decide) PySem.F.sub_int_bool PySem.F.slot_bool_lt (call_gives PySem.F.slot_bool_lt rfl PySem.F.entry_int_lt (PySem.F.args_int_lt_2 _ _) (bool_lt_int b j t) ⟨nofun, .bl _, H, I, rfl, q _ _ .bl⟩)
  · exact q.elim
theorem cmpR (op : COp) (hu : X.A.units + 66 < cLine) : OpR X (compareOp (cmpOf op)) (rOp X.K (qB (cmpD op))) := by
  have es : ∀ {a b : Str}, decide (V.str a = V.str b) = decide (a = b) := fun {a b} => by simp
  cases op
  · intro pins s σ H x y v u Q I rx ry h
    obtain ⟨F, d1, d2, m, w1, w2, q⟩ := h
    have q : eqD d1 d2 fun t => ∀ v H', Out X.K F H (.val (.bool t)) v H' → Q v H' := q
    unfold eqD at q
    split at q
    · cases w1
      cases w2
      refine op_eq pins s σ H _ _ v u Q I rx ry ⟨rfl, ?_⟩
      rw [es]
      exact q _ _ .bl
    · obtain ⟨q1, q2, q⟩ := q
      exact op_eqD (by omega) pins s σ H x y v u Q I rx ry ⟨d1, d2, w1.dp m q1, w2.dp m q2, q1, q2, q _ _ .bl⟩
  · intro pins s σ H x y v u Q I rx ry h
    obtain ⟨F, d1, d2, m, w1, w2, q⟩ := h
    have q : eqD d1 d2 fun t => ∀ v H', Out X.K F H (.val (.bool (!t))) v H' → Q v H' := q
    unfold eqD at q
    split at q
    · cases w1
      cases w2
      refine op_ne pins s σ H _ _ v u Q I rx ry ⟨rfl, ?_⟩
      rw [es]
      exact q _ _ .bl
    · obtain ⟨q1, q2, q⟩ := q
      exact op_neD (by omega) pins s σ H x y v u Q I rx ry ⟨d1, d2, w1.dp m q1, w2.dp m q2, q1, q2, q _ _ .bl⟩
  · exact ordR .lt (by decide) (by decide) (by decide) (by decide)
  · exact ordR .le (by decide) (by decide) (by decide) (by decide)
  · exact ordR .gt (by decide) (by decide) (by decide) (by decide)
  · exact ordR .ge (by decide) (by decide) (by decide) (by decide)
  · exact memR_in hu
  · exact memR_notin hu

theorem atI_den {K : Frag} {F : Hp} {xs : List V} {ds : List PyData} {i : Int} {d : PyData} (t : DenAll K F xs ds) (h : L2.atI ds i = some d) : ∃ v, L2.atI xs i = some v ∧ Den K F v d := by
  unfold L2.atI at h ⊢
  rw [t.length]
  cases e : L2.ixN ds.length i with
  | none => rw [e] at h; cases h
  | some j =>
    rw [e] at h
    exact t.get h
def qV (D : PyData → PyData → (PyData → Prop) → Prop) : PyData → PyData → (R → Prop) → Prop := fun x y Q => D x y fun d => Q (.val d)
theorem idxR (hu : X.A.units + 66 < cLine) : IxR X (rOp X.K (qV idxD)) := by
  intro value slice pins s σ H x y v u Q I rx ry h hs
  obtain ⟨F, d1, d2, m, w1, w2, q⟩ := h
  unfold qV idxD at q
  split at q
  · rename_i ds k
    obtain ⟨d, e, q⟩ := q
    obtain ⟨a, xs, rfl, h1, t⟩ := w1
    cases w2
    obtain ⟨z, e2, dn⟩ := atI_den t e
    exact ix_list value slice pins s σ H _ _ v u Q I rx ry ⟨a, xs, k, z, rfl, rfl, h1, e2, q _ _ (.old dn)⟩ hs
  · rename_i ds k
    obtain ⟨d, e, q⟩ := q
    obtain ⟨a, xs, rfl, h1, t⟩ := w1
    cases w2
    obtain ⟨z, e2, dn⟩ := atI_den t e
    exact ix_tup value slice pins s σ H _ _ v u Q I rx ry ⟨a, xs, k, z, rfl, rfl, same_sqT m h1, e2, q _ _ (.old dn)⟩ hs
  · rename_i kvs k0
    obtain ⟨hk, d, e, q⟩ := q
    obtain ⟨k, rfl⟩ := isKey_of hk
    obtain rfl := view_key w2
    obtain ⟨a, kv, ds, rfl, h1, t, rfl⟩ := w1
    cases rx
    obtain ⟨o, g, _, f⟩ := dget_view (k := k) h1 t
    obtain ⟨z, rfl, dn⟩ := f d e
    exact tail_any (dict_typeIs I g) PySem.F.slot_dict_getitem.lookup (d_getItem (by omega) I g ry fun w' s' I' rw' => ⟨z, H, I', rw', q _ _ (.old dn)⟩) hs
  · exact q.elim
def rSl (K : Frag) : V → Option Int → Option Int → Hp → VK → Prop := fun x lo hi H Q => ∃ F d, Same F H ∧ View K F H x d ∧ slcD d lo hi fun r => ∀ v H', Out K F H r v H' → Q v H'
theorem cut_den {K : Frag} {F : Hp} {xs : List V} {ds : List PyData} {lo hi : Option Int} (t : DenAll K F xs ds) : DenAll K F (cutV xs lo hi) (cut ds lo hi) := by
  unfold cutV cut
  rw [t.length]
  exact (t.drop _).take _
theorem slcR : SlR X (rSl X.K) := by
  intro pins s σ H x v vl vu lo hi sl Q I rx hs pl pu h
  obtain ⟨F, d, m, w, q⟩ := h
  unfold slcD at q
  split at q
  · obtain ⟨a, xs, rfl, h1, t⟩ := w
    exact sl_list pins s σ H _ v vl vu lo hi sl Q I rx hs pl pu ⟨a, xs, rfl, h1, fun p n => q _ _ (.own n ⟨_, upd_same, cut_den t⟩)⟩
  · obtain ⟨a, xs, rfl, h1, t⟩ := w
    refine sl_tupA pins s σ H _ v vl vu lo hi sl Q I rx hs pl pu ⟨a, xs, rfl, same_sqT m h1, fun e => ?_, fun _ p n => q _ _ (.tup n (cut_den t))⟩
    rename_i ds
    have e2 : cut ds lo hi = ds := by
      unfold cut
      rw [← t.length, e.1, e.2, List.drop_zero, t.length, Nat.sub_zero, List.take_length]
    rw [e2] at q
    exact q _ _ (.old (.tup h1 t))
  · exact q.elim
end
end Co

set_option linter.all false
/-! Co22: x[::-1] of a list or a tuple. -/
namespace Co
open PySem PySem.Spec PyProof.Rows L2
section
variable {prog : Program} {w : World} {A : Around} {E : Value → Shared → Prop} {s : Shared}
theorem places_rev (n : Nat) : Builtin.Slice.slicePlaces ((n : Int) - 1) (-1) (-1) = n := by
  unfold Builtin.Slice.slicePlaces
  rw [if_neg (by decide)]
  by_cases h : (n : Int) - 1 > -1
  · rw [if_pos h, show (- -1 : Int) = 1 by decide, Int.ediv_one]; omega
  · rw [if_neg h]; omega
theorem adjust_rev (n : Nat) : Builtin.Slice.sliceAdjust none none (-1) (n : Int) = ((n : Int) - 1, -1) := by
  first
  | rfl
  | simp [Builtin.Slice.sliceAdjust]
theorem fm_congr {α β : Type} {f g : α → Option β} : ∀ {l : List α}, (∀ x ∈ l, f x = g x) → l.filterMap f = l.filterMap g
  | [], _ => rfl
  | x :: l, h => by
    rw [List.filterMap_cons, List.filterMap_cons, h x (List.mem_cons_self ..), fm_congr fun y hy => h y (List.mem_cons_of_mem _ hy)]
theorem pick_rev (xs : Array Value) : ((List.range xs.size).filterMap fun (m : Nat) => xs[((xs.size : Int) - 1 + (m : Int) * -1).toNat]?).toArray = xs.toList.reverse.toArray := by
  have e : (List.range xs.size).filterMap (fun (m : Nat) => xs[((xs.size : Int) - 1 + (m : Int) * -1).toNat]?) = ((List.range xs.size).map fun k => xs.size - 1 - k).filterMap (xs[·]?) := by
    rw [List.filterMap_map]
    refine fm_congr fun m hm => ?_
    have hm := List.mem_range.mp hm
    show xs[((xs.size : Int) - 1 + (m : Int) * -1).toNat]? = xs[xs.size - 1 - m]?
    have e : ((xs.size : Int) - 1 + (m : Int) * -1).toNat = xs.size - 1 - m := by omega
    rw [e]
  rw [e, PySem.W.krv_range, List.filterMap_reverse, PySem.W.krv_all]
theorem sliceApplied_rev {sl : Addr} {vl vu vs : Value} {n : Nat} {Q : Int × Int × Nat → Shared → Prop} (hs : s.heap.IsSliceOf sl vl vu vs) (pl : IsPart vl none) (pu : IsPart vu none) (ps : IsPart vs (some (-1)))
    (h : Q ((n : Int) - 1, -1, n) s) : wpAny (model prog w) A (Builtin.Slice.sliceApplied (.ref sl) (pure (n : Int))) Q E s := by
  obtain ⟨os, hos, hcs, hds⟩ := id hs
  unfold Builtin.Slice.sliceApplied Builtin.Slice.sliceFields
  refine wpAny_bind (wpAny_bind (wpAny_field hos hds (x := vl) rfl (wpAny_bind (wpAny_field hos hds (x := vu) rfl (wpAny_bind (wpAny_field hos hds (x := vs) rfl (wpAny_pure ?_)))))))
  refine wpAny_bind (HT.slicePart_ ps ?_)
  show wpAny _ _ (if ((-1 : Int) == 0) = true then _ else _) _ _ s
  rw [if_neg (by decide)]
  refine wpAny_bind (HT.slicePart_ pl (wpAny_bind (HT.slicePart_ pu (wpAny_bind (wpAny_pure ?_)))))
  show wpAny _ _ (match Builtin.Slice.sliceAdjust none none (-1) (n : Int) with | (lo, hi) => pure (lo, (-1 : Int), Builtin.Slice.slicePlaces lo hi (-1))) _ _ s
  rw [adjust_rev n]
  show wpAny _ _ (pure ((n : Int) - 1, (-1 : Int), Builtin.Slice.slicePlaces ((n : Int) - 1) (-1) (-1))) _ _ s
  rw [places_rev]
  exact wpAny_pure h
theorem getItem_tuple_rev {t sl : Addr} {items : Array Value} {vl vu vs : Value} {Q : Value → Shared → Prop} (ht : IsTup s.heap t items) (hs : s.heap.IsSliceOf sl vl vu vs) (pl : IsPart vl none) (pu : IsPart vu none) (ps : IsPart vs (some (-1)))
    (h : Q (.ref s.heap.objs.size) { s with heap := s.heap.push { cls := .type "tuple", data := .seq items.toList.reverse.toArray } })
    (hsz : items.size ≤ sizeLine) : wpAny (model prog w) A (getItem (.ref t) (.ref sl)) Q E s := by
  have htake : sizeOk (.seq items.toList.reverse.toArray) := by
    show items.toList.reverse.toArray.size ≤ sizeLine
    rw [List.size_toArray, List.length_reverse, Array.length_toList]
    exact hsz
  obtain ⟨os, hos, hcs, hds⟩ := id hs
  have hTs : s.TypeIs (.ref sl) "slice" := ⟨os, hos, hcs⟩
  unfold getItem
  try with_reducible refine wpAny_holding ?_
  first | refine wpAny_bind (wpAny_pure ?_) | skip
  refine wpAny_bind (wpAny_sequenceKey ht.typeIs (by decide) ?_)
  refine wpAny_bind (wpAny_callSpecial?_slot (name := Str.ofString "__getitem__") ht.typeIs PyProof.Rows.slot_tuple_getitem
    (wpAny_call_entry PyProof.Rows.slot_tuple_getitem ht.typeIs entry_tuple_getitem ?_ (args_tuple_getitem _ _)))
  show wpAny _ _ (Builtin.Tuple.tupleItemsOf (.ref t) >>= _) _ _ s
  refine wpAny_bind (tupleItemsOf_ ht ?_)
  refine wpAny_bind (wpAny_typeOf hTs ?_)
  rw [if_pos (by decide)]
  refine wpAny_bind (sliceApplied_rev hs pl pu ps ?_)
  have hno : ¬ ((((items.size : Int) - 1) == 0 && (-1 : Int) == 1 && items.size == items.size) = true) := by
    rw [show ((-1 : Int) == 1) = false by decide, Bool.and_false, Bool.false_and]
    exact Bool.false_ne_true
  show wpAny _ _ (if (((items.size : Int) - 1) == 0 && (-1 : Int) == 1 && items.size == items.size) = true then _ else _) _ _ s
  rw [if_neg hno, pick_rev]
  first
    | exact wpAny_bind (m := Builtin.Tuple.tupleExact _) (wpAny_newObj_type (wpAny_pure ⟨_, rfl, wpAny_pure h⟩) htake)
    | exact wpAny_bind (m := Builtin.Tuple.tupleExact _) (wpAny_newObj_type (wpAny_bind (wpAny_pure (wpAny_pure ⟨_, rfl, wpAny_pure h⟩))) htake)
    | exact wpAny_bind (wpAny_bind (m := Builtin.Tuple.tupleExact _) (wpAny_newObj_type (wpAny_pure (wpAny_pure ⟨_, rfl, wpAny_pure h⟩)) htake))
    | exact wpAny_bind (wpAny_bind (m := Builtin.Tuple.tupleExact _) (wpAny_newObj_type (wpAny_pure ⟨_, rfl, wpAny_pure h⟩) htake))
end
section
variable {X : Cx}
def rRev (K : Frag) : V → Hp → VK → Prop := fun x H Q => ∃ F d, Same F H ∧ View K F H x d ∧ revD d fun r => ∀ v H', Out K F H r v H' → Q v H'
def tRev (K : Frag) (te : TE) : TE := fun σ H Q => te σ H fun x H1 => rRev K x H1 Q
theorem pe_rev {e : Expr} {te : TE} {k : Nat} {p1 p2 p3 pos : Pos} (he : PE X e te) : PE X (.Subscript e (.Slice none none (some (.UnaryOp .USub (.Constant (.int 1) k p1) p2)) p3) pos) (tRev X.K te) := by
  refine ⟨fun pins s σ H Q I h => ?_⟩
  refine Subscript_ (thn (he.run pins s σ H _ I h) fun v s1 ⟨x, H1, I1, r1, q1⟩ => ?_)
  obtain ⟨F, d, m, w, q⟩ := q1
  have hst : PO X (some (.UnaryOp .USub (.Constant (.int 1) k p1) p2)) (tPart (tUn (rU fun i => .int (-i)) (tC (.int 1)))) := po_some (pe_un un_neg pe_int)
  refine wpAny_Slice (thn (po_none.run pins s1 σ H1 (fun o H2 => o = none ∧ H2 = H1) I1 ⟨rfl, rfl⟩) fun vl s2 ⟨l, H2, I2, pl, el, e2⟩ => ?_)
  subst el e2
  refine thn (po_none.run pins s2 σ H2 (fun o H3 => o = none ∧ H3 = H2) I2 ⟨rfl, rfl⟩) fun vu s3 ⟨u, H3, I3, pu, eu, e3⟩ => ?_
  subst eu e3
  refine thn (hst.run pins s3 σ H3 (fun o H4 => o = some (-1) ∧ H4 = H3) I3 ⟨1, rfl, -1, rfl, rfl, rfl⟩) fun vs s4 ⟨o, H4, I4, ps, eo, e4⟩ => ?_
  subst eo e4
  have I5 : Inv X pins σ H4 { s4 with heap := s4.heap.push { cls := .type "slice", data := .fields #[vl, vu, vs] } } := I4.kept (t' := s4.toks) fun b ob q => Heap.get?_push_of_some _ q
  unfold revD at q
  split at q
  · obtain ⟨a, xs, rfl, hx, t⟩ := w
    cases r1
    obtain ⟨its, r, ht, hz⟩ := I5.list hx
    have hlen := r.length
    refine tail_any (ops := [.ref a, .ref s4.heap.objs.size]) ht.isList.typeIs (PySem.slot_list_getitem.lookup) ?_ (by with_unfolding_all rfl)
    refine wpAny_getItem_list_slice ht.isList (Heap.IsSliceOf.new _ vl vu vs) pl pu ps (by decide) ?_ (by rw [List.size_toArray]; omega)
    rw [PySem.W.krv_pick]
    have n := I5.hok.fresh (Nat.le_refl _)
    refine ⟨.ref _, _, I5.laid (t' := s4.toks) (o := .lst xs.reverse) (fun b ob q => Heap.get?_push_of_some _ q) (Nat.le_refl _) ?_, rfl, q _ _ (.own n ⟨_, upd_same, t.reverse⟩)⟩
    exact ⟨by rw [List.length_reverse]; exact hz, _, 0, r.reverse, Heap.get?_push_size _ rfl⟩
  · obtain ⟨a, xs, rfl, hx, t⟩ := w
    cases r1
    obtain ⟨its, r, ht, hz⟩ := I5.tuple (same_sqT m hx)
    have hlen := r.length
    refine tail_any (ops := [.ref a, .ref s4.heap.objs.size]) ht.typeIs (PyProof.Rows.slot_tuple_getitem.lookup) ?_ (by with_unfolding_all rfl)
    refine getItem_tuple_rev ht (Heap.IsSliceOf.new _ vl vu vs) pl pu ps ?_ (by rw [List.size_toArray]; omega)
    have n := I5.hok.fresh (Nat.le_refl _)
    refine ⟨.ref _, _, I5.laid (t' := s4.toks) (o := .tup xs.reverse) (fun b ob q => Heap.get?_push_of_some _ q) (Nat.le_refl _) ?_, rfl, q _ _ (.tup n t.reverse)⟩
    exact ⟨by rw [List.length_reverse]; exact hz, _, r.reverse, ⟨_, Heap.get?_push_size _ rfl, rfl, 0, rfl⟩⟩
  · exact q.elim
theorem e_rev {Φ : Tbl} {io : List Nat} {a : E} {e : Expr} {k : Nat} {p1 p2 p3 pos : Pos} (ha : PE X e (tE X.K Φ io a)) : PE X (.Subscript e (.Slice none none (some (.UnaryOp .USub (.Constant (.int 1) k p1) p2)) p3) pos) (tE X.K Φ io (.rev a)) :=
  PE.weak (pe_rev ha) fun σ H Q ⟨g, F, env, Q', Rp, w, k⟩ => un_ok revD_mono Rp w k
end
end Co

set_option linter.all false
/-! Co27: sorting tuples of ints of any lengths (none of them empty). -/
namespace Co
open PySem PySem.Spec PyProof.Rows L2
section
variable {prog : Program} {w : World} {A : Around} {E : Value → Shared → Prop} {s : Shared}
theorem katlex_ints {Q : Bool → Shared → Prop} : ∀ {us vs : List Value} {xs ys : List Int} (i : Nat), IntsAre us xs → IntsAre vs ys → Q (HT.lexLt xs ys) s → PySem.W.KatLex prog w A true (decide (xs.length < ys.length)) Q (us.zip vs) i s
  | [], [], _, _, i, .nil, .nil, q => PySem.W.kat_nil q
  | [], _ :: _, _, _, i, .nil, .cons y t h, q => PySem.W.kat_nil (by
      rw [HT.lexLt_nil_cons] at q
      simpa using q)
  | _ :: _, [], _, _, i, .cons x t h, .nil, q => PySem.W.kat_nil (by
      rw [HT.lexLt_cons_nil] at q
      simpa using q)
  | _ :: us, _ :: vs, _, _, i, .cons (ns := xs) x t h, .cons (ns := ys) y u h', q => by
    rw [HT.lexLt_cons] at q
    rw [List.zip_cons_cons]
    refine PySem.W.kat_cons (SeqAt.EqAt.int_int x t y u prog w _ _ ?_)
    refine PySem.W.kat_go (fun e1 => ?_) (fun e1 => ?_)
    · have ex : x = y := by simpa using e1
      rw [if_pos ex] at q
      have e : decide ((x :: xs).length < (y :: ys).length) = decide (xs.length < ys.length) := by simp
      rw [e]
      exact PySem.W.kat_yes (katlex_ints (i + 1) h h' q)
    · have ex : ¬ x = y := by simpa using e1
      rw [if_neg ex] at q
      cases i with
      | zero => exact PySem.W.kat_no (oneLt_int q)
      | succ i => exact PySem.W.kat_no (PySem.W.kat_one _ _ (PyProof.Rows.lt_int q))
theorem tups_cmp {vs : List Value} (ht : ∀ v ∈ vs, ∃ ns, TS.TupInts s.heap v ns) : SrtO.Cmp prog w A s (tuples' true) (fun p => p.1 ∈ vs) (SrtO.lt2 fun v u => HT.lexLt (TS.intsOf s.heap v) (TS.intsOf s.heap u)) := by
  intro p q hm hm'
  obtain ⟨ns, h1⟩ := ht _ hm
  obtain ⟨ms, h2⟩ := ht _ hm'
  show wpAny (model prog w) A (keyLt' (tuples' true) p.1 q.1) (fun r s' => s' = s ∧ r = HT.lexLt (TS.intsOf s.heap p.1) (TS.intsOf s.heap q.1)) (fun _ _ => False) s
  rw [h1.ints, h2.ints]
  obtain ⟨a, xs, e, ⟨o, ho, hc, n, hd⟩, i⟩ := h1
  obtain ⟨b, ys, e', ⟨o', ho', hc', n', hd'⟩, i'⟩ := h2
  rw [e, e']
  refine PySem.W.kat_lt ho hd ho' hd' ?_
  have l1 : xs.size = ns.length := by rw [← Array.length_toList]; exact i.length
  have l2 : ys.size = ms.length := by rw [← Array.length_toList]; exact i'.length
  rw [l1, l2]
  exact katlex_ints 0 i i' ⟨rfl, rfl⟩
theorem firsts_tups {h : Heap} : ∀ {vs : List Value}, (∀ v ∈ vs, ∃ ns, TS.TupInts h v ns ∧ ns ≠ []) → ∃ fs, PySem.W.KatTups h vs fs ∧ fs.length = vs.length ∧ ∀ f ∈ fs, ∃ x t, f = Value.int x t
  | [], _ => ⟨[], PySem.W.KatTups.nil, rfl, by simp⟩
  | v :: vs, hv => by
    obtain ⟨fs, t, l, hf⟩ := firsts_tups fun u hu => hv u (List.mem_cons_of_mem _ hu)
    obtain ⟨ns, ⟨a, xs, rfl, ⟨o, ho, hc, n, hd⟩, i⟩, hne⟩ := hv v List.mem_cons_self
    cases ns with
    | nil => exact absurd rfl hne
    | cons x ns =>
      obtain ⟨xl⟩ := xs
      simp only at i
      cases i with
      | cons _ t' i' => exact ⟨.int x t' :: fs, PySem.W.KatTups.cons ho hc hd rfl t, by rw [List.length_cons, List.length_cons, l], fun f hf' => by
          rcases List.mem_cons.mp hf' with rfl | hf'
          · exact ⟨_, _, rfl⟩
          · exact hf f hf'⟩
theorem tups_sortable {a : Addr} {vs : List Value} (h0 : 0 < vs.length) (ht : ∀ v ∈ vs, ∃ ns, TS.TupInts s.heap v ns ∧ ns ≠ []) (ha : ∀ o, s.heap.get? a = some o → o.cls ≠ .type "tuple") :
    SrtO.SortableO prog w A s a vs fun v u => HT.lexLt (TS.intsOf s.heap v) (TS.intsOf s.heap u) := by
  intro h' keep
  have kp : ∀ b o, s.heap.get? b = some o → o.cls = .type "tuple" → h'.get? b = some o := fun b o e c => keep b o (fun z => by subst z; exact ha o e c) e
  have ht' : ∀ v ∈ vs, ∃ ns, TS.TupInts h' v ns ∧ ns ≠ [] := fun v hv => by
    obtain ⟨ns, t, n⟩ := ht v hv
    exact ⟨ns, t.keeps kp, n⟩
  obtain ⟨fs, h1, h2, h3⟩ := firsts_tups ht'
  refine ⟨tuples' true, fun Q E hq => ?_, ?_⟩
  · refine PySem.W.kat_kind (T := .type "int") h1 (by omega) (fun f hm => ?_) (by rfl) ?_
    · obtain ⟨x, t, rfl⟩ := h3 f hm
      exact PySem.W.Looks.now
    · have e : (Value.type "int" != Value.type "tuple") = true := by first | decide +kernel | rfl | decide
      rw [e]
      exact hq
  · intro p q hm hm'
    have := tups_cmp (prog := prog) (w := w) (A := A) (s := { s with heap := h' }) (vs := vs) (fun v hv => by obtain ⟨ns, t, _⟩ := ht' v hv; exact ⟨ns, t⟩) p q hm hm'
    obtain ⟨n1, t1, _⟩ := ht _ hm
    obtain ⟨n2, t2, _⟩ := ht _ hm'
    have e1 : TS.intsOf h' p.1 = TS.intsOf s.heap p.1 := (t1.keeps kp).ints.trans t1.ints.symm
    have e2 : TS.intsOf h' q.1 = TS.intsOf s.heap q.1 := (t2.keeps kp).ints.trans t2.ints.symm
    have e3 : SrtO.lt2 (fun v u => HT.lexLt (TS.intsOf h' v) (TS.intsOf h' u)) p q = SrtO.lt2 (fun v u => HT.lexLt (TS.intsOf s.heap v) (TS.intsOf s.heap u)) p q := by
      show HT.lexLt (TS.intsOf h' p.1) (TS.intsOf h' q.1) = HT.lexLt (TS.intsOf s.heap p.1) (TS.intsOf s.heap q.1)
      rw [e1, e2]
    show wpAny _ _ _ (fun r s' => s' = _ ∧ r = SrtO.lt2 (fun v u => HT.lexLt (TS.intsOf s.heap v) (TS.intsOf s.heap u)) p q) _ _
    rw [← e3]
    exact this
end
end Co

set_option linter.all false
/-! Co5: built-in functions. -/
namespace Co
open PySem PySem.Spec PyProof.Rows L2

def tyS : Ty → String
  | .int => "int" | .bool => "bool" | .str => "str" | .tuple => "tuple" | .list => "list" | .dict => "dict"
def tyD : PyData → String
  | .none => "NoneType" | .bool _ => "bool" | .int _ => "int" | .str _ => "str" | .list _ => "list" | .tuple _ => "tuple" | .dict _ => "dict"
theorem kit_b (t : Ty) (d : PyData) : kitB (tyD d) (tyS t) = some (isTy t d) := by
  cases d <;> cases t <;> simp only [tyD, tyS] <;> first | (refine Eq.trans (b := some true) (by decide +kernel) rfl) | (refine Eq.trans (b := some false) (by decide +kernel) rfl)
theorem kit_any {K : Frag} (d : PyData) : ∀ ts : List Ty, PySem.W.kitAny K (.type (tyD d)) (ts.map fun t => .type (tyS t)) = some (ts.any fun t => isTy t d)
  | [] => kitAny_nil
  | t :: ts => kitAny_cons (kit_ty (kit_b t d)) (fun e => by
      rw [kit_any d ts, List.any_cons, e]; rfl) fun e => by rw [List.any_cons, e]; rfl
theorem view_ty {K : Frag} {F H : Hp} (m : Same F H) {v : V} {d : PyData} (w : View K F H v d) : TyX K H v (.type (tyD d)) := by
  cases d with
  | none => cases w; exact .base .non
  | bool b => cases w; exact .base (.bl b)
  | int i => cases w; exact .base (.int i)
  | str x => cases w; exact .base (.str x)
  | list ds =>
    obtain ⟨a, xs, rfl, h, t⟩ := w
    rcases h with (h | ⟨o, h⟩) | ⟨o, its, n, h, c, _⟩
    · exact .base (.lst h)
    · exact .base (.frz h)
    · exact .kList h c
  | tuple ds =>
    obtain ⟨a, xs, rfl, h, t⟩ := w
    rcases same_sqT m h with (h | ⟨o, h⟩) | ⟨o, its, n, h, c, _⟩
    · exact .base (.tup h)
    · exact .fTuple h
    · exact .kTuple h c
  | dict kvs =>
    obtain ⟨a, kv, ds, rfl, h, t, _⟩ := w
    exact .base (.dK h)

theorem clsAll : ∀ ts : List Ty, Paired ClsV (ts.map fun t => V.ty (tyS t)) (ts.map fun t => Value.type (tyS t))
  | [] => .nil
  | t :: ts => .cons (.ty _) (clsAll ts)

theorem boolsOf_den {K : Frag} {F : Hp} : ∀ {ds : List PyData} {bs : List Bool}, boolsOf ds = some bs → ds = bs.map PyData.bool
  | [], bs, e => by cases e; rfl
  | d :: ds, bs, e => by
    cases d <;> simp [boolsOf] at e
    obtain ⟨r, e1, rfl⟩ := e
    rw [boolsOf_den (K := K) (F := F) e1]; rfl
theorem intsOf_den : ∀ {ds : List PyData} {bs : List Int}, intsOf ds = some bs → ds = bs.map PyData.int
  | [], bs, e => by cases e; rfl
  | d :: ds, bs, e => by
    cases d <;> simp [intsOf] at e
    obtain ⟨r, e1, rfl⟩ := e
    rw [intsOf_den e1]; rfl

/-- the name of a built-in, and whether it is a class -/
def b1Name : B1 → String
  | .len => "len" | .repr => "repr" | .sorted => "sorted" | .tuple => "tuple" | .list => "list" | .min => "min" | .sum => "sum" | .all => "all" | .any => "any" | .int => "int"
  | .lenset => "len" | .sortset => "sorted"
def b1Val : B1 → Value
  | .len => .builtin "len" | .repr => .builtin "repr" | .sorted => .builtin "sorted" | .tuple => .type "tuple" | .list => .type "list" | .min => .builtin "min" | .sum => .builtin "sum" | .all => .builtin "all"
  | .any => .builtin "any" | .int => .type "int" | .lenset => .builtin "len" | .sortset => .builtin "sorted"

section
variable {X : Cx}
theorem isiR (ts : List Ty) (t : Ty) (hts : ts = [t]) : CallR X (.builtin "isinstance") (fun vs H Q => ∃ x F d, vs = [x, .ty (tyS t)] ∧ Same F H ∧ View X.K F H x d ∧ Q (.bl (ts.any fun t => isTy t d)) H) := by
  intro pins s σ H xs us Q I r h
  obtain ⟨x, F, d, rfl, m, w, q⟩ := h
  subst hts
  refine call_isi pins s σ H _ us Q I r ⟨x, _, .type (tyD d), .type (tyS t), isTy t d, rfl, .ty _, view_ty m w, kit_ty (kit_b t d), ?_⟩
  have e : ([t].any fun t => isTy t d) = isTy t d := by simp
  rw [e] at q
  exact q
theorem isiTR (ts : List Ty) : CallR X (.builtin "isinstance") (fun vs H Q => ∃ x F d tp, vs = [x, .ref tp] ∧ H tp = some (.tup (ts.map fun t => V.ty (tyS t))) ∧ Same F H ∧ View X.K F H x d ∧ Q (.bl (ts.any fun t => isTy t d)) H) := by
  intro pins s σ H xs us Q I r h
  obtain ⟨x, F, d, tp, rfl, ht, m, w, q⟩ := h
  exact call_isiT pins s σ H _ us Q I r ⟨x, tp, _, .type (tyD d), _, _, rfl, ht, clsAll ts, view_ty m w, kit_any d ts, q⟩

theorem lenR : CallR X (.builtin "len") (rC1 X.K (b1D .len)) := by
  intro pins s σ H vs us Q I r h
  obtain ⟨x, rfl, F, d, m, w, q⟩ := h
  unfold b1D at q
  simp only at q
  split at q
  · obtain ⟨a, xs, rfl, h, t⟩ := w
    exact call_len pins s σ H _ us Q I r ⟨_, xs.length, rfl, .inl ⟨xs, h, rfl⟩, by rw [t.length]; exact q _ _ .int⟩
  · obtain ⟨a, xs, rfl, h, t⟩ := w
    exact call_len pins s σ H _ us Q I r ⟨_, xs.length, rfl, .inr ⟨xs, same_sqT m h, rfl⟩, by rw [t.length]; exact q _ _ .int⟩
  · exact q.elim
theorem allR (hc : X.calm = true) : CallR X (.builtin "all") (rC1 X.K (b1D .all)) := by
  intro pins s σ H vs us Q I r h
  obtain ⟨x, rfl, F, d, m, w, q⟩ := h
  unfold b1D at q
  simp only at q
  split at q
  · obtain ⟨a, xs, rfl, h, t⟩ := w
    obtain ⟨bs, e, q⟩ := q
    rw [boolsOf_den (K := X.K) (F := F) e] at t
    rw [t.bools] at h
    exact cr_all hc pins s σ H _ us Q I r ⟨a, bs, rfl, h, q _ _ .bl⟩
  · exact q.elim
theorem anyR (hc : X.calm = true) : CallR X (.builtin "any") (rC1 X.K (b1D .any)) := by
  intro pins s σ H vs us Q I r h
  obtain ⟨x, rfl, F, d, m, w, q⟩ := h
  unfold b1D at q
  simp only at q
  split at q
  · obtain ⟨a, xs, rfl, h, t⟩ := w
    obtain ⟨bs, e, q⟩ := q
    rw [boolsOf_den (K := X.K) (F := F) e] at t
    rw [t.bools] at h
    exact cr_any hc pins s σ H _ us Q I r ⟨a, bs, rfl, h, q _ _ .bl⟩
  · exact q.elim
theorem tupleR : CallR X (.type "tuple") (rC1 X.K (b1D .tuple)) := by
  intro pins s σ H vs us Q I r h
  obtain ⟨x, rfl, F, d, m, w, q⟩ := h
  unfold b1D at q
  simp only at q
  split at q
  · obtain ⟨a, xs, rfl, h, t⟩ := w
    exact call_tuple_of pins s σ H _ us Q I r ⟨a, xs, rfl, .inl ⟨h, fun p n => q _ _ (.tup n t)⟩⟩
  · obtain ⟨a, xs, rfl, h, t⟩ := w
    exact call_tuple_of pins s σ H _ us Q I r ⟨a, xs, rfl, .inr ⟨same_sqT m h, q _ _ (.old (.tup h t))⟩⟩
  · exact q.elim
theorem keys_den {K : Frag} {F : Hp} : ∀ {kv : List (Key × V)} {ds : List PyData}, ds.length = kv.length → DenAll K F (kv.map fun p => kV p.1) ((dctOf kv ds).map (·.1))
  | [], ds, e => by
    cases ds with
    | nil => exact .nil
    | cons a b => cases e
  | p :: kv, ds, e => by
    cases ds with
    | nil => cases e
    | cons d ds =>
      have ih := keys_den (K := K) (F := F) (kv := kv) (ds := ds) (by simpa using e)
      obtain ⟨k, v⟩ := p
      refine .cons ?_ ih
      cases k
      · exact .int _
      · exact .str _
theorem listR (hc : X.calm = true) : CallR X (.type "list") (rC1 X.K (b1D .list)) := by
  intro pins s σ H vs us Q I r h
  obtain ⟨x, rfl, F, d, m, w, q⟩ := h
  unfold b1D at q
  cases d <;> simp only at q <;> first | exact q.elim | skip
  · obtain ⟨a, xs, rfl, h, t⟩ := w
    exact call_list_of pins s σ H _ us Q I r ⟨a, xs, rfl, .inl h, fun p n => q _ _ (.own n ⟨_, upd_same, t⟩)⟩
  · obtain ⟨a, xs, rfl, h, t⟩ := w
    exact call_list_of pins s σ H _ us Q I r ⟨a, xs, rfl, .inr (same_sqT m h), fun p n => q _ _ (.own n ⟨_, upd_same, t⟩)⟩
  · obtain ⟨a, kv, ds, rfl, h, t, rfl⟩ := w
    exact call_list_dK hc pins s σ H _ us Q I r ⟨a, kv, rfl, h, fun p n => q _ _ (.own n ⟨_, upd_same, keys_den (by simpa using t.length.symm)⟩)⟩
section
variable {prog : Program} {w : World} {A : Around} {E : Value → Shared → Prop} {s : Shared} {l : Addr} {xs : Array (Int × Tok)}
theorem iter_intTup {Q : Value → Shared → Prop} (hl : s.heap.IsTuple l (intItems xs))
    (h : ∀ s₂ : Shared, s₂ = { s with heap := s.heap.push { cls := .type "tuple_iterator", data := .fields #[.ref l, .int 0 0] } } →
      (s₂.heap.IsTupleIter s.heap.objs.size l 0 ∧ s₂.heap.IsTuple l (intItems xs)) → (∀ b ∈ [s.heap.objs.size, l], b < s₂.heap.objs.size) → l ≠ s.heap.objs.size → Q (.ref s.heap.objs.size) s₂) :
    wpAny (model prog w) A (pyIter (.ref l)) Q E s := by
  have hlt : l < s.heap.objs.size := by obtain ⟨_, e, _⟩ := hl; exact Heap.lt_size e
  refine wpAny_pyIter_tuple hl (h _ rfl ⟨⟨_, Heap.get?_push_size _ rfl, rfl, rfl⟩, ?_⟩ (fun b hb => ?_) (Nat.ne_of_lt hlt))
  · obtain ⟨o, e, c, n, hd⟩ := hl
    exact ⟨o, Heap.get?_push_of_some _ e, c, n, hd⟩
  · show b < (s.heap.push _).objs.size
    rw [Heap.size_push]
    simp only [List.mem_cons, List.not_mem_nil, or_false] at hb
    rcases hb with rfl | rfl
    · exact Nat.lt_succ_self _
    · exact Nat.lt_succ_of_lt hlt
theorem old_keptT {h' : Heap} (hk : ∀ b o, b ∉ [s.heap.objs.size] → (s.heap.push { cls := .type "tuple_iterator", data := .fields #[.ref l, .int 0 0] }).get? b = some o → h'.get? b = some o) :
    ∀ b o, s.heap.get? b = some o → h'.get? b = some o := fun b o e => by
  refine hk b o (fun hm => ?_) (Heap.get?_push_of_some _ e)
  simp only [List.mem_cons, List.not_mem_nil, or_false] at hm
  exact absurd (hm ▸ Heap.lt_size e) (Nat.lt_irrefl _)
theorem sum_tup {its : List Value} {ns : List Int} {Q : Value → Shared → Prop} (hh : A.handled = none) (hl : s.heap.IsTuple l its.toArray) (hi : IntsAre its ns)
    (h : ∀ h' tk t', (∀ b o, s.heap.get? b = some o → h'.get? b = some o) → Q (.int ns.sum t') { s with heap := h', toks := tk }) : wpAny (model prog w) A (call (.builtin "sum") [.ref l]) Q E s := by
  obtain ⟨xs, e⟩ := hi.allInts.items
  have hn : numsOf (intItems xs).toList = ns := by rw [← e]; exact hi.numsOf
  rw [nums_intItems] at hn
  rw [e] at hl
  refine call_sum_walkG (iter_intTup hl fun s₂ e st hfp hlI => ?_)
  subst e
  refine ⟨_, _, _, _, _, _, numAt xs, rfl, Walks.tuple (A := A.in1) hh _ l hlI (intItems xs), st, hfp, (fun _ _ => intItems_at), fun h' tk t' hk => ?_⟩
  have := h h' tk t' (old_keptT hk)
  have e3 : (intItems xs).size = xs.size := by simp [intItems]
  rw [e3, preSum_eq, List.take_of_length_le (by simp), hn]; exact this
theorem min_tup {its : List Value} {ns : List Int} {Q : Value → Shared → Prop} (hh : A.handled = none) (hl : s.heap.IsTuple l its.toArray) (hi : IntsAre its ns) (hne : 0 < ns.length)
    (h : ∀ h' tk M t', (∀ b o, s.heap.get? b = some o → h'.get? b = some o) → M ∈ ns → (∀ a, a ∈ ns → M ≤ a) → Q (.int M t') { s with heap := h', toks := tk }) : wpAny (model prog w) A (call (.builtin "min") [.ref l]) Q E s := by
  obtain ⟨xs, e⟩ := hi.allInts.items
  have hn : numsOf (intItems xs).toList = ns := by rw [← e]; exact hi.numsOf
  rw [nums_intItems] at hn
  subst hn
  rw [e] at hl
  have hsz : 0 < xs.size := by simpa using hne
  refine call_min_walk (iter_intTup hl fun s₂ e st hfp hlI => ?_)
  subst e
  refine ⟨_, _, _, _, _, _, _, rfl, Walks.tuple (A := A.in1) hh _ l hlI (intItems xs), st, hfp, by simpa [intItems] using hsz, CmpOf.ints_lt (numAt xs) (fun _ _ => intItems_at), fun v h' tk hP hk => ?_⟩
  have hv : (intItems xs)[argBest (fun i j => decide (numAt xs i < numAt xs j)) (xs.size - 1)]? = some v := by simpa [intItems] using hP
  obtain ⟨t, rfl⟩ := intItems_at hv
  obtain ⟨h1, h2⟩ := argBest_lt (numAt xs) (xs.size - 1)
  refine h h' tk _ t (old_keptT hk) ?_ fun a ha => ?_
  · rw [numAt_eq]; exact PySem.getD_mem (by rw [List.length_map, Array.length_toList]; omega)
  · obtain ⟨j, hj, rfl⟩ := mem_getD ha
    rw [List.length_map, Array.length_toList] at hj
    rw [← numAt_eq]; exact h2 j (by omega)
end
theorem intR : CallR X (.type "int") (rC1 X.K (b1D .int)) := by
  intro pins s σ H vs us Q I r h
  obtain ⟨x, rfl, F, d, m, w, q⟩ := h
  unfold b1D at q
  cases d <;> simp only at q <;> first | exact q.elim | skip
  cases w
  exact call_int1 pins s σ H _ us Q I r (.inl ⟨_, rfl, q _ _ .int⟩)
theorem sumR (hc : X.calm = true) : CallR X (.builtin "sum") (rC1 X.K (b1D .sum)) := by
  intro pins s σ H vs us Q I r h
  obtain ⟨x, rfl, F, d, m, w, q⟩ := h
  unfold b1D at q
  cases d <;> simp only [itemsOf] at q <;> first | exact q.elim | skip
  · obtain ⟨a, xs, rfl, h, t⟩ := w
    obtain ⟨ns, e, q⟩ := q
    rw [intsOf_den e] at t
    rw [t.ints] at h
    exact cr_sum hc pins s σ H _ us Q I r ⟨a, ns, rfl, h, q _ _ .int⟩
  · obtain ⟨a, xs, rfl, h, t⟩ := w
    obtain ⟨ns, e, q⟩ := q
    rw [intsOf_den e] at t
    rw [t.ints] at h
    obtain ⟨its, rv, ht, _⟩ := I.tuple (same_sqT m h)
    rw [Vals.ref1 r]
    exact sum_tup (I.ok.hd hc) ht rv.ints fun h' tk t' hk => ⟨.int _, H, I.kept hk, ⟨_, rfl⟩, q _ _ .int⟩
theorem minR (hc : X.calm = true) : CallR X (.builtin "min") (rC1 X.K (b1D .min)) := by
  intro pins s σ H vs us Q I r h
  obtain ⟨x, rfl, F, d, m, w, q⟩ := h
  unfold b1D at q
  cases d <;> simp only [itemsOf] at q <;> first | exact q.elim | skip
  · obtain ⟨a, xs, rfl, h, t⟩ := w
    obtain ⟨ns, e, l, q⟩ := q
    rw [intsOf_den e] at t
    rw [t.ints] at h
    exact cr_min hc pins s σ H _ us Q I r ⟨a, ns, rfl, h, l, fun m h1 h2 => q m h1 h2 _ _ .int⟩
  · obtain ⟨a, xs, rfl, h, t⟩ := w
    obtain ⟨ns, e, l, q⟩ := q
    rw [intsOf_den e] at t
    rw [t.ints] at h
    obtain ⟨its, rv, ht, _⟩ := I.tuple (same_sqT m h)
    rw [Vals.ref1 r]
    exact min_tup (I.ok.hd hc) ht rv.ints l fun h' tk m t' hk h1 h2 => ⟨.int _, H, I.kept hk, ⟨_, rfl⟩, q m h1 h2 _ _ .int⟩
theorem b2R (f : B2) (hc : X.calm = true) : CallR X (.builtin (match f with | .max => "max" | .min => "min")) (rC2 X.K (b2D f)) := by
  intro pins s σ H vs us Q I r h
  obtain ⟨x, y, rfl, F, d1, d2, m, w1, w2, q⟩ := h
  unfold b2D at q
  split at q
  · rename_i i j
    cases w1
    cases w2
    cases f
    · refine call_max2 hc pins s σ H _ us Q I r ⟨i, j, rfl, ?_⟩
      have e : max i j = if j > i then j else i := by
        split <;> omega
      rw [← e]
      exact q _ _ .int
    · refine call_min2 hc pins s σ H _ us Q I r ⟨i, j, rfl, ?_⟩
      have e : min i j = if j < i then j else i := by
        split <;> omega
      rw [← e]
      exact q _ _ .int
  · exact q.elim

/-! ### repr -/
/-- what is read of a datum: its lists and dicts stand in H -/
def LD (K : Frag) (H : Hp) (a : Addr) : Prop := (∃ xs, SqL K H a xs) ∨ ∃ kv, H a = some (.dK kv)
theorem keyD_reads {h : Heap} {k : Key} {u : Value} (e : keyIs k u = true) : Reads h u (keyD k) [] := by
  rcases keyIs_shape e with ⟨i, t, rfl, rfl⟩ | ⟨x, t, rfl, rfl⟩
  · exact .int i t
  · exact .str x t
theorem pairs_reads {P : Program} {w : World} {h : Heap} : ∀ {es : List DictEntry} {vs : List (Key × Value)} {kv : List (Key × V)} {ds : List PyData}, Pairs (mixKind P w) es vs → KV kv vs → ds.length = kv.length →
    ReadsAll h (es.map (·.key)) ((dctOf kv ds).map (·.1)) [] ∧ es.map (·.val) = vs.map (·.2) ∧ (dctOf kv ds).map (·.2) = ds
  | [], _, kv, ds, .nil, k, e => by
    cases k
    cases ds with
    | nil => exact ⟨.nil, rfl, rfl⟩
    | cons a b => cases e
  | e :: es, _, kv, ds, .cons (kv := q) h1 h2 h3, k, el => by
    cases k with
    | @cons p _ kv _ r k =>
      cases ds with
      | nil => cases el
      | cons d ds =>
        obtain ⟨i1, i2, i3⟩ := pairs_reads (h := h) (ds := ds) h3 k (by simpa using el)
        refine ⟨?_, ?_, ?_⟩
        · have := ReadsAll.cons (keyD_reads (h := h) (k := p.1) (u := e.key) (by rw [r.1]; exact h1)) i1
          simpa [dctOf] using this
        · simp [i2, h2]
        · simpa [dctOf] using i3
theorem kv_vals {kv : List (Key × V)} {vs : List (Key × Value)} (k : KV kv vs) : Vals (kv.map (·.2)) (vs.map (·.2)) := by
  unfold KV at k
  induction k with
  | nil => exact .nil
  | cons r _ ih => exact .cons r.2 ih
mutual
theorem Den.reads {pins : List (Addr × Obj)} {σ : L2.St} {H : Hp} {s : Shared} (I : Inv X pins σ H s) : ∀ {v : V} {d : PyData} (u : Value), Den X.K H v d → RelV v u → ∃ as, Reads s.heap u d as ∧ ∀ a ∈ as, LD X.K H a
  | _, _, u, .non, r => by cases r; exact ⟨_, .none, fun _ h => absurd h (by simp)⟩
  | _, _, u, .bl b, r => by cases r; exact ⟨_, .bool b, fun _ h => absurd h (by simp)⟩
  | _, _, u, .int i, r => by obtain ⟨t, rfl⟩ := r; exact ⟨_, .int i t, fun _ h => absurd h (by simp)⟩
  | _, _, u, .str x, r => by obtain ⟨t, rfl⟩ := r; exact ⟨_, .str x t, fun _ h => absurd h (by simp)⟩
  | _, _, u, .lst (a := a) h t, r => by
    cases r
    obtain ⟨its, rv, ⟨o, n, e, c, _, hd⟩, hz⟩ := I.list h
    obtain ⟨as, ra, rb⟩ := DenAll.reads I its t rv
    refine ⟨_, .list e c hd (by simpa using ra), fun b hb => ?_⟩
    rcases List.mem_cons.mp hb with rfl | hb
    · exact .inl ⟨_, h⟩
    · exact rb b hb
  | _, _, u, .tup (a := a) h t, r => by
    cases r
    obtain ⟨its, rv, ⟨o, e, c, n, hd⟩, hz⟩ := I.tuple h
    obtain ⟨as, ra, rb⟩ := DenAll.reads I its t rv
    exact ⟨_, .tuple e c hd (by simpa using ra), rb⟩
  | _, _, u, .dct (a := a) (kv := kv) (ds := ds) h t q, r => by
    subst q
    cases r
    obtain ⟨z, hs, vs, k, o, es, ep, e, ex, hd, hk, hp, hn⟩ := I.hok _ _ h
    have hl := t.length
    obtain ⟨p1, p2, p3⟩ := pairs_reads (h := s.heap) (ds := ds) hp k (by simpa using hl.symm)
    obtain ⟨as, ra, rb⟩ := DenAll.reads I (vs.map (·.2)) t (kv_vals k)
    refine ⟨_, .dict (kvs := dctOf kv ds) e ex.1 hd p1 (by rw [p2, p3]; exact ra), fun b hb => ?_⟩
    simp only [List.append_nil, List.mem_append, List.mem_cons, List.not_mem_nil, or_false] at hb
    rcases hb with rfl | hb
    · exact .inr ⟨_, h⟩
    · exact rb b hb
theorem DenAll.reads {pins : List (Addr × Obj)} {σ : L2.St} {H : Hp} {s : Shared} (I : Inv X pins σ H s) : ∀ {vs : List V} {ds : List PyData} (us : List Value), DenAll X.K H vs ds → Vals vs us → ∃ as, ReadsAll s.heap us ds as ∧ ∀ a ∈ as, LD X.K H a
  | _, _, _, .nil, r => by cases r; exact ⟨_, .nil, fun _ h => absurd h (by simp)⟩
  | _, _, _, .cons h t, r => by
    cases r with
    | cons r rr =>
      obtain ⟨as, a1, a2⟩ := Den.reads I _ h r
      obtain ⟨bs, b1, b2⟩ := DenAll.reads I _ t rr
      refine ⟨_, .cons a1 b1, fun b hb => ?_⟩
      rcases List.mem_append.mp hb with hb | hb
      · exact a2 b hb
      · exact b2 b hb
end
/-- the interpreter's own table of modules is none of ours -/
def Sys (X : Cx) : Prop := ∃ m, X.base.Ns sysModules m
theorem no_sys (S : Sys X) {pins : List (Addr × Obj)} {σ : L2.St} {H : Hp} {s : Shared} (I : Inv X pins σ H s) {as : List Addr} (h : ∀ a ∈ as, LD X.K H a) : sysModules ∉ as := fun hm => by
  obtain ⟨m, o, es, ep, hb, hd, _⟩ := S
  have hn := (I.bs _ _ hb).2
  rcases h _ hm with ⟨xs, (e | ⟨ob, e⟩) | ⟨ob, its, n, e, _, _, c, _⟩⟩ | ⟨kv, e⟩
  · rw [hn] at e; cases e
  · rw [hn] at e; cases e
  · have e2 := I.mod.kin _ _ e
    rw [hb] at e2
    cases e2
    rw [hd] at c
    cases c
  · rw [hn] at e; cases e
theorem reprR (S : Sys X) (hu : X.A.units + 80 < cLine) (hg : X.A.guards = some []) : CallR X (.builtin "repr") (rC1 X.K (b1D .repr)) := by
  intro pins s σ H vs us Q I r h
  obtain ⟨x, rfl, F, d, m, w, q⟩ := h
  obtain ⟨⟨f1, f2, f3⟩, q⟩ := q
  obtain ⟨u, rfl, ru⟩ := vals1 r
  have f3 := line_le f3
  have fin : ∀ {s' : Shared} {t : Tok}, Inv X pins σ H s' → EP X pins σ Q (.str d.shown t) s' := fun I' => ⟨.str _, H, I', ⟨_, rfl⟩, q _ _ .str⟩
  have big : ∀ a, u = .ref a → wpAny (model X.prog X.w) X.A (call (.builtin "repr") [u]) (EP X pins σ Q) X.xe s := fun a e => by
    subst e
    obtain ⟨as, rd, hb⟩ := Den.reads I _ (w.den m) ru
    exact repr_of_reads' rd f1 (fun _ => no_sys S I hb) hg (by omega) (fun _ _ e => e) (fun h' u tk hk => fin (I.kept hk)) f3
  cases d with
  | none => cases w; cases ru; exact call_repr_gives (T := "NoneType") rfl PySem.F.slot_NoneType_repr PySem.F.entry_NoneType_repr (PySem.F.args_NoneType_repr_1 _) gives_none_repr (fin (I.tok _)) rfl f3
  | bool b => cases w; cases ru; exact call_repr_gives (T := "bool") rfl PySem.F.slot_bool_repr PySem.F.entry_bool_repr (PySem.F.args_bool_repr_1 _) (gives_bool_repr b) (fin (I.tok _)) rfl f3
  | int i =>
    cases w
    obtain ⟨t, rfl⟩ := ru
    exact PySem.P.repr_of_int (by simpa [PyData.showable] using f1) (fin (I.tok _))
  | str y =>
    cases w
    obtain ⟨t, rfl⟩ := ru
    exact call_repr_gives (T := "str") (typeIs_str s y t) PySem.F.slot_str_repr PySem.F.entry_str_repr (PySem.F.args_str_repr_1 _) (gives_str_repr y t) (fin (I.tok _)) rfl f3
  | list ds => obtain ⟨a, xs, rfl, _⟩ := w; exact big a ru
  | tuple ds => obtain ⟨a, xs, rfl, _⟩ := w; exact big a ru
  | dict kvs => obtain ⟨a, xs, ds, rfl, _⟩ := w; exact big a ru
theorem ints_den {K : Frag} {F : Hp} : ∀ {ds : List PyData} {ns : List Int} {xs : List V}, intsOf ds = some ns → DenAll K F xs ds → xs = ns.map V.int := fun {ds ns xs} e t => by
  have := intsOf_den e
  subst this
  exact t.ints
/-- sorted(seq), ints of any number, a list or a tuple -/
theorem sorted_seq {pins : List (Addr × Obj)} {σ : L2.St} {H : Hp} {s : Shared} {a : Addr} {T : String} {o : Obj} {its : List Value} {ns : List Int} {m : Nat} {Q : VK} (I : Inv X pins σ H s) (hT : T = "list" ∨ T = "tuple") (ho : s.heap.get? a = some o) (hcl : o.cls = .type T) (hd : o.data = .seq its.toArray m)
    (rv : Vals (ns.map V.int) its) (hz : ns.length ≤ sizeLine) (q : ∀ (ns' : List Int) (p : Addr), ns'.Perm ns → ns'.Pairwise (· ≤ ·) → H p = none → Q (.ref p) (upd H p (.lst (ns'.map V.int)))) :
    wpAny (model X.prog X.w) X.A (call (.builtin "sorted") [.ref a]) (EP X pins σ Q) X.xe s := by
  have hi := rv.ints
  have hl : its.length = ns.length := by rw [← rv.length, List.length_map]
  refine Calls.call_function_entry kind_sorted plain_sorted entry_sorted (args_sorted1 _) ?_
  unfold Builtin.«sorted»
  refine wpAny_bind (m := checkCount "sorted" 1 1 _) (wpAny_pure ?_)
  refine wpAny_bind (wpAny_collect_seq a hT ho hcl hd (fun h1 keep => ?_) (by rw [List.size_toArray]; omega))
  have el : its.toArray.toList = its := by simp
  rw [el]
  refine wpAny_bind (wpAny_newList ?_ (by omega))
  have I1 : Inv X pins σ H { s with heap := h1 } := I.kept (t' := s.toks) keep
  have hoL : (h1.push (seqObj "list" its.toArray 0)).get? h1.objs.size = some (seqObj "list" its.toArray 0) := Heap.get?_push_size _ rfl
  show wpAny _ _ _ _ _ { s with heap := h1.push (seqObj "list" its.toArray 0) }
  refine wpAny_bind (wpAny_holding (wpAny_call_entry slot_list_sort ⟨_, hoL, rfl⟩ entry_list_sort (SrtO.list_sort_ord SrtO.swo_int hoL (by omega) (fun h2 => SrtO.ints_sortable hi h2) fun out hs hb => ⟨_, rfl, ?_⟩) (args_list_sort _)))
  refine wpAny_pure ⟨_, rfl, ?_⟩
  obtain ⟨k1, k2, k3⟩ := SrtO.ints_out hi hs hb
  obtain ⟨ep, he'⟩ := PyProof.Rows.sortedHeap_at (vs := its) (out := out.toArray) hoL
  have hlen : ((out.map SrtO.iv).map V.int).length ≤ sizeLine := by
    rw [List.length_map, k2.length_eq]; exact hz
  refine ⟨.ref h1.objs.size, upd H h1.objs.size (.lst ((out.map SrtO.iv).map V.int)), I1.laid (t' := s.toks) (fun b o e => ?_) (Nat.le_refl _) ⟨hlen, out, ep, vals_of_ints k1, he'⟩, rfl, q _ _ k2 k3 (I1.hok.fresh (Nat.le_refl _))⟩
  have hlt : b < h1.objs.size := Heap.lt_size e
  rw [PyProof.Rows.sortedHeap_old (Nat.ne_of_lt hlt) (by rw [Heap.size_push]; exact Nat.lt_succ_of_lt hlt)]
  exact Heap.get?_push_of_some _ e
theorem sort_eq {ns ns' : List Int} (h1 : ns'.Perm ns) (h2 : ns'.Pairwise (· ≤ ·)) : ns' = isort (fun a b => decide (a ≤ b)) ns := by
  unfold isort
  refine List.Perm.eq_of_pairwise (le := fun a b => decide (a ≤ b) = true) (fun a b _ _ x y => ?_) (h2.imp fun h => by simpa using h) (List.pairwise_mergeSort (fun a b c x y => ?_) (fun a b => ?_) _) (h1.trans (List.mergeSort_perm _ _).symm)
  · simp at x y; omega
  · simp at x y ⊢; omega
  · simp; omega
theorem denAll_map {K : Frag} {F : Hp} {α : Type} {f : α → V} {g : α → PyData} : ∀ {l : List α}, (∀ x ∈ l, Den K F (f x) (g x)) → DenAll K F (l.map f) (l.map g)
  | [], _ => .nil
  | x :: l, h => .cons (h x List.mem_cons_self) (denAll_map fun y hy => h y (List.mem_cons_of_mem _ hy))
theorem tups_den {pins : List (Addr × Obj)} {σ : L2.St} {F H : Hp} {s : Shared} (I : Inv X pins σ H s) (m : Same F H) : ∀ {ds : List PyData} {ts : List (List Int)} {xs : List V} {its : List Value}, tupsOf ds = some ts → DenAll X.K F xs ds → Vals xs its →
    (∀ v ∈ its, (∃ ns, ns ∈ ts ∧ TS.TupInts s.heap v ns) ∧ Den X.K F (backV v) (.tuple ((TS.intsOf s.heap v).map .int)) ∧ ∃ a, v = .ref a) ∧ its.map (TS.intsOf s.heap) = ts
  | [], ts, _, _, e, .nil, .nil => by
    cases e
    exact ⟨by simp, rfl⟩
  | .tuple es :: ds, ts, _, _, e, .cons (.tup (a := a) hq ht) t, .cons r rr => by
    simp only [tupsOf] at e
    cases h1 : Co.intsOf es with
    | none => rw [h1] at e; cases e
    | some ns =>
      rw [h1] at e
      cases h2 : tupsOf ds with
      | none => rw [h2] at e; cases e
      | some ts' =>
        rw [h2] at e
        cases e
        cases r
        obtain ⟨i1, i2⟩ := tups_den I m h2 t rr
        have ex := ints_den h1 ht
        subst ex
        have tq := tupI_raw I (same_sqT m hq)
        have ees := intsOf_den h1
        have dd : Den X.K F (V.ref a) (.tuple ((TS.intsOf s.heap (.ref a)).map .int)) := by
          rw [tq.ints, ← ees]
          exact .tup hq ht
        refine ⟨fun v hv => ?_, ?_⟩
        · rcases List.mem_cons.mp hv with rfl | hv
          · exact ⟨⟨ns, List.mem_cons_self, tq⟩, dd, _, rfl⟩
          · obtain ⟨⟨n, hn, q⟩, b, c⟩ := i1 v hv
            exact ⟨⟨n, List.mem_cons_of_mem _ hn, q⟩, b, c⟩
        · rw [List.map_cons, i2, tq.ints]
  | .none :: _, _, _, _, e, _, _ => by simp [tupsOf] at e
  | .int _ :: _, _, _, _, e, _, _ => by simp [tupsOf] at e
  | .bool _ :: _, _, _, _, e, _, _ => by simp [tupsOf] at e
  | .str _ :: _, _, _, _, e, _, _ => by simp [tupsOf] at e
  | .list _ :: _, _, _, _, e, _, _ => by simp [tupsOf] at e
  | .dict _ :: _, _, _, _, e, _, _ => by simp [tupsOf] at e
theorem sortedR (hc : X.calm = true) (hu : X.A.units + 80 < cLine) : CallR X (.builtin "sorted") (rC1 X.K (b1D .sorted)) := by
  intro pins s σ H vs us Q I r h
  obtain ⟨x, rfl, F, d, m, w, q⟩ := h
  obtain ⟨u, rfl, ru⟩ := vals1 r
  unfold b1D at q
  simp only at q
  split at q
  case h_2 => exact q.elim
  case h_1 ds hds =>
    obtain ⟨hlen, q⟩ := q
    rcases q with ⟨ns, hns, q⟩ | ⟨rfl, ts, hts, hne, q⟩
    · have fin : ∀ {a : Addr} {xs : List V}, DenAll X.K F xs ds → (∀ (ns' : List Int) (p : Addr), ns'.Perm ns → ns'.Pairwise (· ≤ ·) → H p = none → Q (.ref p) (upd H p (.lst (ns'.map V.int)))) := fun {a xs} t ns' p h1 h2 n => by
        have e := sort_eq h1 h2
        subst e
        exact q _ _ (.own n ⟨_, upd_same, DenAll.of_ints _⟩)
      cases d <;> first | cases hds | skip
      · obtain ⟨a, xs, rfl, hq, t⟩ := w
        cases ru
        have ex := ints_den hns t
        subst ex
        obtain ⟨its, rv, ⟨o, n, ho, hcl, _, hd⟩, hz⟩ := I.list hq
        exact sorted_seq I (.inl rfl) ho hcl hd rv (by rw [List.length_map] at hz; exact hz) (fin (a := a) t)
      · obtain ⟨a, xs, rfl, hq, t⟩ := w
        cases ru
        have ex := ints_den hns t
        subst ex
        obtain ⟨its, rv, ⟨o, ho, hcl, n, hd⟩, hz⟩ := I.tuple (same_sqT m hq)
        exact sorted_seq I (.inr rfl) ho hcl hd rv (by rw [List.length_map] at hz; exact hz) (fin (a := a) t)
    · obtain ⟨a, xs, rfl, hq, t⟩ := w
      cases ru
      obtain ⟨its, rv, hl, hz⟩ := I.list hq
      obtain ⟨i1, i2⟩ := tups_den I m hts t rv
      have hzl : its.length = xs.length := rv.length.symm
      have hdl : ds.length = xs.length := t.length.symm
      refine SrtO.sorted_ord (NtL.swo_lexL fun v => TS.intsOf s.heap v) hl.isList (by rw [hzl]; exact hz) (fun h2 h₁ a' ha kk => ?_) fun out h1 h2 => ?_
      · have hne' : ∀ t ∈ ts, t ≠ [] := by
          rcases hne with hne | hne
          · exact absurd h2 (by omega)
          · exact hne
        have kp : ∀ b o, s.heap.get? b = some o → o.cls = .type "tuple" → h₁.get? b = some o := fun b o e _ => (kk b o e).2
        have e3 : (fun v u => HT.lexLt (TS.intsOf s.heap v) (TS.intsOf s.heap u)) = fun v u => HT.lexLt (TS.intsOf s.heap v) (TS.intsOf s.heap u) := rfl
        intro h' keep
        have S := tups_sortable (prog := X.prog) (w := X.w) (A := X.A.in1.in1) (s := { s with heap := h₁ }) (a := a') (vs := its) (by omega) (fun v hv => by
          obtain ⟨⟨n, hn, tq⟩, _⟩ := i1 v hv
          exact ⟨n, tq.keeps kp, hne' n hn⟩) (fun o e => by
            have e' : some o = some (seqObj "list" its.toArray 0) := e.symm.trans ha
            cases e'
            intro c
            exact absurd (Value.type.inj c) (by decide)) h' keep
        obtain ⟨κ, S1, S2⟩ := S
        refine ⟨κ, S1, fun p q hm hm' => ?_⟩
        obtain ⟨⟨n1, _, t1⟩, _⟩ := i1 _ hm
        obtain ⟨⟨n2, _, t2⟩, _⟩ := i1 _ hm'
        have e1 : TS.intsOf h₁ p.1 = TS.intsOf s.heap p.1 := (t1.keeps kp).ints.trans t1.ints.symm
        have e2 : TS.intsOf h₁ q.1 = TS.intsOf s.heap q.1 := (t2.keeps kp).ints.trans t2.ints.symm
        have e4 : SrtO.lt2 (fun v u => HT.lexLt (TS.intsOf h₁ v) (TS.intsOf h₁ u)) p q = SrtO.lt2 (fun v u => HT.lexLt (TS.intsOf s.heap v) (TS.intsOf s.heap u)) p q := by
          show HT.lexLt (TS.intsOf h₁ p.1) (TS.intsOf h₁ q.1) = HT.lexLt (TS.intsOf s.heap p.1) (TS.intsOf s.heap q.1)
          rw [e1, e2]
        rw [← e4]
        exact S2 p q hm hm'
      · have hp := h2.perm
        obtain ⟨ep, he'⟩ := PyProof.Rows.sortedAll_at s.heap its out.toArray
        have hio : ∀ v ∈ out, v ∈ its := fun v hv => hp.mem_iff.mp hv
        have hd := denAll_map (K := X.K) (F := F) (f := backV) (g := fun v => PyData.tuple ((TS.intsOf s.heap v).map .int)) (l := out) fun v hv => (i1 v (hio v hv)).2.1
        have hlen2 : (out.map backV).length ≤ sizeLine := by rw [List.length_map, hp.length_eq, hzl]; exact hz
        have hn := I.hok.fresh (Nat.le_succ s.heap.objs.size)
        refine ⟨.ref _, upd H (s.heap.objs.size + 1) (.lst (out.map backV)), I.laid (t' := s.toks) (fun _ _ => PyProof.Rows.sortedAll_old) (Nat.le_succ _) ⟨hlen2, out, ep, vals_back fun v hv => (i1 v (hio v hv)).2.2, he'⟩, rfl, ?_⟩
        refine q (out.map (TS.intsOf s.heap)) (by rw [← i2]; exact hp.map _) (List.pairwise_map.mpr h1) _ _ ?_
        rw [List.map_map]
        exact .own hn ⟨_, upd_same, hd⟩
end
end Co

set_option linter.all false
/-! Co6: names stored, names forgotten, temporary lists. -/
namespace Co
open PySem PySem.Spec PyProof.Rows L2

section
variable {K : Frag} {F F' H H' : Hp} {io : List Nat} {g : Gh} {env : Env} {σ : L2.St}
theorem get_set {σ : L2.St} {i j : Nat} {x : Option V} (h : i < σ.length) : (σ.set i x)[j]? = if i = j then some x else σ[j]? := by
  by_cases e : i = j
  · subst e; rw [List.getElem?_set_self h, if_pos rfl]
  · rw [List.getElem?_set_ne e, if_neg e]
theorem slot_set' {env : Env} {i j : Nat} {s : Option Sl} (h : i < env.length) : slot (env.set i s) j = if i = j then s else slot env j := by
  rw [slot_set]
  by_cases e : i = j
  · rw [if_pos ⟨e, h⟩, if_pos e]
  · rw [if_neg (fun z => e z.1), if_neg e]
theorem Rep.io_of {i : Nat} {d : PyData} (R : Rep K io g env σ F H) (h : slot env i = some (.io d)) : i ∈ io := by
  obtain ⟨p, hp, _⟩ := R.ios i d h
  rw [← R.insI]; exact List.mem_map_of_mem hp
theorem Rep.ins_io (R : Rep K io g env σ F H) {q : Nat × Addr} (h : q ∈ g.ins) : q.1 ∈ io := by
  rw [← R.insI]; exact List.mem_map_of_mem h
/-- a name holds a new value, or nothing -/
theorem Rep.store {i : Nat} {s : Option Sl} {x : Option V} (R : Rep K io g env σ F H) (hi : i < env.length) (hio : i ∉ io)
    (h : match s with
      | none => True
      | some (.val d) => ∃ v, x = some v ∧ Den K F v d
      | some (.own d) => ∃ p, x = some (.ref p) ∧ F p = none ∧ OwnAt K F H p d ∧ g.H0 p = none ∧ (∀ t ∈ g.tmps, t.1 ≠ p) ∧ ∀ j d', j ≠ i → slot env j = some (.own d') → σ[j]? ≠ some (some (.ref p))
      | some (.io _) => False) : Rep K io g (env.set i s) (σ.set i x) F H := by
  have hσ : i < σ.length := by rw [← R.len]; exact hi
  refine ⟨R.sub, R.sub0, R.frame, R.nof, by simpa using R.len, fun j d q => ?_, fun j d q => ?_, fun j k d e p q1 q2 q3 q4 => ?_, fun j d q => ?_, fun q hq => ?_, R.insI, R.insN, R.tmp, R.tmpN⟩
  · rw [slot_set' hi] at q
    rw [get_set hσ]
    by_cases e : i = j
    · rw [if_pos e] at q; subst q
      obtain ⟨v, rfl, dn⟩ := h
      exact ⟨v, by rw [if_pos e], dn⟩
    · rw [if_neg e] at q ⊢
      exact R.vals j d q
  · rw [slot_set' hi] at q
    rw [get_set hσ]
    by_cases e : i = j
    · rw [if_pos e] at q; subst q
      obtain ⟨p, rfl, a, b, c, dd, _⟩ := h
      exact ⟨p, by rw [if_pos e], a, b, c, dd⟩
    · rw [if_neg e] at q ⊢
      exact R.owns j d q
  · rw [slot_set' hi] at q1 q2
    rw [get_set hσ] at q3 q4
    by_cases e1 : i = j
    · by_cases e2 : i = k
      · exact e1.symm.trans e2
      · rw [if_pos e1] at q1 q3; rw [if_neg e2] at q2 q4
        subst q1
        obtain ⟨p', rfl, a, b, c, dd, f⟩ := h
        cases q3
        exact absurd q4 (f k _ (fun z => e2 z.symm) q2)
    · by_cases e2 : i = k
      · rw [if_neg e1] at q1 q3; rw [if_pos e2] at q2 q4
        subst q2
        obtain ⟨p', rfl, a, b, c, dd, f⟩ := h
        cases q4
        exact absurd q3 (f j _ (fun z => e1 z.symm) q1)
      · rw [if_neg e1] at q1 q3; rw [if_neg e2] at q2 q4
        exact R.sep j k _ _ p q1 q2 q3 q4
  · rw [slot_set' hi] at q
    by_cases e : i = j
    · rw [if_pos e] at q; subst q
      exact h.elim
    · rw [if_neg e] at q
      exact R.ios j d q
  · obtain ⟨a, ⟨d, b⟩, c⟩ := R.ins q hq
    have ne : i ≠ q.1 := fun z => hio (z ▸ R.ins_io hq)
    refine ⟨by rw [get_set hσ, if_neg ne]; exact a, ⟨d, ?_⟩, c⟩
    rw [slot_set' hi, if_neg ne]; exact b
theorem Rep.storeVal {i : Nat} {d : PyData} {v : V} (R : Rep K io g env σ F H) (hi : i < env.length) (hio : i ∉ io) (h : Den K F v d) : Rep K io g (env.set i (some (.val d))) (σ.set i (some v)) F H :=
  R.store hi hio ⟨v, rfl, h⟩
/-- what a name is to hold, as the heap has it -/
def SDen (K : Frag) (g : Gh) (F H : Hp) (σ : L2.St) (env : Env) (v : V) (s : Sl) : Prop := RDen K g F H σ env v s.r
theorem Rep.storeSl {i : Nat} {s : Sl} {v : V} (R : Rep K io g env σ F H) (hi : i < env.length) (hio : i ∉ io) (h : SDen K g F H σ env v s) (ni : ∀ d, s ≠ .io d) : Rep K io g (env.set i (some s)) (σ.set i (some v)) F H := by
  cases s with
  | val d => exact R.storeVal hi hio h
  | own d =>
    obtain ⟨p, rfl, a, b, c, e, f⟩ := h
    exact R.store hi hio ⟨p, rfl, a, b, c, e, fun j d' _ q => f j d' q⟩
  | io d => exact absurd rfl (ni d)
/-- asS -/
theorem asS_ok {v : V} {r : R} {P : Sl → Env → Prop} (R : Rep K io g env σ F H) (h : RDen K g F H σ env v r) (e : asS r env P) :
    ∃ s env', Rep K io g env' σ F H ∧ SDen K g F H σ env' v s ∧ (∀ d, s ≠ .io d) ∧ env'.length = env.length ∧ P s env' := by
  cases r with
  | val d => exact ⟨.val d, env, R, h, (fun _ z => nomatch z), rfl, e⟩
  | own d => exact ⟨.own d, env, R, h, (fun _ z => nomatch z), rfl, e⟩
  | pl i =>
    have hs : σ[i]? = some (some v) := h.1
    unfold asS at e
    simp only at e
    cases q : slot env i with
    | none => rw [q] at e; exact e.elim
    | some s =>
      rw [q] at e
      cases s with
      | val d =>
        obtain ⟨v', a, c⟩ := R.vals i _ q
        rw [hs] at a; cases a
        exact ⟨.val d, env, R, c, (fun _ z => nomatch z), rfl, e⟩
      | own d =>
        have hi := slot_lt q
        obtain ⟨p, a, b, c, dd, ee⟩ := R.owns i _ q
        rw [hs] at a; cases a
        have hio : i ∉ io := fun z => by
          rw [← R.insI] at z
          obtain ⟨w, hw, rfl⟩ := List.mem_map.mp z
          obtain ⟨_, ⟨d', hd⟩, _⟩ := R.ins w hw
          rw [q] at hd; cases hd
        refine ⟨.own d, env.set i none, ?_, ⟨p, rfl, b, c, dd, ee, fun j d' hj z => ?_⟩, (fun _ z => nomatch z), by simp, e⟩
        · have := R.store (s := none) (x := σ[i]?.join) hi hio trivial
          have e2 : σ.set i σ[i]?.join = σ := by
            apply List.ext_getElem?
            intro j
            rw [get_set (by rw [← R.len]; exact hi)]
            by_cases ej : i = j
            · subst ej; rw [if_pos rfl, hs]; rfl
            · rw [if_neg ej]
          rw [e2] at this
          exact this
        · rw [slot_set' hi] at hj
          by_cases ej : i = j
          · rw [if_pos ej] at hj; cases hj
          · rw [if_neg ej] at hj
            exact ej (R.sep i j _ _ p q hj hs z)
      | io d => exact e.elim
theorem asVs_ok : ∀ {rs : List R} {vs : List V} {env : Env} {F : Hp} {P : List PyData → Env → Prop}, Rep K io g env σ F H → Paired (StDen K F σ) vs rs → asVs rs env P →
    ∃ ds env' F', Same F F' ∧ Rep K io g env' σ F' H ∧ DenAll K F' vs ds ∧ P ds env'
  | [], vs, env, F, P, R, h, e => by
    cases h
    exact ⟨[], env, F, Same.refl F, R, .nil, e⟩
  | r :: rs, vs, env, F, P, R, h, e => by
    cases h with
    | cons h t =>
      obtain ⟨d, env1, F1, m1, R1, dn, e⟩ := asV_ok R h e
      obtain ⟨ds, env2, F2, m2, R2, dns, e⟩ := asVs_ok R1 (Paired.mapP t fun _ _ z => StDen.mono z m1) e
      exact ⟨d :: ds, env2, F2, m1.trans m2, R2, .cons (dn.mono m2) dns, e⟩

/-! ### a block's own names -/
theorem wipeE_length (env : Env) : ∀ vs : List Nat, (wipeE env vs).length = env.length
  | [] => rfl
  | v :: vs => by unfold wipeE; rw [List.length_set, wipeE_length env vs]
theorem slot_wipe {env : Env} {j : Nat} : ∀ vs : List Nat, slot (wipeE env vs) j = if j ∈ vs then none else slot env j
  | [] => by simp [wipeE]
  | v :: vs => by
    unfold wipeE
    rw [slot_set, slot_wipe vs, wipeE_length]
    by_cases e : v = j
    · subst e
      by_cases l : v < env.length
      · simp [l]
      · have : slot env v = none := by
          unfold slot; rw [List.getElem?_eq_none (by omega)]; rfl
        simp [l, this]
    · simp only [e, false_and, if_false, List.mem_cons, show (j = v) = False from eq_false fun z => e z.symm, false_or]
theorem Rep.wipe (R : Rep K io g env σ F H) {vs : List Nat} (hio : ∀ i ∈ vs, i ∉ io) : Rep K io g (wipeE env vs) (L2.wipe σ vs) F H := by
  have out : ∀ {i : Nat} {s : Sl}, slot (wipeE env vs) i = some s → slot env i = some s ∧ i ∉ vs := fun {i s} q => by
    rw [slot_wipe] at q
    by_cases e : i ∈ vs
    · rw [if_pos e] at q; cases q
    · rw [if_neg e] at q; exact ⟨q, e⟩
  refine ⟨R.sub, R.sub0, R.frame, R.nof, by rw [wipeE_length, wipe_length]; exact R.len, fun j d q => ?_, fun j d q => ?_, fun j k d e p q1 q2 q3 q4 => ?_, fun j d q => R.ios j d (out q).1, fun q hq => ?_, R.insI, R.insN, R.tmp, R.tmpN⟩
  · rw [wipe_out (out q).2]; exact R.vals j d (out q).1
  · rw [wipe_out (out q).2]; exact R.owns j d (out q).1
  · rw [wipe_out (out q1).2] at q3; rw [wipe_out (out q2).2] at q4
    exact R.sep j k d e p (out q1).1 (out q2).1 q3 q4
  · obtain ⟨a, ⟨d, b⟩, c⟩ := R.ins q hq
    have ne : q.1 ∉ vs := fun z => hio _ z (R.ins_io hq)
    exact ⟨by rw [wipe_out ne]; exact a, ⟨d, by rw [slot_wipe, if_neg ne]; exact b⟩, c⟩
theorem unwipe_length (env0 env1 : Env) : ∀ vs : List Nat, (unwipe env0 env1 vs).length = env1.length
  | [] => rfl
  | v :: vs => by unfold unwipe; rw [List.length_set, unwipe_length env0 env1 vs]
theorem slot_unwipe {env0 env1 : Env} {j : Nat} {s : Sl} : ∀ {vs : List Nat}, slot (unwipe env0 env1 vs) j = some s → (j ∈ vs ∧ slot env0 j = some s ∧ ∃ d, s = .val d) ∨ (j ∉ vs ∧ slot env1 j = some s)
  | [], h => .inr ⟨by simp, h⟩
  | v :: vs, h => by
    unfold unwipe at h
    rw [slot_set] at h
    by_cases e : v = j ∧ v < (unwipe env0 env1 vs).length
    · rw [if_pos e] at h
      obtain ⟨rfl, _⟩ := e
      cases q : slot env0 v with
      | none => rw [q] at h; cases h
      | some z =>
        rw [q] at h
        cases z <;> cases h
        exact .inl ⟨by simp, rfl, _, rfl⟩
    · rw [if_neg e] at h
      rcases slot_unwipe h with ⟨a, b, c⟩ | ⟨a, b⟩
      · exact .inl ⟨List.mem_cons_of_mem _ a, b, c⟩
      · by_cases ej : v = j
        · subst ej
          have hl : ¬ v < (unwipe env0 env1 vs).length := fun z => e ⟨rfl, z⟩
          rw [unwipe_length] at hl
          exact absurd (slot_lt b) hl
        · refine .inr ⟨?_, b⟩
          simp only [List.mem_cons, not_or]
          exact ⟨fun z => ej z.symm, a⟩
theorem slot_unwipe_out {env0 env1 : Env} {j : Nat} : ∀ {vs : List Nat}, j ∉ vs → slot (unwipe env0 env1 vs) j = slot env1 j
  | [], h => rfl
  | v :: vs, h => by
    simp only [List.mem_cons, not_or] at h
    unfold unwipe
    rw [slot_set, if_neg (fun z => h.1 z.1.symm)]
    exact slot_unwipe_out h.2
theorem Rep.unwipe {env1 : Env} {vs : List Nat} (R0 : Rep K io g env σ F H) (hio : ∀ i ∈ vs, i ∉ io) (m : Same F F') (R : Rep K io g env1 (L2.wipe σ vs) F' H') : Rep K io g (unwipe env env1 vs) σ F' H' := by
  refine ⟨R.sub, R.sub0, R.frame, R.nof, ?_, fun j d q => ?_, fun j d q => ?_, fun j k d e p q1 q2 q3 q4 => ?_, fun j d q => ?_, fun q hq => ?_, R.insI, R.insN, R.tmp, R.tmpN⟩
  · rw [unwipe_length, R.len, wipe_length]
  · rcases slot_unwipe q with ⟨a, b, c⟩ | ⟨a, b⟩
    · obtain ⟨v, x, y⟩ := R0.vals j d b; exact ⟨v, x, y.mono m⟩
    · obtain ⟨v, x, y⟩ := R.vals j d b
      rw [wipe_out a] at x; exact ⟨v, x, y⟩
  · rcases slot_unwipe q with ⟨a, b, _, c⟩ | ⟨a, b⟩
    · cases c
    · obtain ⟨v, x, y⟩ := R.owns j d b
      rw [wipe_out a] at x; exact ⟨v, x, y⟩
  · rcases slot_unwipe q1 with ⟨a, b, _, c⟩ | ⟨a, b⟩
    · cases c
    · rcases slot_unwipe q2 with ⟨a2, b2, _, c2⟩ | ⟨a2, b2⟩
      · cases c2
      · exact R.sep j k d e p b b2 (by rw [wipe_out a]; exact q3) (by rw [wipe_out a2]; exact q4)
  · rcases slot_unwipe q with ⟨a, b, _, c⟩ | ⟨a, b⟩
    · cases c
    · exact R.ios j d b
  · have ne : q.1 ∉ vs := fun z => hio _ z (R0.ins_io hq)
    obtain ⟨a, ⟨d, b⟩, c⟩ := R.ins q hq
    exact ⟨by rw [wipe_out ne] at a; exact a, ⟨d, by rw [slot_unwipe_out ne]; exact b⟩, c⟩

/-! ### temporary lists -/
def Gh.tmp (g : Gh) (p : Addr) (d : PyData) : Gh := { g with tmps := (p, d) :: g.tmps }
theorem Rep.push {p : Addr} {d : PyData} (R : Rep K io g env σ F H) (h : RDen K g F H σ env (.ref p) (.own d)) : Rep K io (g.tmp p d) env σ F H := by
  obtain ⟨p', e, n, o, z, t, s⟩ := h
  cases e
  refine ⟨R.sub, R.sub0, R.frame, R.nof, R.len, R.vals, fun i d' q => ?_, R.sep, R.ios, R.ins, R.insI, R.insN, fun t' ht => ?_, ?_⟩
  · obtain ⟨p', a, b, c, e, f⟩ := R.owns i d' q
    refine ⟨p', a, b, c, e, fun t' ht => ?_⟩
    rcases List.mem_cons.mp ht with rfl | ht
    · exact fun z => s i d' q (by rw [show p = p' from z]; exact a)
    · exact f t' ht
  · rcases List.mem_cons.mp ht with rfl | ht
    · exact ⟨n, o, z⟩
    · exact R.tmp t' ht
  · show ((p, d) :: g.tmps).map (·.1) |>.Nodup
    rw [List.map_cons, List.nodup_cons]
    exact ⟨fun z => by
      obtain ⟨w, hw, e⟩ := List.mem_map.mp z
      exact t w hw e, R.tmpN⟩
theorem Rep.pop {p : Addr} {d : PyData} (R : Rep K io (g.tmp p d) env σ F H) : Rep K io g env σ F H ∧ RDen K g F H σ env (.ref p) (.own d) := by
  have hn : ((p, d) :: g.tmps).map (·.1) |>.Nodup := R.tmpN
  rw [List.map_cons, List.nodup_cons] at hn
  obtain ⟨a, b, c⟩ := R.tmp (p, d) List.mem_cons_self
  refine ⟨⟨R.sub, R.sub0, R.frame, R.nof, R.len, R.vals, fun i d' q => ?_, R.sep, R.ios, R.ins, R.insI, R.insN, fun t ht => R.tmp t (List.mem_cons_of_mem _ ht), hn.2⟩, p, rfl, a, b, c, fun t ht z => hn.1 (List.mem_map.mpr ⟨t, ht, z⟩), fun i d' q z => ?_⟩
  · obtain ⟨p', a, b, c, e, f⟩ := R.owns i d' q
    exact ⟨p', a, b, c, e, fun t ht => f t (List.mem_cons_of_mem _ ht)⟩
  · obtain ⟨p', a, b, c, e, f⟩ := R.owns i d' q
    rw [z] at a; cases a
    exact f _ List.mem_cons_self rfl
/-- a list or dict of one's own has changed -/
theorem Rep.change {p : Addr} {o : HO} (R : Rep K io g env σ F H) (hF : F p = none) (h0 : g.H0 p = none ∨ ∃ q ∈ g.ins, q.2 = p) {env' : Env} (hl : env'.length = env.length)
    (hv : ∀ i d, slot env' i = some (.val d) → slot env i = some (.val d))
    (ho : ∀ i d, slot env' i = some (.own d) → (slot env i = some (.own d) ∧ σ[i]? ≠ some (some (.ref p))) ∨ ((∃ d', slot env i = some (.own d')) ∧ σ[i]? = some (some (.ref p)) ∧ OwnAt K F (upd H p o) p d))
    (hi : ∀ i d, slot env' i = some (.io d) → (slot env i = some (.io d) ∧ (i, p) ∉ g.ins) ∨ ((i, p) ∈ g.ins ∧ OwnAt K F (upd H p o) p d))
    (hk : ∀ i, i ∈ io → ∃ d, slot env' i = some (.io d)) (ht : ∀ t ∈ g.tmps, t.1 ≠ p) : Rep K io g env' σ F (upd H p o) := by
  have keep : ∀ {b : Addr} {d : PyData}, b ≠ p → OwnAt K F H b d → OwnAt K F (upd H p o) b d := fun {b d} n x => x.mono (Same.refl F) (upd_ne n)
  refine ⟨fun b x q => ?_, R.sub0, fun b x q i => ?_, R.nof, hl.trans R.len, fun i d q => R.vals i d (hv i d q), fun i d q => ?_, fun j k d e p' q1 q2 q3 q4 => ?_, fun i d q => ?_, fun q hq => ?_, R.insI, R.insN, fun t h => ?_, R.tmpN⟩
  · rw [upd_ne (ne_of_none q hF)]; exact R.sub _ _ q
  · have n : b ≠ p := fun z => by
      rcases h0 with h0 | ⟨w, hw, e⟩
      · rw [z, h0] at q; cases q
      · exact i w hw (e.trans z.symm)
    rw [upd_ne n]; exact R.frame b x q i
  · rcases ho i d q with ⟨a, b⟩ | ⟨⟨d', a⟩, b, c⟩
    · obtain ⟨p', x, y, z, w, u⟩ := R.owns i d a
      exact ⟨p', x, y, keep (fun e => b (e ▸ x)) z, w, u⟩
    · obtain ⟨p', x, y, z, w, u⟩ := R.owns i d' a
      rw [b] at x; cases x
      exact ⟨p, b, y, c, w, u⟩
  · have r1 : ∃ d, slot env j = some (.own d) := (ho j d q1).elim (fun z => ⟨_, z.1⟩) fun z => z.1
    have r2 : ∃ d, slot env k = some (.own d) := (ho k e q2).elim (fun z => ⟨_, z.1⟩) fun z => z.1
    obtain ⟨_, r1⟩ := r1
    obtain ⟨_, r2⟩ := r2
    exact R.sep j k _ _ p' r1 r2 q3 q4
  · rcases hi i d q with ⟨a, b⟩ | ⟨a, b⟩
    · obtain ⟨p', x, y, z⟩ := R.ios i d a
      exact ⟨p', x, y, keep (fun e => b (e ▸ x)) z⟩
    · exact ⟨p, a, hF, b⟩
  · obtain ⟨a, b, c⟩ := R.ins q hq
    exact ⟨a, hk _ (R.ins_io hq), c⟩
  · obtain ⟨a, b, c⟩ := R.tmp t h
    exact ⟨a, keep (ht t h) b, c⟩
end
end Co

set_option linter.all false
/-! Co7: defs called. -/
namespace Co
open PySem PySem.Spec PyProof.Rows L2

/-- a def keeps its promise wherever no guard stands around -/
structure FnG (P : Program) (w : World) (K : Frag) (mg : Str → Option Value) (base : Heap) (k : Nat) (f : Addr) (fd : FuncData) (ps : List Str) (sp : Sp) : Prop where
  len : ∀ vs H Q E, sp vs H Q E → vs.length = ps.length
  run : ∀ (A : Around) (outer : List PySem.Env) (s : Shared) (H : Hp) (args : Args) (us : List Value) (vs : List V) (Q : VK), Room k A → A.guards = some [] → Env0 P w K mg base A outer s H → BindsTo s fd args (ps.zip us) → Vals vs us → sp vs H Q E0 →
    codeAny (model P w) A (.call (.ref f) args) (CR CX0 outer P w H s Q E0) s
theorem FnG.mono {P : Program} {w : World} {K : Frag} {mg : Str → Option Value} {base : Heap} {j k : Nat} {f : Addr} {fd : FuncData} {ps : List Str} {sp : Sp} (G : FnG P w K mg base j f fd ps sp) (h : j ≤ k) : FnG P w K mg base k f fd ps sp :=
  ⟨G.len, fun A outer s H args us vs Q hr => G.run A outer s H args us vs Q (hr.mono h)⟩
theorem FnG.imp {P : Program} {w : World} {K : Frag} {mg : Str → Option Value} {base : Heap} {k : Nat} {f : Addr} {fd : FuncData} {ps : List Str} {sp sp' : Sp} (G : FnG P w K mg base k f fd ps sp) (h : ∀ vs H Q E, sp' vs H Q E → sp vs H Q E) : FnG P w K mg base k f fd ps sp' :=
  ⟨fun vs H Q E q => G.len vs H Q E (h _ _ _ _ q), fun A outer s H args us vs Q hr hg he hb hv hs => G.run A outer s H args us vs Q hr hg he hb hv (h _ _ _ _ hs)⟩

section
variable {X : Cx} {k : Nat} {f : Addr} {fd : FuncData} {ps : List Str} {sp : Sp} {x : Str} {p pos : Pos} {e : Expr} {es : List Expr} {t : TA}
theorem run_g {pins : List (Addr × Obj)} {σ : L2.St} {H : Hp} {s : Shared} {Q : VK} {us : List Value} {vs : List V} (G : FnG X.prog X.w X.K X.mg X.base k f fd ps sp) (hr : Room k X.A) (hg : X.A.guards = some []) (hb : Binds X.K fd ps [])
    (I : Inv X pins σ H s) (r : Vals vs us) (h : sp vs H Q E0) : wpAny (model X.prog X.w) X.A (call (.ref f) us) (EP X pins σ Q) X.xe s := by
  have hl : us.length = ps.length := r.length.symm.trans (G.len _ _ _ _ h)
  have hbb := hb s us I.kIn (by simpa using hl)
  rw [List.append_nil] at hbb
  refine wpAny_call (codeAny_mono (G.run X.A X.stack s H ⟨us, []⟩ us vs Q hr hg I.env0 hbb r h) fun res s' hq => ?_)
  match res, hq with
  | .error _, hq => exact False.elim hq
  | .ok (.ret _), hq => exact I.after hq
  | .ok .next, hq => exact False.elim hq
  | .ok .brk, hq => exact False.elim hq
  | .ok .cont, hq => exact False.elim hq
def tCallG (sp : Sp) (t : TA) : TE := fun σ H Q => t σ H fun vs H1 => sp vs H1 Q E0
theorem pe_callG (G : FnG X.prog X.w X.K X.mg X.base k f fd ps sp) (hr : Room k X.A) (hgd : X.A.guards = some []) (hg : Gl X x) (hm : X.mg x = some (.ref f)) (hk : PySem.W.keepIn X.K (.ref f) = true) (hb : Binds X.K fd ps [])
    (ha : PA X (e :: es) t) (hdb : (x == ("__debug__" : Str)) = false) (he : starEach (e :: es) X.env = (false, eval e X.env) :: starEach es X.env) (hpl : (backTo pos (starEach es X.env)).any (·.1) = false) :
    PE X (.Call (.Name x p) (e :: es) [] pos) (tCallG sp t) := ⟨fun pins s σ H Q I h =>
  wpAny_Call_Name_kw (ld_glob I hg hm (PySem.W.callWith_K (h₀ := X.base) I.ok.mod.kin hk (thn (ha.run pos pins s σ H _ I h) fun us s1 ⟨vs, H1, I1, r, q⟩ => ⟨I1.kIn, run_g G hr hgd hb I1 r q⟩) he hpl) hdb)⟩
end

/-- a def of the text, from its body -/
theorem fn_g {P : Program} {w : World} {K : Frag} {mg : Str → Option Value} {base : Heap} {k : Nat} {f : Addr} {x qual : Str} {st : Stmt} {fd : FuncData} {N ps : List Str} {sp : Sp} (D : Fun K x qual st f fd) (S : FnScope N ps (defScope st)) (len : ∀ vs H Q E, sp vs H Q E → vs.length = ps.length)
    (hbody : ∀ (cdv : Value) (A : Around) (outer : List PySem.Env) (s : Shared) (H : Hp) (vs : List V) (Q : VK), Room k (A.deeper (envOfC qual (defScope st) s.heap.objs.size f cdv)) → A.guards = some [] → sp vs H Q E0 →
      ∃ t, PSs (cxOf CX0 P w K mg base N qual (defScope st) f cdv A outer s H E0).nox (defBody st) t ∧ t { nx := fun _ H' => Q .non H', rt := Q } (start N vs) H) : FnG P w K mg base (k + 1) f fd ps sp := by
  obtain ⟨oc, od, kV, doc, pm, an, cdv, ct, osl, rfl, lk, hcd⟩ := D.ex
  refine ⟨len, fun A outer s H args us vs Q hr hg e0 hb r hsp => ?_⟩
  have KX : K.In s.heap := e0.mod.kin.keeps fun b o e => (e0.bs b o e).1
  have lim : s.heap.NoLimit := e0.mod.nolimit.keeps fun b o e => (e0.bs b o e).1
  have kinds : ∀ y ∈ ps.zip us, (defScope st).names.lookup y.1 = some .local ∨ ((defScope st).names.lookup y.1 = some .cell ∧ ((cellsFrom (s.heap.objs.size + 1) (defScope st).names []).lookup y.1).isSome = true) := fun y hy => by
    obtain ⟨n, v⟩ := y
    exact (S.par n (List.of_mem_zip hy).1).imp id fun q => ⟨q, PySem.W.cellsFrom_some _ _ _ (.inl q)⟩
  refine codeAny_call_function hr.depth (KX _ _ lk) rfl S.co S.gen rfl (PySem.W.codeRec_of KX hcd) (hb _ _ _ _ (wpAny_newFunctionEnv_cells S.kind kinds fun env he s1 x => ?_))
  subst he
  obtain ⟨t, ht, hq⟩ := hbody cdv A outer s H vs Q (hr.deeper _) hg hsp
  have I := inv_start (CX := CX0) (E := E0) S hr.hd e0 (len _ _ _ _ hsp) r x
  refine ⟨lim.keeps x.toInCall.keep, codeAny_func (wpAny_mono (ht.nox.run [] s1 (start N vs) H _ I hq) (fun fl s' hs => ?_) fun e s' hs => hs)⟩
  match fl, hs with
  | .ret u, ⟨v, σ', H', J, rv, q⟩ => exact ⟨v, H', J.os, J.bare, J.base, J.hok, rv, q⟩
  | .next, ⟨σ', H', J, q⟩ => exact ⟨.non, H', J.os, J.bare, J.base, J.hok, rfl, q⟩
  | .brk, ⟨_, _, _, q⟩ => exact False.elim q
  | .cont, ⟨_, _, _, q⟩ => exact False.elim q

/-! ### the promise that a spec makes -/
def argsD (K : Frag) (F H : Hp) : List Bool → List V → List PyData → Prop
  | [], [], [] => True
  | true :: sg, v :: vs, d :: ds => (∃ p, v = .ref p ∧ F p = none ∧ OwnAt K F H p d) ∧ argsD K F H sg vs ds
  | false :: sg, v :: vs, d :: ds => Den K F v d ∧ argsD K F H sg vs ds
  | _, _, _ => False
def inAddr : List Bool → List V → List Addr
  | true :: sg, .ref p :: vs => p :: inAddr sg vs
  | _ :: sg, _ :: vs => inAddr sg vs
  | _, _ => []
def newsD (K : Frag) (F H : Hp) : List Addr → List PyData → Prop
  | [], [] => True
  | p :: ps, d :: ds => (F p = none ∧ OwnAt K F H p d) ∧ newsD K F H ps ds
  | _, _ => False
def resD (K : Frag) (F H0 H : Hp) (v : V) : Sl → Prop
  | .val d => Den K F v d
  | .own d => ∃ p, v = .ref p ∧ F p = none ∧ OwnAt K F H p d ∧ H0 p = none
  | .io _ => False
def spOf (K : Frag) (sig : List Bool) (S : Spec) : Sp := fun vs H Q _ => vs.length = sig.length ∧ ∃ F ds, Same F H ∧ argsD K F H sig vs ds ∧ (inAddr sig vs).Nodup ∧ ∃ Qs, S ds Qs ∧ ∀ res news, Qs res news → ∀ v H' F', Same F F' → Same F' H' →
  (∀ b o, H b = some o → b ∉ inAddr sig vs → H' b = some o) → (∀ b o, H b = some o → F b = none → F' b = none) → newsD K F' H' (inAddr sig vs) news → resD K F' H H' v res → Q v H'
theorem newsD.length {K : Frag} {F H : Hp} : ∀ {ps : List Addr} {ds : List PyData}, newsD K F H ps ds → ps.length = ds.length
  | [], [], _ => rfl
  | p :: ps, d :: ds, h => by simp [newsD.length h.2]

/-! ### a call, from the caller's side -/
section
variable {K : Frag} {F F' H H' : Hp} {io : List Nat} {g : Gh} {env : Env} {σ : L2.St}
theorem slC_some {s : Option Sl} {d : PyData} (h : slC s = some d) : s = some (.own d) ∨ s = some (.io d) := by
  unfold slC at h
  split at h <;> cases h
  · exact .inl rfl
  · exact .inr rfl
/-- an own or lent list of a name -/
theorem Rep.mine (R : Rep K io g env σ F H) {i : Nat} {d : PyData} (h : slC (slot env i) = some d) : ∃ p, σ[i]? = some (some (.ref p)) ∧ F p = none ∧ OwnAt K F H p d ∧ (∀ t ∈ g.tmps, t.1 ≠ p) ∧ (g.H0 p = none ∨ ∃ q ∈ g.ins, q.2 = p) := by
  rcases slC_some h with h | h
  · obtain ⟨p, a, b, c, dd, e⟩ := R.owns i d h
    exact ⟨p, a, b, c, e, .inl dd⟩
  · obtain ⟨p, a, b, c⟩ := R.ios i d h
    refine ⟨p, (R.ins _ a).1, b, c, fun t ht z => ?_, .inr ⟨_, a, rfl⟩⟩
    obtain ⟨_, _, z2⟩ := R.tmp t ht
    obtain ⟨_, _, o, ho⟩ := R.ins _ a
    rw [z] at z2
    rw [show g.H0 p = some o from ho] at z2; cases z2
theorem Rep.apart (R : Rep K io g env σ F H) {i j : Nat} {d e : PyData} {p : Addr} (h1 : slC (slot env i) = some d) (h2 : slC (slot env j) = some e) (h3 : σ[i]? = some (some (.ref p))) (h4 : σ[j]? = some (some (.ref p))) : i = j := by
  rcases slC_some h1 with h1 | h1 <;> rcases slC_some h2 with h2 | h2
  · exact R.sep i j _ _ p h1 h2 h3 h4
  · obtain ⟨q, a, _⟩ := R.ios j e h2
    obtain ⟨b, _, o, ho⟩ := R.ins _ a
    rw [h4] at b; cases b
    obtain ⟨p', x, _, _, z, _⟩ := R.owns i d h1
    rw [h3] at x; cases x
    rw [show g.H0 _ = some o from ho] at z; cases z
  · obtain ⟨q, a, _⟩ := R.ios i d h1
    obtain ⟨b, _, o, ho⟩ := R.ins _ a
    rw [h3] at b; cases b
    obtain ⟨p', x, _, _, z, _⟩ := R.owns j e h2
    rw [h4] at x; cases x
    rw [show g.H0 _ = some o from ho] at z; cases z
  · obtain ⟨q1, a1, _⟩ := R.ios i d h1
    obtain ⟨q2, a2, _⟩ := R.ios j e h2
    have b1 := (R.ins _ a1).1
    have b2 := (R.ins _ a2).1
    have eq1 : q1 = p := by injection Option.some.inj (Option.some.inj (b1.symm.trans h3))
    have eq2 : q2 = p := by injection Option.some.inj (Option.some.inj (b2.symm.trans h4))
    -- two entries with one address are one
    obtain ⟨m, hm, e1⟩ := List.getElem_of_mem a1
    obtain ⟨n, hn, e2⟩ := List.getElem_of_mem a2
    have f1 : (g.ins.map (·.2))[m]? = some p := by rw [List.getElem?_map, List.getElem?_eq_getElem hm, e1, ← eq1]; rfl
    have f2 : (g.ins.map (·.2))[n]? = some p := by rw [List.getElem?_map, List.getElem?_eq_getElem hn, e2, ← eq2]; rfl
    have : m = n := (List.getElem?_inj (by simpa using hm) R.insN).mp (f1.trans f2.symm)
    subst this
    rw [e1] at e2
    exact congrArg Prod.fst e2
mutual
theorem Den.noRef {L : Addr → Prop} [DecidablePred L] (hL : ∀ b, L b → ∃ o, F b = some o ∧ Mut (some o)) : ∀ {v : V} {d : PyData}, Den K F v d → noRef d = true → Den K (fun b => if L b then none else F b) v d
  | _, _, .non, _ => .non
  | _, _, .bl b, _ => .bl b
  | _, _, .int i, _ => .int i
  | _, _, .str x, _ => .str x
  | _, _, .lst h t, q => by simp [Co.noRef] at q
  | _, _, .tup (a := a) h t, q => by
    refine .tup ?_ (DenAll.noRef hL t (by simpa [Co.noRef] using q))
    rcases h with (h | ⟨o, h⟩) | h
    · refine .inl (.inl ?_)
      show (if L a then none else F a) = _
      rw [if_neg]
      · exact h
      · intro z
        obtain ⟨o, e, m⟩ := hL a z
        rw [h] at e; cases e; exact m
    · refine .inl (.inr ⟨o, ?_⟩)
      show (if L a then none else F a) = _
      rw [if_neg]
      · exact h
      · intro z
        obtain ⟨o, e, m⟩ := hL a z
        rw [h] at e; cases e; exact m
    · exact .inr h
  | _, _, .dct h t e, q => by simp [Co.noRef] at q
theorem DenAll.noRef {L : Addr → Prop} [DecidablePred L] (hL : ∀ b, L b → ∃ o, F b = some o ∧ Mut (some o)) : ∀ {v : List V} {d : List PyData}, DenAll K F v d → noRefs d = true → DenAll K (fun b => if L b then none else F b) v d
  | _, _, .nil, _ => .nil
  | _, _, .cons h t, q => by
    simp only [noRefs, Bool.and_eq_true] at q
    exact .cons (Den.noRef hL h q.1) (DenAll.noRef hL t q.2)
end
theorem OwnAt.noRef {L : Addr → Prop} [DecidablePred L] (hL : ∀ b, L b → ∃ o, F b = some o ∧ Mut (some o)) {p : Addr} {d : PyData} (h : OwnAt K F H p d) (q : noRefR (.own d) = true) : OwnAt K (fun b => if L b then none else F b) H p d := by
  cases d <;> first | exact h.elim | skip
  · obtain ⟨vs, a, b⟩ := h
    exact ⟨vs, a, b.noRef hL q⟩
  · obtain ⟨kv, ds, a, b, rfl⟩ := h
    refine ⟨kv, ds, a, b.noRef hL ?_, rfl⟩
    have q' : ((dctOf kv ds).all fun p => Co.noRef p.1 && Co.noRef p.2) = true := q
    have hl := b.length
    rw [List.length_map] at hl
    clear a b q
    induction kv generalizing ds with
    | nil =>
      cases ds with
      | nil => rfl
      | cons a b => cases hl
    | cons x kv ih =>
      cases ds with
      | nil => cases hl
      | cons d ds =>
        simp only [dctOf, List.map_cons, List.zip_cons_cons, List.all_cons, Bool.and_eq_true] at q'
        simp only [noRefs, Bool.and_eq_true]
        exact ⟨q'.1.2, ih ds q'.2 (by simpa using hl)⟩
end

section
variable {K : Frag} {F H : Hp} {io : List Nat} {g : Gh} {env : Env} {σ : L2.St}
open Classical in
/-- F, with the lists of some names shared for the time of a call -/
noncomputable def lend (F H : Hp) (L : Addr → Prop) : Hp := fun b => if L b then H b else F b
/-- the addresses of the lists that are lent -/
def lentAt (env : Env) (σ : L2.St) (is : List Nat) : Addr → Prop := fun b => ∃ i ∈ is, (slC (slot env i)).isSome = true ∧ σ[i]? = some (some (.ref b))
theorem peeks_cons {r : R} {rs : List R} {ds : List PyData} (h : peeks (r :: rs) env = some ds) : ∃ d ds', peek r env = some d ∧ peeks rs env = some ds' ∧ ds = d :: ds' := by
  unfold peeks at h
  split at h
  · cases h
    exact ⟨_, _, by assumption, by assumption, rfl⟩
  · cases h
theorem same_lend {L : Addr → Prop} (n : ∀ b, L b → F b = none) : Same F (lend F H L) := fun b o e => by
  unfold lend
  rw [if_neg]
  · exact e
  · intro z; rw [n b z] at e; cases e
theorem lend_same {L : Addr → Prop} (m : Same F H) : Same (lend F H L) H := fun b o e => by
  unfold lend at e
  split at e
  · exact e
  · exact m _ _ e
/-- the arguments of a call -/
theorem args_ok (Rp : Rep K io g env σ F H) (L : Addr → Prop) (hL : ∀ b, L b → F b = none) : ∀ {sig : List Bool} {rs : List R} {vs : List V} {ds : List PyData}, Paired (StDen K F σ) vs rs → peeks rs env = some ds → sigOk sig rs = true →
    (∀ r ∈ rs, r.still = r) → (inouts sig rs).all (isOwn env) = true → (∀ i ∈ lents sig rs, ∀ b, (slC (slot env i)).isSome = true → σ[i]? = some (some (.ref b)) → L b) → (∀ i ∈ inouts sig rs, ∀ b, σ[i]? = some (some (.ref b)) → ¬ L b) →
    argsD K (lend F H L) H sig vs ds ∧ vs.length = sig.length ∧ Paired (fun p i => σ[i]? = some (some (.ref p))) (inAddr sig vs) (inouts sig rs)
  | sig, [], vs, ds, h, e, so, hs, ho, hl, hi => by
    cases h
    cases e
    cases sig with
    | nil => exact ⟨trivial, rfl, .nil⟩
    | cons b sig => cases b <;> cases so
  | sig, r :: rs, vs, ds, h, e, so, hs, ho, hl, hi => by
    cases h with
    | @cons v _ vs _ h t =>
      obtain ⟨d, ds', e1, e2, rfl⟩ := peeks_cons e
      cases sig with
      | nil => cases r <;> cases so
      | cons b sig =>
        cases b with
        | false =>
          have so' : sigOk sig rs = true := by cases r <;> exact so
          have io' : inouts (false :: sig) (r :: rs) = inouts sig rs := by cases r <;> rfl
          have lo' : ∀ i ∈ lents sig rs, i ∈ lents (false :: sig) (r :: rs) := fun i hm => by
            cases r
            · exact hm
            · exact hm
            · exact List.mem_cons_of_mem _ hm
          rw [io'] at ho hi
          obtain ⟨i1, i2, i3⟩ := args_ok Rp L hL t e2 so' (fun r hr => hs r (List.mem_cons_of_mem _ hr)) ho (fun i hi => hl i (lo' i hi)) hi
          refine ⟨⟨?_, i1⟩, by simp [i2], ?_⟩
          · cases r with
            | val d' => cases e1; exact h.mono (same_lend hL)
            | own d' => exact absurd (hs (.own d') List.mem_cons_self) (by intro z; cases z)
            | pl i =>
              have hsig : σ[i]? = some (some v) := h
              unfold peek at e1
              simp only at e1
              cases q : slot env i with
              | none => rw [q] at e1; cases e1
              | some sl =>
                rw [q] at e1
                cases sl with
                | val d' =>
                  cases e1
                  obtain ⟨v', a, c⟩ := Rp.vals i _ q
                  rw [hsig] at a; cases a
                  exact c.mono (same_lend hL)
                | own d' =>
                  cases e1
                  obtain ⟨p, a, b, c, _⟩ := Rp.mine (i := i) (by rw [q]; rfl)
                  rw [hsig] at a; cases a
                  have lp : L p := hl i List.mem_cons_self p (by rw [q]; rfl) hsig
                  obtain ⟨o, ho', _⟩ := c.there
                  refine Den.mono ?_ (c.share ho' b)
                  intro x y z
                  unfold lend
                  by_cases ex : x = p
                  · subst ex; rw [upd_same] at z; rw [if_pos lp, ho']; exact z
                  · rw [upd_ne ex] at z
                    rw [if_neg]
                    · exact z
                    · intro w; rw [hL _ w] at z; cases z
                | io d' =>
                  cases e1
                  obtain ⟨p, a, b, c, _⟩ := Rp.mine (i := i) (by rw [q]; rfl)
                  rw [hsig] at a; cases a
                  have lp : L p := hl i List.mem_cons_self p (by rw [q]; rfl) hsig
                  obtain ⟨o, ho', _⟩ := c.there
                  refine Den.mono ?_ (c.share ho' b)
                  intro x y z
                  unfold lend
                  by_cases ex : x = p
                  · subst ex; rw [upd_same] at z; rw [if_pos lp, ho']; exact z
                  · rw [upd_ne ex] at z
                    rw [if_neg]
                    · exact z
                    · intro w; rw [hL _ w] at z; cases z
          · have : inAddr (false :: sig) (v :: vs) = inAddr sig vs := by cases v <;> rfl
            rw [this, io']; exact i3
        | true =>
          cases r with
          | val d' => cases so
          | own d' => cases so
          | pl i =>
            have hsig : σ[i]? = some (some v) := h
            have ho' : isOwn env i = true ∧ (inouts sig rs).all (isOwn env) = true := by
              have : (i :: inouts sig rs).all (isOwn env) = true := ho
              rw [List.all_cons, Bool.and_eq_true] at this
              exact this
            obtain ⟨i1, i2, i3⟩ := args_ok Rp L hL t e2 so (fun r hr => hs r (List.mem_cons_of_mem _ hr)) ho'.2 (fun i hi => hl i hi) (fun i hj => hi i (List.mem_cons_of_mem _ hj))
            obtain ⟨dd, hd⟩ := Option.isSome_iff_exists.mp ho'.1
            obtain ⟨p, a, b, c, _⟩ := Rp.mine hd
            rw [hsig] at a; cases a
            have ed : dd = d := by
              rcases slC_some hd with q | q <;> (unfold peek at e1; simp only [q] at e1; cases e1; rfl)
            subst ed
            have nl : ¬ L p := hi i List.mem_cons_self p hsig
            refine ⟨⟨⟨p, rfl, ?_, c.mono (same_lend hL) rfl⟩, i1⟩, by simp [i2], .cons hsig i3⟩
            unfold lend; rw [if_neg nl]; exact b
end
end Co

set_option linter.all false
/-! Co8: behind a call. -/
namespace Co
open PySem PySem.Spec PyProof.Rows L2
section
variable {K : Frag} {F H : Hp} {io : List Nat} {g : Gh} {env : Env} {σ : L2.St}

theorem slot_freeze {j : Nat} : ∀ (is : List Nat) (env : Env), slot (freeze env is) j = if j ∈ is then (match slot env j with | some (.own d) => some (.val d) | s => s) else slot env j
  | [], env => by simp [freeze]
  | i :: is, env => by
    unfold freeze
    cases q : slot env i with
    | none =>
      simp only
      rw [slot_freeze is env]
      by_cases e : j = i
      · subst e; simp [q]
      · simp [e]
    | some s =>
      cases s with
      | own d =>
        simp only
        rw [slot_freeze is, slot_set' (slot_lt q)]
        by_cases e : i = j
        · subst e; simp [q]
        · simp [e, show (j = i) = False from eq_false fun z => e z.symm]
      | val d =>
        simp only
        rw [slot_freeze is env]
        by_cases e : j = i
        · subst e; simp [q]
        · simp [e]
      | io d =>
        simp only
        rw [slot_freeze is env]
        by_cases e : j = i
        · subst e; simp [q]
        · simp [e]
theorem freeze_length : ∀ (is : List Nat) (env : Env), (freeze env is).length = env.length
  | [], env => rfl
  | i :: is, env => by
    unfold freeze
    split
    · rw [freeze_length is]; simp
    · exact freeze_length is env
theorem setC_length {env : Env} {i : Nat} {d : PyData} : (setC env i d).length = env.length := by unfold setC; split <;> simp
theorem slot_setC {env : Env} {i j : Nat} {d d0 : PyData} (h : slC (slot env i) = some d0) : slot (setC env i d) j = if i = j then (match slot env i with | some (.io _) => some (.io d) | _ => some (.own d)) else slot env j := by
  have hi : i < env.length := by
    rcases slC_some h with h | h <;> exact slot_lt h
  unfold setC
  rcases slC_some h with q | q <;> (rw [q]; simp only; rw [slot_set' hi])
theorem slC_setC {env : Env} {i j : Nat} {d d0 : PyData} (h : slC (slot env i) = some d0) (q : (slC (slot env j)).isSome = true) : (slC (slot (setC env i d) j)).isSome = true := by
  rw [slot_setC h]
  by_cases e : i = j
  · rw [if_pos e]; split <;> rfl
  · rw [if_neg e]; exact q
theorem setOwn_length : ∀ {is : List Nat} {ds : List PyData} {env : Env}, (setOwn env is ds).length = env.length
  | [], ds, env => by cases ds <;> rfl
  | i :: is, [], env => rfl
  | i :: is, d :: ds, env => by
    show (setOwn (setC env i d) is ds).length = _
    rw [setOwn_length, setC_length]
/-- what stands at a name behind a call -/
theorem slot_setOwn {j : Nat} {s : Sl} {F' H' : Hp} {K : Frag} {σ : L2.St} : ∀ {is : List Nat} {ds : List PyData} {ps : List Addr} {env : Env}, is.Nodup → is.all (isOwn env) = true → Paired (fun p i => σ[i]? = some (some (.ref p))) ps is → newsD K F' H' ps ds →
    slot (setOwn env is ds) j = some s → (j ∉ is ∧ slot env j = some s) ∨ (j ∈ is ∧ ∃ p d, p ∈ ps ∧ σ[j]? = some (some (.ref p)) ∧ F' p = none ∧ OwnAt K F' H' p d ∧ ((s = .own d ∧ ∃ d0, slot env j = some (.own d0)) ∨ (s = .io d ∧ ∃ d0, slot env j = some (.io d0))))
  | [], ds, ps, env, _, _, _, _, h => by
    have : setOwn env [] ds = env := by cases ds <;> rfl
    rw [this] at h
    exact .inl ⟨by simp, h⟩
  | i :: is, ds, ps, env, hn, ha, hp, hd, h => by
    cases hp with
    | @cons p _ ps _ hp1 hp =>
      cases ds with
      | nil => exact hd.elim
      | cons d ds =>
        obtain ⟨⟨f1, f2⟩, hd⟩ := hd
        rw [List.nodup_cons] at hn
        rw [List.all_cons, Bool.and_eq_true] at ha
        obtain ⟨d0, h0⟩ := Option.isSome_iff_exists.mp ha.1
        have ha2 : is.all (isOwn (setC env i d)) = true := by
          rw [List.all_eq_true] at ha ⊢
          intro x hx
          exact slC_setC h0 (ha.2 x hx)
        have h : slot (setOwn (setC env i d) is ds) j = some s := h
        rcases slot_setOwn hn.2 ha2 hp hd h with ⟨a, b⟩ | ⟨a, p', d', b, c, e, f, gg⟩
        · rw [slot_setC h0] at b
          by_cases e : i = j
          · subst e
            rw [if_pos rfl] at b
            refine .inr ⟨List.mem_cons_self, p, d, List.mem_cons_self, hp1, f1, f2, ?_⟩
            rcases slC_some h0 with q | q
            · rw [q] at b; cases b; exact .inl ⟨rfl, _, q⟩
            · rw [q] at b; cases b; exact .inr ⟨rfl, _, q⟩
          · rw [if_neg e] at b
            exact .inl ⟨by simp only [List.mem_cons, not_or]; exact ⟨fun z => e z.symm, a⟩, b⟩
        · have ne : i ≠ j := fun z => hn.1 (z ▸ a)
          refine .inr ⟨List.mem_cons_of_mem _ a, p', d', List.mem_cons_of_mem _ b, c, e, f, ?_⟩
          rw [slot_setC h0, if_neg ne] at gg
          exact gg
theorem io_setOwn {j : Nat} {d : PyData} : ∀ {is : List Nat} {ds : List PyData} {env : Env}, is.all (isOwn env) = true → slot env j = some (.io d) → ∃ d', slot (setOwn env is ds) j = some (.io d')
  | [], ds, env, _, h => ⟨d, by cases ds <;> exact h⟩
  | i :: is, [], env, _, h => ⟨d, h⟩
  | i :: is, e :: ds, env, ha, h => by
    rw [List.all_cons, Bool.and_eq_true] at ha
    obtain ⟨d0, h0⟩ := Option.isSome_iff_exists.mp ha.1
    have ha2 : is.all (isOwn (setC env i e)) = true := by
      rw [List.all_eq_true] at ha ⊢
      intro x hx
      exact slC_setC h0 (ha.2 x hx)
    show ∃ d', slot (setOwn (setC env i e) is ds) j = some (.io d')
    by_cases q : i = j
    · subst q
      exact io_setOwn (d := e) ha2 (by rw [slot_setC h0, if_pos rfl, h])
    · exact io_setOwn (d := d) ha2 (by rw [slot_setC h0, if_neg q]; exact h)
theorem nodup_addr (Rp : Rep K io g env σ F H) : ∀ {ps : List Addr} {is : List Nat}, Paired (fun p i => σ[i]? = some (some (.ref p))) ps is → is.Nodup → is.all (isOwn env) = true → ps.Nodup
  | _, _, .nil, _, _ => List.nodup_nil
  | p :: ps, i :: is, .cons h t, hn, ha => by
    rw [List.nodup_cons] at hn ⊢
    rw [List.all_cons, Bool.and_eq_true] at ha
    refine ⟨fun hm => ?_, nodup_addr Rp t hn.2 ha.2⟩
    have : ∃ j ∈ is, σ[j]? = some (some (.ref p)) := by
      clear hn ha h
      induction t with
      | nil => cases hm
      | cons r t ih =>
        rcases List.mem_cons.mp hm with e | hm
        · exact ⟨_, List.mem_cons_self, by rw [e]; exact r⟩
        · obtain ⟨j, hj, e⟩ := ih hm
          exact ⟨j, List.mem_cons_of_mem _ hj, e⟩
    obtain ⟨j, hj, e⟩ := this
    obtain ⟨d, hd⟩ := Option.isSome_iff_exists.mp ha.1
    obtain ⟨d', hd'⟩ := Option.isSome_iff_exists.mp (List.all_eq_true.mp ha.2 j hj)
    exact hn.1 (Rp.apart hd hd' h e ▸ hj)
theorem mem_addr : ∀ {ps : List Addr} {is : List Nat} {p : Addr}, Paired (fun p i => σ[i]? = some (some (.ref p))) ps is → p ∈ ps → ∃ j ∈ is, σ[j]? = some (some (.ref p))
  | _, _, _, .nil, hm => by cases hm
  | _, _, _, .cons r t, hm => by
    rcases List.mem_cons.mp hm with e | hm
    · exact ⟨_, List.mem_cons_self, by rw [e]; exact r⟩
    · obtain ⟨j, hj, e⟩ := mem_addr t hm
      exact ⟨j, List.mem_cons_of_mem _ hj, e⟩
theorem inouts_nil_addr {ps : List Addr} (h : Paired (fun p i => σ[i]? = some (some (.ref p))) ps ([] : List Nat)) : ps = [] := by cases h; rfl

theorem call_ok {sig : List Bool} {rs : List R} {vs : List V} {Sp : Spec} {Q : R → Env → Prop} {Qv : V → Hp → Prop} (Rp : Rep K io g env σ F H) (hv : Paired (StDen K F σ) vs rs) (hs : ∀ r ∈ rs, r.still = r) (hw : callW Sp sig rs env Q)
    (kont : ∀ v H' F' r env', Same F F' → Rep K io g env' σ F' H' → RDen K g F' H' σ env' v r → Q r env' → Qv v H') : spOf K sig Sp vs H Qv E0 := by
  obtain ⟨ok, ds, pk, hw⟩ := hw
  unfold okArgs at ok
  simp only [Bool.and_eq_true, decide_eq_true_eq] at ok
  obtain ⟨⟨⟨o1, o2⟩, o3⟩, o4⟩ := ok
  have hL : ∀ b, lentAt env σ (lents sig rs) b → F b = none := fun b ⟨i, hi, q, e⟩ => by
    obtain ⟨d, hd⟩ := Option.isSome_iff_exists.mp q
    obtain ⟨p, a, b', _⟩ := Rp.mine hd
    rw [e] at a; cases a; exact b'
  have nLi : ∀ i ∈ inouts sig rs, ∀ b, σ[i]? = some (some (.ref b)) → ¬ lentAt env σ (lents sig rs) b := fun i hi b e ⟨j, hj, q, e2⟩ => by
    obtain ⟨d, hd⟩ := Option.isSome_iff_exists.mp q
    obtain ⟨d', hd'⟩ := Option.isSome_iff_exists.mp (List.all_eq_true.mp o2 i hi)
    have := Rp.apart hd' hd e e2
    subst this
    have z := List.all_eq_true.mp o3 i hi
    simp at z
    exact z hj
  obtain ⟨A1, A2, A3⟩ := args_ok Rp (lentAt env σ (lents sig rs)) hL hv pk o1 hs o2 (fun i hi b q e => ⟨i, hi, q, e⟩) nLi
  refine ⟨A2, lend F H (lentAt env σ (lents sig rs)), ds, lend_same Rp.sub, A1, nodup_addr Rp A3 o4 o2, _, hw, ?_⟩
  generalize hl : lentAt env σ (lents sig rs) = L at *
  intro res news q v H' F' m1 m2 fr nf nw rd
  have q := q (by rw [← newsD.length nw]; exact Paired.length A3)
  have mF : Same F F' := (same_lend hL).trans m1
  -- addresses of names
  have nin : ∀ {b : Addr}, b ∈ inAddr sig vs → ∃ i ∈ inouts sig rs, σ[i]? = some (some (.ref b)) := fun hb => mem_addr A3 hb
  have tr : ∀ b o, g.H0 b = some o → (∀ q ∈ g.ins, q.2 ≠ b) → H' b = some o := fun b o e i => by
    refine fr b o (Rp.frame b o e i) fun hb => ?_
    obtain ⟨j, hj, ej⟩ := nin hb
    obtain ⟨d, hd⟩ := Option.isSome_iff_exists.mp (List.all_eq_true.mp o2 j hj)
    obtain ⟨p, a, _, _, _, z⟩ := Rp.mine hd
    rw [ej] at a; cases a
    rcases z with z | ⟨w, hw, z⟩
    · rw [e] at z; cases z
    · exact i w hw z
  -- a tracked address that is not shared stays unshared
  have stay : ∀ {b : Addr} {o : HO}, H b = some o → F b = none → ¬ L b → F' b = none := fun {b o} e n nl => nf b o e (by unfold lend; rw [if_neg nl]; exact n)
  have there0 : ∀ b o, g.H0 b = some o → ∃ o', H b = some o' := fun b o e => by
    by_cases i : ∀ q ∈ g.ins, q.2 ≠ b
    · exact ⟨o, Rp.frame b o e i⟩
    · have : ∃ q ∈ g.ins, q.2 = b := by
        apply Classical.byContradiction
        intro z
        exact i fun q hq e => z ⟨q, hq, e⟩
      obtain ⟨w, hw, rfl⟩ := this
      obtain ⟨_, ⟨d, hd⟩, _⟩ := Rp.ins w hw
      obtain ⟨p, hp, _, oo⟩ := Rp.ios _ _ hd
      have e1 := (Rp.ins _ hp).1
      have e2 := (Rp.ins w hw).1
      rw [e1] at e2
      have e3 : p = w.2 := by injection (Option.some.inj (Option.some.inj e2))
      obtain ⟨o', ho', _⟩ := oo.there
      exact ⟨o', e3 ▸ ho'⟩
  -- the own list of a name that is not handed over
  have other : ∀ {i : Nat} {d : PyData} {p : Addr}, slC (slot env i) = some d → σ[i]? = some (some (.ref p)) → OwnAt K F H p d → i ∉ inouts sig rs → H' p = H p := fun {i d p} h1 h2 h3 h4 => by
    obtain ⟨o, ho, _⟩ := h3.there
    rw [ho]
    refine fr p o ho fun hb => ?_
    obtain ⟨j, hj, ej⟩ := nin hb
    obtain ⟨d', hd'⟩ := Option.isSome_iff_exists.mp (List.all_eq_true.mp o2 j hj)
    exact h4 (Rp.apart h1 hd' h2 ej ▸ hj)
  have lentL : ∀ {i : Nat} {d : PyData} {p : Addr}, slC (slot env i) = some d → σ[i]? = some (some (.ref p)) → L p → i ∈ lents sig rs := fun {i d p} h1 h2 h3 => by
    rw [← hl] at h3
    obtain ⟨j, hj, q, e⟩ := h3
    obtain ⟨d', hd'⟩ := Option.isSome_iff_exists.mp q
    exact Rp.apart h1 hd' h2 e ▸ hj
  have tmpN : ∀ t ∈ g.tmps, ¬ L t.1 := fun t ht z => by
    rw [← hl] at z
    obtain ⟨j, hj, q, e⟩ := z
    obtain ⟨d', hd'⟩ := Option.isSome_iff_exists.mp q
    obtain ⟨p, a, _, _, n, _⟩ := Rp.mine hd'
    rw [e] at a; cases a
    exact n t ht rfl
  have tmpH : ∀ t ∈ g.tmps, H' t.1 = H t.1 := fun t ht => by
    obtain ⟨a, b, c⟩ := Rp.tmp t ht
    obtain ⟨o, ho, _⟩ := b.there
    rw [ho]
    refine fr _ o ho fun hb => ?_
    obtain ⟨j, hj, ej⟩ := nin hb
    obtain ⟨d', hd'⟩ := Option.isSome_iff_exists.mp (List.all_eq_true.mp o2 j hj)
    obtain ⟨p, a', _, _, n, _⟩ := Rp.mine hd'
    rw [ej] at a'; cases a'
    exact n t ht rfl
  by_cases keep : (noRefR res && (inouts sig rs).isEmpty) = true
  · -- nothing of the lent lists can be in the result
    have _ : DecidablePred L := fun b => Classical.propDecidable _
    rw [if_pos keep] at q
    rw [Bool.and_eq_true] at keep
    obtain ⟨k1, k2⟩ := keep
    have i0 : inouts sig rs = [] := by simpa using k2
    have hLm : ∀ b, L b → ∃ o, F' b = some o ∧ Mut (some o) := fun b lb => by
      have lb' := lb
      rw [← hl] at lb'
      obtain ⟨j, hj, q, e⟩ := lb'
      obtain ⟨d', hd'⟩ := Option.isSome_iff_exists.mp q
      obtain ⟨p, a, _, oo, _⟩ := Rp.mine hd'
      rw [e] at a; cases a
      obtain ⟨o, ho, mu⟩ := oo.there
      exact ⟨o, m1 _ _ (by unfold lend; rw [if_pos lb]; exact ho), mu⟩
    let F2 : Hp := fun b => if L b then none else F' b
    have m3 : Same F F2 := fun b o e => by
      show (if L b then none else F' b) = _
      rw [if_neg (fun z => by rw [hL b z] at e; cases e)]
      exact mF _ _ e
    have f2 : ∀ {b : Addr} {o : HO}, H b = some o → F b = none → F2 b = none := fun {b o} e n => by
      show (if L b then none else F' b) = _
      by_cases z : L b
      · rw [if_pos z]
      · rw [if_neg z]; exact stay e n z
    have ni : ∀ i, i ∉ inouts sig rs := fun i => by rw [i0]; simp
    have R2 : Rep K io g env σ F2 H' := by
      refine ⟨fun b o e => ?_, Rp.sub0.trans m3, tr, fun b o e n => ?_, Rp.len, fun i d h => ?_, fun i d h => ?_, Rp.sep, fun i d h => ?_, Rp.ins, Rp.insI, Rp.insN, fun t ht => ?_, Rp.tmpN⟩
      · have e : (if L b then none else F' b) = some o := e
        by_cases z : L b
        · rw [if_pos z] at e; cases e
        · rw [if_neg z] at e; exact m2 _ _ e
      · obtain ⟨o', ho'⟩ := there0 b o e
        exact f2 ho' (Rp.nof b o e n)
      · obtain ⟨w, a, b⟩ := Rp.vals i d h; exact ⟨w, a, b.mono m3⟩
      · obtain ⟨p, a, b, c, dd, e⟩ := Rp.owns i d h
        obtain ⟨o, ho, _⟩ := c.there
        exact ⟨p, a, f2 ho b, c.mono m3 (other (by rw [h]; rfl) a c (ni i)), dd, e⟩
      · obtain ⟨p, a, b, c⟩ := Rp.ios i d h
        obtain ⟨o, ho, _⟩ := c.there
        exact ⟨p, a, f2 ho b, c.mono m3 (other (by rw [h]; rfl) (Rp.ins _ a).1 c (ni i))⟩
      · obtain ⟨a, b, c⟩ := Rp.tmp t ht
        obtain ⟨o, ho, _⟩ := b.there
        exact ⟨f2 ho a, b.mono m3 (tmpH t ht), c⟩
    refine kont v H' F2 _ env m3 R2 ?_ q
    cases res with
    | val d => exact Den.noRef hLm rd k1
    | own d =>
      obtain ⟨p, rfl, a, b, c⟩ := rd
      obtain ⟨h0, hF, ht, hi, ho⟩ := Rp.h0 c
      refine ⟨p, rfl, ?_, OwnAt.noRef hLm b k1, h0, ht, ho⟩
      show (if L p then none else F' p) = none
      rw [a]; split <;> rfl
    | io d => exact rd.elim
  · rw [if_neg keep] at q
    obtain ⟨nio, q⟩ := q
    have lio : ∀ {i : Nat} {d : PyData}, i ∈ lents sig rs → slot env i ≠ some (.io d) := fun {i d} hi z => by
      have := List.all_eq_true.mp nio i hi
      unfold isIo at this
      rw [z] at this
      cases this
    have o2' : (inouts sig rs).all (isOwn (freeze env (lents sig rs))) = true := by
      rw [List.all_eq_true] at o2 ⊢
      intro i hi
      have := List.all_eq_true.mp o3 i hi
      have ni : i ∉ lents sig rs := by simpa using this
      show (slC (slot (freeze env (lents sig rs)) i)).isSome = true
      rw [slot_freeze, if_neg ni]
      exact o2 i hi
    have so : ∀ {j : Nat} {s : Sl}, slot (setOwn (freeze env (lents sig rs)) (inouts sig rs) news) j = some s → _ := fun {j s} h => slot_setOwn o4 o2' A3 nw h
    have frz : ∀ {j : Nat} {s : Sl}, slot (freeze env (lents sig rs)) j = some s → (slot env j = some s ∧ (∀ d, s = .own d → j ∉ lents sig rs)) ∨ ∃ d, s = .val d ∧ slot env j = some (.own d) ∧ j ∈ lents sig rs := fun {j s} h => by
      rw [slot_freeze] at h
      by_cases e : j ∈ lents sig rs
      · rw [if_pos e] at h
        cases q : slot env j with
        | none => rw [q] at h; cases h
        | some z =>
          rw [q] at h
          cases z <;> cases h
          · exact .inr ⟨_, rfl, rfl, e⟩
          · exact .inl ⟨rfl, fun d z => nomatch z⟩
          · exact .inl ⟨rfl, fun d z => nomatch z⟩
      · rw [if_neg e] at h
        exact .inl ⟨h, fun _ _ => e⟩
    have R2 : Rep K io g (setOwn (freeze env (lents sig rs)) (inouts sig rs) news) σ F' H' := by
      have len2 : (setOwn (freeze env (lents sig rs)) (inouts sig rs) news).length = σ.length := by rw [setOwn_length, freeze_length]; exact Rp.len
      have own2 : ∀ {i : Nat} {d : PyData}, slot (setOwn (freeze env (lents sig rs)) (inouts sig rs) news) i = some (.own d) → ∃ d0, slot env i = some (.own d0) := fun {i d} h => by
        rcases so h with ⟨a, b⟩ | ⟨a, p, d', _, _, _, _, ⟨e, d0, z⟩ | ⟨e, _⟩⟩
        · rcases frz b with ⟨b, _⟩ | ⟨_, b, _⟩
          · exact ⟨d, b⟩
          · cases b
        · rcases frz z with ⟨b, _⟩ | ⟨_, b, _⟩
          · exact ⟨d0, b⟩
          · cases b
        · cases e
      refine ⟨m2, Rp.sub0.trans mF, tr, fun b o e n => ?_, len2, fun i d h => ?_, fun i d h => ?_, fun i j d e p h1 h2 h3 h4 => ?_, fun i d h => ?_, fun w hw => ?_, Rp.insI, Rp.insN, fun t ht => ?_, Rp.tmpN⟩
      · obtain ⟨o', ho'⟩ := there0 b o e
        refine stay ho' (Rp.nof b o e n) fun z => ?_
        rw [← hl] at z
        obtain ⟨j, hj, z1, z2⟩ := z
        obtain ⟨d, hd⟩ := Option.isSome_iff_exists.mp z1
        rcases slC_some hd with hd | hd
        · obtain ⟨p, a, _, _, c, _⟩ := Rp.owns j d hd
          rw [z2] at a; cases a
          rw [e] at c; cases c
        · exact lio hj hd
      · rcases so h with ⟨a, b⟩ | ⟨a, p, d', _, _, _, _, ⟨e, _⟩ | ⟨e, _⟩⟩
        · rcases frz b with ⟨b, _⟩ | ⟨d', e, b, c⟩
          · obtain ⟨w, x, y⟩ := Rp.vals i d b; exact ⟨w, x, y.mono mF⟩
          · cases e
            obtain ⟨p, x, y, z, _⟩ := Rp.owns i d b
            have lp : L p := by rw [← hl]; exact ⟨i, c, by rw [b]; rfl, x⟩
            obtain ⟨o, ho, _⟩ := z.there
            refine ⟨_, x, Den.mono ?_ (z.share ho y)⟩
            intro a1 a2 a3
            refine m1 _ _ ?_
            unfold lend
            by_cases ex : a1 = p
            · subst ex; rw [upd_same] at a3; rw [if_pos lp, ho]; exact a3
            · rw [upd_ne ex] at a3
              rw [if_neg]
              · exact a3
              · intro w; rw [hL _ w] at a3; cases a3
        · cases e
        · cases e
      · rcases so h with ⟨a, b⟩ | ⟨a, p, d', hp, x, y, z, ⟨e, d0, w⟩ | ⟨e, _⟩⟩
        · rcases frz b with ⟨b, nl⟩ | ⟨_, b, _⟩
          · obtain ⟨p, x, y, z, u, t⟩ := Rp.owns i d b
            obtain ⟨o, ho, _⟩ := z.there
            have nL : ¬ L p := fun lp => nl d rfl (lentL (by rw [b]; rfl) x lp)
            exact ⟨p, x, stay ho y nL, z.mono mF (other (by rw [b]; rfl) x z a), u, t⟩
          · cases b
        · cases e
          rcases frz w with ⟨b, _⟩ | ⟨_, b, _⟩
          · obtain ⟨p', x', y', z', u, t⟩ := Rp.owns i _ b
            rw [x] at x'; cases x'
            exact ⟨p, x, y, z, u, t⟩
          · cases b
        · cases e
      · obtain ⟨_, b1⟩ := own2 h1
        obtain ⟨_, b2⟩ := own2 h2
        exact Rp.sep i j _ _ p b1 b2 h3 h4
      · rcases so h with ⟨a, b⟩ | ⟨a, p, d', hp, x, y, z, ⟨e, _⟩ | ⟨e, d0, w⟩⟩
        · rcases frz b with ⟨b, nl⟩ | ⟨_, b, _⟩
          · obtain ⟨p, x, y, z⟩ := Rp.ios i d b
            have x' := (Rp.ins _ x).1
            obtain ⟨o, ho, _⟩ := z.there
            have nL : ¬ L p := fun lp => lio (lentL (by rw [b]; rfl) x' lp) b
            exact ⟨p, x, stay ho y nL, z.mono mF (other (by rw [b]; rfl) x' z a)⟩
          · cases b
        · cases e
        · cases e
          rcases frz w with ⟨b, _⟩ | ⟨_, b, _⟩
          · obtain ⟨p', x', _⟩ := Rp.ios i _ b
            have x2 := (Rp.ins _ x').1
            rw [x] at x2; cases x2
            exact ⟨_, x', y, z⟩
          · cases b
      · obtain ⟨a, ⟨d, b⟩, c⟩ := Rp.ins w hw
        refine ⟨a, ?_, c⟩
        refine io_setOwn (d := d) o2' ?_
        rw [slot_freeze, b]
        split <;> rfl
      · obtain ⟨a, b, c⟩ := Rp.tmp t ht
        obtain ⟨o, ho, _⟩ := b.there
        exact ⟨stay ho a (tmpN t ht), b.mono mF (tmpH t ht), c⟩
    refine kont v H' F' _ _ mF R2 ?_ q
    cases res with
    | val d => exact rd
    | own d =>
      obtain ⟨p, rfl, a, b, c⟩ := rd
      obtain ⟨h0, hF, ht, hi, ho⟩ := Rp.h0 c
      refine ⟨p, rfl, a, b, h0, ht, fun i d' h z => ?_⟩
      obtain ⟨p', x, _, y, _⟩ := R2.owns i d' h
      rw [z] at x; cases x
      -- it stood before, or it is a name's own
      rcases so h with ⟨u, w⟩ | ⟨u, p2, d2, _, x2, _, _, ⟨e2, d0, w⟩ | ⟨e2, _⟩⟩
      · rcases frz w with ⟨w, _⟩ | ⟨_, w, _⟩
        · exact ho i _ w z
        · cases w
      · rcases frz w with ⟨w, _⟩ | ⟨_, w, _⟩
        · exact ho i _ w z
        · cases w
      · cases e2
    | io d => exact rd.elim
end
end Co

set_option linter.all false
/-! Co9: the rules, an expression of the text against one of the little language. -/
namespace Co
open PySem PySem.Spec PyProof.Rows L2

def Es.len : Es → Nat
  | .nil => 0
  | .cons _ es => es.len + 1
/-- arguments, displays -/
def tA (K : Frag) (Φ : Tbl) (io : List Nat) (es : Es) : TA := fun σ H Qs => ∃ g F env Q, Rep K io g env σ F H ∧ wpEs Φ es env Q ∧
  ∀ vs H' F' rs env', vs.length = es.len → Same F F' → Rep K io g env' σ F' H' → Paired (StDen K F' σ) vs rs → (∀ r ∈ rs, r.still = r) → Q rs env' → Qs vs H'
/-- a test -/
def tT (K : Frag) (Φ : Tbl) (io : List Nat) (c : E) : TT := fun σ H Qb => ∃ (g : Gh) (F : Hp) (env : Env) (Q : Bool → Env → Prop), Rep K io g env σ F H ∧ wpE Φ c env (fun r env' => isT r env' fun b => Q b env') ∧
  ∀ b H' F' env', Same F F' → Rep K io g env' σ F' H' → Q b env' → Qb b H'
theorem R.still_still (r : R) : r.still.still = r.still := by cases r <;> rfl

/-! ### the forms of expressions -/
def notStar : Expr → Bool
  | .Starred _ _ => false
  | _ => true
def notSlice : Expr → Bool
  | .Slice _ _ _ _ => false
  | _ => true
def notSet : Expr → Bool
  | .Set _ _ _ => false
  | _ => true
/-- as a test it is just its value -/
def plainT : Expr → Bool
  | .UnaryOp .Not _ _ => false
  | .BoolOp _ _ _ => false
  | .IfExp _ _ _ _ => false
  | .Compare _ _ _ _ => false
  | _ => true
def notCall : Expr → Bool
  | .Call _ _ _ _ => false
  | _ => true
def notLc : Expr → Bool
  | .ListComp .. | .SetComp .. | .DictComp .. => false
  | _ => true
theorem star_cons {e : Expr} (h : notStar e = true) (es : List Expr) (env : PySem.Env) : starEach (e :: es) env = (false, eval e env) :: starEach es env := by
  cases e <;> first | rfl | (simp [notStar] at h)
theorem plainIx {b : Expr} (h : notSlice b = true) : PlainIx b := fun o i => by
  cases b <;> first | rfl | (simp [notSlice] at h)
theorem behind {b : Expr} (h : notSet b = true) (op : CmpOp) : behindInMarks op b = false := by
  cases b <;> first | rfl | (simp [notSet] at h)
theorem plainT_eq {e : Expr} (h : plainT e = true) (env : PySem.Env) (whole : Sem Value) : isTrue e env whole = (do let v ← whole; standAt e.pos; holding [v] (truthy v)) := by
  cases e with
  | UnaryOp op x p => cases op <;> first | rfl | (simp [plainT] at h)
  | _ => first | rfl | (simp [plainT] at h)
theorem base_ok {o : Expr} (h : notCall o = true) (a : Str) (env : PySem.Env) : attributeBase o a env (eval o env) = eval o env := by
  cases o <;> first | rfl | (simp [notCall] at h)
theorem swap_no {e : Expr} (h : notLc e = true) (t : Option Expr) (n : Nat) (env : PySem.Env) : swapsWith e t n env = pure false := by
  cases e <;> first | rfl | (simp [notLc] at h)
theorem folded_ok {e : Expr} (h : notSet e = true) (env : PySem.Env) (x : Value) : foldedSetIterable e env x = pure x := by
  cases e <;> first | rfl | (simp [notSet] at h)

section
variable {X : Cx} {Φ : Tbl} {io : List Nat} {e e1 e2 e3 : Expr} {es : List Expr} {a b c : E} {cs : Es} {pos p p2 : Pos}

theorem pa_nilC : PA X [] (tA X.K Φ io .nil) := PA.weak pa_nil fun σ H Q ⟨g, F, env, Q', Rp, w, k⟩ => k [] H F [] env rfl (Same.refl F) Rp .nil (fun _ h => absurd h (by simp)) w
theorem pa_consC (he : PE X e (tE X.K Φ io a)) (hs : PA X es (tA X.K Φ io cs)) (n : notStar e = true) : PA X (e :: es) (tA X.K Φ io (.cons a cs)) :=
  PA.weak (pa_cons he hs (star_cons n es X.env)) fun σ H Q ⟨g, F, env, Q', Rp, w, k⟩ => one_ Rp w fun v1 H1 F1 r1 env1 m1 R1 s1 q1 =>
    ⟨g, F1, env1, _, R1, q1, fun vs H2 F2 rs env2 l m2 R2 s2 st q2 => k (v1 :: vs) H2 F2 (r1.still :: rs) env2 (by simp [l, Es.len]) (m1.trans m2) R2
      (.cons (by cases r1 <;> exact StDen.mono s1 m2) s2) (fun r hr => by
        rcases List.mem_cons.mp hr with rfl | hr
        · exact R.still_still r1
        · exact st r hr) q2⟩

/-! ### names, constants -/
def mVis (N : List Str) (sc : Scope) (i : Nat) (x : Str) : Bool :=
  decide (N[i]? = some x) && (match sc.names.lookup x with | some .local | some .cell | some .free => true | _ => false) && !(x == ("__debug__" : Str)) && !(x == ("__classdict__" : Str))
theorem mVis_ok {N : List Str} {sc : Scope} {i : Nat} {x : Str} (h : mVis N sc i x = true) : N[i]? = some x ∧ Vis sc x ∧ (x == ("__debug__" : Str)) = false ∧ (x == ("__classdict__" : Str)) = false := by
  unfold mVis at h
  simp only [Bool.and_eq_true, decide_eq_true_eq, Bool.not_eq_true'] at h
  obtain ⟨⟨⟨h1, h2⟩, h3⟩, h4⟩ := h
  refine ⟨h1, ?_, h3, h4⟩
  split at h2
  · exact .inl (by assumption)
  · exact .inr (.inl (by assumption))
  · exact .inr (.inr (by assumption))
  · cases h2
theorem slot_val {K : Frag} {io : List Nat} {g : Gh} {F H : Hp} {env : Env} {σ : L2.St} (Rp : Rep K io g env σ F H) {i : Nat} (h : (slot env i).isSome = true) : ∃ v, σ[i]? = some (some v) := by
  cases q : slot env i with
  | none => rw [q] at h; cases h
  | some s =>
    cases s with
    | val d => obtain ⟨v, a, _⟩ := Rp.vals i d q; exact ⟨v, a⟩
    | own d => obtain ⟨p, a, _⟩ := Rp.owns i d q; exact ⟨_, a⟩
    | io d => obtain ⟨p, a, _⟩ := Rp.ios i d q; exact ⟨_, (Rp.ins _ a).1⟩
theorem e_var {i : Nat} {x : Str} (h : mVis X.N X.env.scope i x = true) : PE X (.Name x pos) (tE X.K Φ io (.var i)) := by
  obtain ⟨h1, h2, h3, h4⟩ := mVis_ok h
  refine PE.weak (pe_var h1 h2 h3 h4) fun σ H Q ⟨g, F, env, Q', Rp, ⟨w1, w2⟩, k⟩ => ?_
  obtain ⟨v, hv⟩ := slot_val Rp w1
  exact ⟨v, hv, k v H F (.pl i) env (Same.refl F) Rp ⟨hv, w1⟩ w2⟩
def mC : PyData → Const → Bool
  | .none, .none => true
  | .bool x, .bool y => x == y
  | .int x, .int y => x == y
  | .str x, .str y => x == y
  | _, _ => false
theorem e_cst {d : PyData} {k : Const} {j : Nat} (h : mC d k = true) : PE X (.Constant k j pos) (tE X.K Φ io (.cst d)) := by
  have fin : ∀ {v : V} {d : PyData}, (∀ F, Den X.K F v d) → ∀ σ H Q, tE X.K Φ io (.cst d) σ H Q → tC v σ H Q := fun {v d} dn σ H Q ⟨g, F, env, Q', Rp, w, kk⟩ => kk v H F (.val d) env (Same.refl F) Rp (dn F) w
  cases d <;> cases k <;> simp [mC] at h
  · exact PE.weak pe_non (fin fun F => .non)
  · subst h; exact PE.weak pe_bl (fin fun F => .bl _)
  · subst h; exact PE.weak pe_int (fin fun F => .int _)
  · subst h; exact PE.weak pe_str (fin fun F => .str _)

/-! ### displays -/
theorem e_tup {n : Nat} (h : PA X es (tA X.K Φ io cs)) (hl : cs.len ≤ 1000) : PE X (.Tuple es n pos) (tE X.K Φ io (.tup cs)) :=
  PE.weak (pe_tup h) fun σ H Q ⟨g, F, env, Q', Rp, w, k⟩ => ⟨g, F, env, _, Rp, w, fun vs H1 F1 rs env1 l m1 R1 s1 st q1 => by
    refine ⟨by rw [l, sizeLine_eq]; omega, fun p n => ?_⟩
    obtain ⟨ds, env2, F2, m2, R2, dn, q2⟩ := asVs_ok R1 s1 q1
    obtain ⟨F3, m3, R3, rd⟩ := out_ok R2 (.tup n dn)
    exact k _ _ F3 _ env2 ((m1.trans m2).trans m3) R3 rd q2⟩
theorem e_lst (h : PA X es (tA X.K Φ io cs)) (hl : cs.len ≤ 1000) : PE X (.List es pos) (tE X.K Φ io (.lst cs)) :=
  PE.weak (pe_lst h) fun σ H Q ⟨g, F, env, Q', Rp, w, k⟩ => ⟨g, F, env, _, Rp, w, fun vs H1 F1 rs env1 l m1 R1 s1 st q1 => by
    refine ⟨by rw [l, sizeLine_eq]; omega, fun p n => ?_⟩
    obtain ⟨ds, env2, F2, m2, R2, dn, q2⟩ := asVs_ok R1 s1 q1
    obtain ⟨F3, m3, R3, rd⟩ := out_ok R2 (.own (d := .list ds) (o := .lst vs) n ⟨_, upd_same, dn⟩)
    exact k _ _ F3 _ env2 ((m1.trans m2).trans m3) R3 rd q2⟩
theorem e_dct0 : PE X (.Dict [] [] pos) (tE X.K Φ io (.dct .nil)) :=
  PE.weak pe_dnewK fun σ H Q ⟨g, F, env, Q', Rp, w, k⟩ p n => by
    obtain ⟨F3, m3, R3, rd⟩ := out_ok Rp (Out.own (d := .dict []) (o := .dK []) n ⟨[], [], upd_same, .nil, rfl⟩)
    exact k _ _ F3 _ env m3 R3 rd w.2
theorem e_lrep (h : PA X es (tA X.K Φ io cs)) (hl : cs.len ≤ 1000) (ha : PE X e (tE X.K Φ io a)) {p : Pos} : PE X (.BinOp (.List es p) .Mult e pos) (tE X.K Φ io (.lrep cs a)) :=
  PE.weak (pe_op op_rep (pe_lst h) ha) fun σ H Q ⟨g, F, env, Q', Rp, w, k⟩ => ⟨g, F, env, _, Rp, w, fun vs H1 F1 rs env1 l m1 R1 s1 st q1 => by
    refine ⟨by rw [l, sizeLine_eq]; omega, fun p n => ?_⟩
    obtain ⟨ds, env2, F2, m2, R2, dn, q2⟩ := asVs_ok R1 s1 q1
    obtain ⟨h0, hF, ht, hi, ho⟩ := R2.h0 n
    have R3 := (R2.lay (o := .lst vs) n).share hF upd_same h0 ho hi ht
    have m3 : Same F2 (upd F2 p (.lst vs)) := same_add hF
    refine one_ R3 q2 fun v5 H5 F5 r5 env5 m5 R5 s5 q5 => ?_
    obtain ⟨d5, w5, q5⟩ := pk_view R5 s5 q5
    cases d5 <;> first | exact q5.elim | skip
    obtain ⟨z1, z2, z3, q5⟩ := q5
    cases w5
    have hp : H5 p = some (.lst vs) := R5.sub _ _ (m5 _ _ upd_same)
    refine ⟨p, _, vs, rfl, rfl, hp, z1, z2, ?_, fun p' n' => ?_⟩
    · rw [dn.length]; exact line_le z3
    · have dn5 : DenAll X.K F5 vs ds := dn.mono (m3.trans m5)
      obtain ⟨F6, m6, R6, rd6⟩ := out_ok R5 (.own (d := .list (List.replicate _ ds).flatten) (o := .lst (List.replicate _ vs).flatten) n' ⟨_, upd_same, dn5.rep _⟩)
      exact k _ _ F6 _ env5 ((((m1.trans m2).trans m3).trans m5).trans m6) R6 rd6 q5⟩

/-! ### operators -/
theorem e_bin {op : BOp} (ha : PE X e1 (tE X.K Φ io a)) (hb : PE X e2 (tE X.K Φ io b)) : PE X (.BinOp e1 (opOf op) e2 pos) (tE X.K Φ io (.bin op a b)) :=
  PE.weak (pe_op (binR op) ha hb) fun σ H Q ⟨g, F, env, Q', Rp, w, k⟩ => op_ok (binD_mono op) Rp w k
theorem e_neg (ha : PE X e (tE X.K Φ io a)) : PE X (.UnaryOp .USub e pos) (tE X.K Φ io (.neg a)) :=
  PE.weak (pe_un un_neg ha) fun σ H Q ⟨g, F, env, Q', Rp, w, k⟩ => one_ Rp w fun v H' F' r env' m R' s q => by
    obtain ⟨d, vw, q⟩ := pk_view R' s q
    cases d <;> first | exact q.elim | skip
    cases vw
    exact ⟨_, rfl, k _ H' F' (.val (.int _)) env' m R' (Den.int _) q⟩
theorem e_not (ha : PE X e (tE X.K Φ io a)) : PE X (.UnaryOp .Not e pos) (tE X.K Φ io (.not a)) :=
  PE.weak (pe_not ha) fun σ H Q ⟨g, F, env, Q', Rp, w, k⟩ => one_ Rp w fun v H' F' r env' m R' s q => by
    obtain ⟨b, rfl, q⟩ := isT_view R' s q
    exact ⟨b, rfl, k _ H' F' (.val (.bool _)) env' m R' (Den.bl _) q⟩
theorem cmp_op {op : COp} {g : Gh} {F H : Hp} {env : Env} {σ : L2.St} {Q : R → Env → Prop} {Qv : V → Hp → Prop} (Rp : Rep X.K io g env σ F H)
    (w : wpE Φ a env fun r1 env1 => wpE Φ b env1 fun r2 env2 => pk r1 env2 fun x => pk r2 env2 fun y => cmpD op x y fun t => Q (.val (.bool t)) env2)
    (k : ∀ v H' F' r env', Same F F' → Rep X.K io g env' σ F' H' → RDen X.K g F' H' σ env' v r → Q r env' → Qv v H') : tOp (rOp X.K (qB (cmpD op))) (tE X.K Φ io a) (tE X.K Φ io b) σ H Qv :=
  op_ok (D := qB (cmpD op)) (Q := Q) (fun x y Q Q' h q => cmpD_mono op (fun b => h _) q) Rp w k
theorem e_cmp {op : COp} (hu : X.A.units + 66 < cLine) (ha : PE X e1 (tE X.K Φ io a)) (hb : PE X e2 (tE X.K Φ io b)) (ns : notSet e2 = true) : PE X (.Compare e1 [cmpOf op] [e2] pos) (tE X.K Φ io (.cmp op a b)) :=
  PE.weak (pe_cmpR (cmpR op hu) ha hb (behind ns _)) fun σ H Q ⟨g, F, env, Q', Rp, w, k⟩ => cmp_op Rp w k
theorem e_isn (ha : PE X e (tE X.K Φ io a)) {j : Nat} {p : Pos} : PE X (.Compare e [.Is] [.Constant .none j p] pos) (tE X.K Φ io (.isn a)) :=
  PE.weak (pe_cmp (pc_isN ha) rfl) fun σ H Q ⟨g, F, env, Q', Rp, w, k⟩ => one_ Rp w fun v H' F' r env' m R' s q => by
    obtain ⟨d, vw, q⟩ := pk_view R' s q
    have e : (decide (v = .non)) = isNoneD d := by
      cases d <;> first | (cases vw; rfl) | (obtain ⟨_, _, rfl, _⟩ := vw; rfl) | (obtain ⟨_, _, _, rfl, _⟩ := vw; rfl)
    show Q (.bl (decide (v = .non))) H'
    rw [e]
    exact k _ H' F' (.val (.bool _)) env' m R' (Den.bl _) q
theorem e_notn (ha : PE X e (tE X.K Φ io a)) {j : Nat} {p : Pos} : PE X (.Compare e [.IsNot] [.Constant .none j p] pos) (tE X.K Φ io (.notn a)) :=
  PE.weak (pe_cmp (pc_notN ha) rfl) fun σ H Q ⟨g, F, env, Q', Rp, w, k⟩ => one_ Rp w fun v H' F' r env' m R' s q => by
    obtain ⟨d, vw, q⟩ := pk_view R' s q
    have e : (!decide (v = .non)) = (!isNoneD d) := by
      cases d <;> first | (cases vw; rfl) | (obtain ⟨_, _, rfl, _⟩ := vw; rfl) | (obtain ⟨_, _, _, rfl, _⟩ := vw; rfl)
    show Q (.bl (!decide (v = .non))) H'
    rw [e]
    exact k _ H' F' (.val (.bool _)) env' m R' (Den.bl _) q
theorem chain_red {o1 o2 : COp} {g : Gh} {F H : Hp} {env : Env} {σ : L2.St} {Q : R → Env → Prop} {Qv : V → Hp → Prop} (Rp : Rep X.K io g env σ F H) (w : wpE Φ (.chain o1 o2 a b c) env Q)
    (k : ∀ t H' F' env', Same F F' → Rep X.K io g env' σ F' H' → Q (.val (.bool t)) env' → Qv (.bl t) H') :
    tChain (rOp X.K (qB (cmpD o1))) (rOp X.K (qB (cmpD o2))) (tE X.K Φ io a) (tE X.K Φ io b) (tE X.K Φ io c) σ H Qv := by
  refine two_ Rp w fun v1 v2 H1 F1 r1 r2 env1 m1 R1 s1 s2 q => ?_
  obtain ⟨d1, w1, q⟩ := pk_view R1 s1 q
  obtain ⟨d2, w2, q⟩ := pk_view R1 s2 q
  refine ⟨F1, d1, d2, R1.sub, w1, w2, cmpD_mono o1 (fun t q v H2 o => ?_) q⟩
  cases o with
  | old dn =>
    cases dn
    refine ⟨t, rfl, ?_⟩
    cases t with
    | false => exact k false H1 F1 env1 m1 R1 q
    | true =>
      refine one_ R1 q fun v3 H3 F3 r3 env3 m3 R3 s3 q => ?_
      obtain ⟨d2', w2', q⟩ := pk_view R3 (s2.mono m3) q
      obtain ⟨d3, w3, q⟩ := pk_view R3 s3 q
      refine ⟨F3, d2', d3, R3.sub, w2', w3, cmpD_mono o2 (fun t q v H4 o => ?_) q⟩
      cases o with
      | old dn => cases dn; exact k t H3 F3 env3 (m1.trans m3) R3 q
theorem marks2 {op op' : CmpOp} (h : notSet e3 = true) : lastMarks [op, op'] [e2, e3] = false := by
  show behindInMarks op' e3 = false
  exact behind h _
theorem e_chain {o1 o2 : COp} (hu : X.A.units + 66 < cLine) (ha : PE X e1 (tE X.K Φ io a)) (hb : PE X e2 (tE X.K Φ io b)) (hc : PE X e3 (tE X.K Φ io c)) (ns : notSet e3 = true) :
    PE X (.Compare e1 [cmpOf o1, cmpOf o2] [e2, e3] pos) (tE X.K Φ io (.chain o1 o2 a b c)) :=
  PE.weak (pe_chain (cmpR o1 hu) (cmpR o2 hu) ha hb hc (marks2 ns)) fun σ H Q ⟨g, F, env, Q', Rp, w, k⟩ => chain_red Rp w fun t H' F' env' m R' q => k _ H' F' (.val (.bool t)) env' m R' (Den.bl t) q
theorem e_and {xs : List Expr} (ha : PE X e1 (tE X.K Φ io a)) (hb : PE X (.BoolOp .And (e2 :: xs) pos) (tE X.K Φ io b)) : PE X (.BoolOp .And (e1 :: e2 :: xs) pos) (tE X.K Φ io (.and a b)) :=
  PE.weak (pe_and ha hb) fun σ H Q ⟨g, F, env, Q', Rp, w, k⟩ => one_ Rp w fun v H' F' r env' m R' s q => by
    obtain ⟨t, rfl, q⟩ := isT_view R' s q
    refine ⟨t, rfl, ?_⟩
    cases t with
    | true => exact ⟨g, F', env', Q', R', q, fun v H2 F2 r env2 m2 R2 d q => k v H2 F2 r env2 (m.trans m2) R2 d q⟩
    | false => exact k _ H' F' (.val (.bool _)) env' m R' (Den.bl _) q
theorem e_or {xs : List Expr} (ha : PE X e1 (tE X.K Φ io a)) (hb : PE X (.BoolOp .Or (e2 :: xs) pos) (tE X.K Φ io b)) : PE X (.BoolOp .Or (e1 :: e2 :: xs) pos) (tE X.K Φ io (.or a b)) :=
  PE.weak (pe_or ha hb) fun σ H Q ⟨g, F, env, Q', Rp, w, k⟩ => one_ Rp w fun v H' F' r env' m R' s q => by
    obtain ⟨t, rfl, q⟩ := isT_view R' s q
    refine ⟨t, rfl, ?_⟩
    cases t with
    | false => exact ⟨g, F', env', Q', R', q, fun v H2 F2 r env2 m2 R2 d q => k v H2 F2 r env2 (m.trans m2) R2 d q⟩
    | true => exact k _ H' F' (.val (.bool _)) env' m R' (Den.bl _) q
theorem e_ite (hc : PT X e1 (tT X.K Φ io c)) (ha : PE X e2 (tE X.K Φ io a)) (hb : PE X e3 (tE X.K Φ io b)) : PE X (.IfExp e1 e2 e3 pos) (tE X.K Φ io (.ite c a b)) :=
  PE.weak (pe_ifExp hc ha hb) fun σ H Q ⟨g, F, env, Q', Rp, w, k⟩ => ⟨g, F, env, _, Rp, w, fun t H' F' env' m R' q => by
    cases t with
    | true => exact ⟨g, F', env', Q', R', q, fun v H2 F2 r env2 m2 R2 d q => k v H2 F2 r env2 (m.trans m2) R2 d q⟩
    | false => exact ⟨g, F', env', Q', R', q, fun v H2 F2 r env2 m2 R2 d q => k v H2 F2 r env2 (m.trans m2) R2 d q⟩⟩

/-! ### tests -/
theorem t_plain (h : PE X e (tE X.K Φ io a)) (hp : plainT e = true) : PT X e (tT X.K Φ io a) :=
  PT.weak (pt_val h (fun w => plainT_eq hp X.env w)) fun σ H Q ⟨g, F, env, Q', Rp, w, k⟩ => one_ Rp w fun v H' F' r env' m R' s q => by
    obtain ⟨t, rfl, q⟩ := isT_view R' s q
    exact ⟨t, rfl, k t H' F' env' m R' q⟩
theorem t_not (h : PT X e (tT X.K Φ io a)) : PT X (.UnaryOp .Not e pos) (tT X.K Φ io (.not a)) :=
  PT.weak (pt_not h) fun σ H Q ⟨g, F, env, Q', Rp, w, k⟩ => ⟨g, F, env, fun b env' => Q' (!b) env', Rp, w, fun t H' F' env' m R' q => k _ H' F' env' m R' q⟩
theorem t_cmp {op : COp} (hu : X.A.units + 66 < cLine) (ha : PE X e1 (tE X.K Φ io a)) (hb : PE X e2 (tE X.K Φ io b)) (ns : notSet e2 = true) : PT X (.Compare e1 [cmpOf op] [e2] pos) (tT X.K Φ io (.cmp op a b)) :=
  PT.weak (pt_cmpR (cmpR op hu) ha hb (behind ns _)) fun σ H Q ⟨g, F, env, Q', Rp, w, k⟩ => cmp_op (Q := fun r env => isT r env fun b => Q' b env) Rp w fun v H' F' r env' m R' d q => by
    cases r with
    | val dd =>
      cases dd <;> first | exact q.elim | skip
      cases d
      exact ⟨_, rfl, k _ H' F' env' m R' q⟩
    | own dd =>
      obtain ⟨p, rfl, _, o, _⟩ := d
      cases dd <;> first | exact q.elim | skip
      exact o.elim
    | pl i =>
      obtain ⟨t, rfl, q⟩ := isT_view R' (r := .pl i) d.1 q
      exact ⟨t, rfl, k _ H' F' env' m R' q⟩
theorem t_chain {o1 o2 : COp} (hu : X.A.units + 66 < cLine) (ha : PE X e1 (tE X.K Φ io a)) (hb : PE X e2 (tE X.K Φ io b)) (hc : PE X e3 (tE X.K Φ io c)) (ns : notSet e3 = true) :
    PT X (.Compare e1 [cmpOf o1, cmpOf o2] [e2, e3] pos) (tT X.K Φ io (.chain o1 o2 a b c)) :=
  PT.weak (pt_chain (cmpR o1 hu) (cmpR o2 hu) ha hb hc (marks2 ns)) fun σ H Q ⟨g, F, env, Q', Rp, w, k⟩ => chain_red Rp w fun t H' F' env' m R' q => ⟨t, rfl, k t H' F' env' m R' q⟩
theorem t_isn (ha : PE X e (tE X.K Φ io a)) {j : Nat} {p : Pos} : PT X (.Compare e [.Is] [.Constant .none j p] pos) (tT X.K Φ io (.isn a)) :=
  PT.weak (pt_cmp (pc_isN ha) rfl) fun σ H Q ⟨g, F, env, Q', Rp, w, k⟩ => one_ Rp w fun v H' F' r env' m R' s q => by
    obtain ⟨d, vw, q⟩ := pk_view R' s q
    have e : (decide (v = .non)) = isNoneD d := by
      cases d <;> first | (cases vw; rfl) | (obtain ⟨_, _, rfl, _⟩ := vw; rfl) | (obtain ⟨_, _, _, rfl, _⟩ := vw; rfl)
    refine ⟨_, rfl, ?_⟩
    rw [e]
    exact k _ H' F' env' m R' q
theorem t_notn (ha : PE X e (tE X.K Φ io a)) {j : Nat} {p : Pos} : PT X (.Compare e [.IsNot] [.Constant .none j p] pos) (tT X.K Φ io (.notn a)) :=
  PT.weak (pt_cmp (pc_notN ha) rfl) fun σ H Q ⟨g, F, env, Q', Rp, w, k⟩ => one_ Rp w fun v H' F' r env' m R' s q => by
    obtain ⟨d, vw, q⟩ := pk_view R' s q
    have e : (!decide (v = .non)) = (!isNoneD d) := by
      cases d <;> first | (cases vw; rfl) | (obtain ⟨_, _, rfl, _⟩ := vw; rfl) | (obtain ⟨_, _, _, rfl, _⟩ := vw; rfl)
    refine ⟨_, rfl, ?_⟩
    rw [e]
    exact k _ H' F' env' m R' q
theorem and_red {g : Gh} {F H : Hp} {env : Env} {σ : L2.St} {Q : Bool → Env → Prop} {Qb : Bool → Hp → Prop} (Rp : Rep X.K io g env σ F H) (w : wpE Φ (.and a b) env (fun r env' => isT r env' fun b => Q b env'))
    (k : ∀ b H' F' env', Same F F' → Rep X.K io g env' σ F' H' → Q b env' → Qb b H') : tAnd (tT X.K Φ io a) (tT X.K Φ io b) σ H Qb :=
  ⟨g, F, env, _, Rp, w, fun t H' F' env' m R' q => by
    cases t with
    | true => exact ⟨g, F', env', Q, R', q, fun v H2 F2 env2 m2 R2 q => k v H2 F2 env2 (m.trans m2) R2 q⟩
    | false => exact k false H' F' env' m R' q⟩
theorem or_red {g : Gh} {F H : Hp} {env : Env} {σ : L2.St} {Q : Bool → Env → Prop} {Qb : Bool → Hp → Prop} (Rp : Rep X.K io g env σ F H) (w : wpE Φ (.or a b) env (fun r env' => isT r env' fun b => Q b env'))
    (k : ∀ b H' F' env', Same F F' → Rep X.K io g env' σ F' H' → Q b env' → Qb b H') : tOr (tT X.K Φ io a) (tT X.K Φ io b) σ H Qb :=
  ⟨g, F, env, _, Rp, w, fun t H' F' env' m R' q => by
    cases t with
    | false => exact ⟨g, F', env', Q, R', q, fun v H2 F2 env2 m2 R2 q => k v H2 F2 env2 (m.trans m2) R2 q⟩
    | true => exact k true H' F' env' m R' q⟩
theorem PW.weak {t t' : TT} (h : PW X e t) (w : ∀ σ H Q, t' σ H Q → t σ H Q) : PW X e t' := ⟨fun wh pins s σ H Q I q => h.run wh pins s σ H Q I (w _ _ _ q)⟩
theorem w_and {xs : List Expr} (ha : PT X e1 (tT X.K Φ io a)) (hb : PW X (.BoolOp .And (e2 :: xs) pos) (tT X.K Φ io b)) : PW X (.BoolOp .And (e1 :: e2 :: xs) pos) (tT X.K Φ io (.and a b)) :=
  PW.weak (pw_and ha hb) fun σ H Q ⟨g, F, env, Q', Rp, w, k⟩ => and_red Rp w k
theorem w_or {xs : List Expr} (ha : PT X e1 (tT X.K Φ io a)) (hb : PW X (.BoolOp .Or (e2 :: xs) pos) (tT X.K Φ io b)) : PW X (.BoolOp .Or (e1 :: e2 :: xs) pos) (tT X.K Φ io (.or a b)) :=
  PW.weak (pw_or ha hb) fun σ H Q ⟨g, F, env, Q', Rp, w, k⟩ => or_red Rp w k

/-! ### subscripts, slices -/
theorem e_idx (hu : X.A.units + 66 < cLine) (ha : PE X e1 (tE X.K Φ io a)) (hb : PE X e2 (tE X.K Φ io b)) (n : notSlice e2 = true) : PE X (.Subscript e1 e2 pos) (tE X.K Φ io (.idx a b)) :=
  PE.weak (pe_ix (idxR hu) ha hb (plainIx n)) fun σ H Q ⟨g, F, env, Q', Rp, w, k⟩ => op_ok (D := qV idxD) (Q := Q') (fun x y Q Q' h q => by
    unfold qV idxD at q ⊢
    split at q
    · obtain ⟨v, e, q⟩ := q; exact ⟨v, e, h _ q⟩
    · obtain ⟨v, e, q⟩ := q; exact ⟨v, e, h _ q⟩
    · obtain ⟨z, v, e, q⟩ := q; exact ⟨z, v, e, h _ q⟩
    · exact q) Rp w k
theorem slc_fin {g : Gh} {F H : Hp} {env : Env} {σ : L2.St} {Q : R → Env → Prop} {Qv : V → Hp → Prop} {v : V} {d : PyData} {lo hi : Option Int} (Rp : Rep X.K io g env σ F H) (w : View X.K F H v d) (q : slcD d lo hi fun r => Q r env)
    (k : ∀ v H' F' r env', Same F F' → Rep X.K io g env' σ F' H' → RDen X.K g F' H' σ env' v r → Q r env' → Qv v H') : rSl X.K v lo hi H Qv :=
  ⟨F, d, Rp.sub, w, slcD_mono (fun r hr v H2 o => by
    obtain ⟨F2, m, R2, dn⟩ := out_ok Rp o
    exact k v H2 F2 r env m R2 dn hr) q⟩
theorem e_slo (ha : PE X e1 (tE X.K Φ io a)) (hb : PE X e2 (tE X.K Φ io b)) : PE X (.Subscript e1 (.Slice (some e2) none none p2) pos) (tE X.K Φ io (.slo a b)) :=
  PE.weak (pe_slice slcR ha (po_some hb) po_none) fun σ H Q ⟨g, F, env, Q', Rp, w, k⟩ => two_ (Qv := fun v1 v2 H2 => ∃ i, v2 = .int i ∧ rSl X.K v1 (some i) none H2 Q) Rp w fun v1 v2 H1 F1 r1 r2 env1 m1 R1 s1 s2 q => by
    obtain ⟨d1, w1, q⟩ := pk_view R1 s1 q
    obtain ⟨d2, w2, q⟩ := pk_view R1 s2 q
    cases d2 <;> first | exact q.elim | skip
    cases w2
    exact ⟨_, rfl, slc_fin R1 w1 q fun v H2 F2 r env2 m2 R2 d q => k v H2 F2 r env2 (m1.trans m2) R2 d q⟩
theorem e_shi (ha : PE X e1 (tE X.K Φ io a)) (hb : PE X e2 (tE X.K Φ io b)) : PE X (.Subscript e1 (.Slice none (some e2) none p2) pos) (tE X.K Φ io (.shi a b)) :=
  PE.weak (pe_slice slcR ha po_none (po_some hb)) fun σ H Q ⟨g, F, env, Q', Rp, w, k⟩ => two_ (Qv := fun v1 v2 H2 => ∃ i, v2 = .int i ∧ rSl X.K v1 none (some i) H2 Q) Rp w fun v1 v2 H1 F1 r1 r2 env1 m1 R1 s1 s2 q => by
    obtain ⟨d1, w1, q⟩ := pk_view R1 s1 q
    obtain ⟨d2, w2, q⟩ := pk_view R1 s2 q
    cases d2 <;> first | exact q.elim | skip
    cases w2
    exact ⟨_, rfl, slc_fin R1 w1 q fun v H2 F2 r env2 m2 R2 d q => k v H2 F2 r env2 (m1.trans m2) R2 d q⟩
theorem e_slh (ha : PE X e1 (tE X.K Φ io a)) (hb : PE X e2 (tE X.K Φ io b)) (hc : PE X e3 (tE X.K Φ io c)) : PE X (.Subscript e1 (.Slice (some e2) (some e3) none p2) pos) (tE X.K Φ io (.slh a b c)) :=
  PE.weak (pe_slice slcR ha (po_some hb) (po_some hc)) fun σ H Q ⟨g, F, env, Q', Rp, w, k⟩ => two_ (Qv := fun v1 v2 H2 => ∃ i, v2 = .int i ∧ tE X.K Φ io c σ H2 fun v3 H3 => ∃ j, v3 = .int j ∧ rSl X.K v1 (some i) (some j) H3 Q) Rp w fun v1 v2 H1 F1 r1 r2 env1 m1 R1 s1 s2 q => by
    obtain ⟨d2, w2, q⟩ := pk_view R1 s2 q
    cases d2 <;> first | exact q.elim | skip
    cases w2
    refine ⟨_, rfl, one_ R1 q fun v3 H3 F3 r3 env3 m3 R3 s3 q => ?_⟩
    obtain ⟨d3, w3, q⟩ := pk_view R3 s3 q
    cases d3 <;> first | exact q.elim | skip
    cases w3
    obtain ⟨d1, w1, q⟩ := pk_view R3 (s1.mono m3) q
    exact ⟨_, rfl, slc_fin R3 w1 q fun v H2 F2 r env2 m2 R2 d q => k v H2 F2 r env2 ((m1.trans m3).trans m2) R2 d q⟩
end
end Co

set_option linter.all false
/-! Co10: the context; calls of defs, of built-ins. -/
namespace Co
open PySem PySem.Spec PyProof.Rows L2

def bltNames : List String := ["len", "repr", "sorted", "tuple", "list", "min", "max", "sum", "all", "any", "int", "isinstance", "range", "enumerate", "zip", "set", "bool", "str", "dict"]
def gl (sc : Scope) (x : Str) : Bool := match sc.names.lookup x with
  | some .globalImplicit => true
  | _ => false
/-- what holds wherever a def of the program runs -/
structure Ctx (X : Cx) (L : List (String × List Bool)) (Φ : Tbl) (fb : Str → Bool) : Prop where
  xe : X.xe = fun _ _ => False
  kind : X.env.scope.kind = .function
  fn : ∀ x, fb x = true → X.fn x = true
  nd : X.N.Nodup
  calm : X.calm = true
  hu : X.A.units + 100 < cLine
  gd : X.A.guards = some []
  sys : Sys X
  blt : ∀ x ∈ bltNames, X.mg (Str.ofString x) = none
  fns : ∀ p ∈ L, p.2.length < 100 → ∃ k a fd ps, X.mg (Str.ofString p.1) = some (.ref a) ∧ PySem.W.keepIn X.K (.ref a) = true ∧ Binds X.K fd ps [] ∧ FnG X.prog X.w X.K X.mg X.base k a fd ps (spOf X.K p.2 (Φ p.1)) ∧ Room k X.A
  cst : ∀ p ∈ L, 100 ≤ p.2.length → ∃ u, X.mg (Str.ofString p.1) = some u ∧ RelV (.int ((p.2.length - 100 : Nat) : Int)) u

theorem View.grow {K : Frag} {F H H' : Hp} (m : Same H H') {v : V} {d : PyData} (h : View K F H v d) : View K F H' v d := by
  cases d with
  | list ds => obtain ⟨a, xs, e, q, t⟩ := h; exact ⟨a, xs, e, m.seq q, t⟩
  | dict kvs => obtain ⟨a, kv, ds, e, q, t⟩ := h; exact ⟨a, kv, ds, e, m _ _ q, t⟩
  | tuple ds => exact h
  | _ => exact h
theorem star_any {pos : Pos} {env : PySem.Env} : ∀ {es : List Expr}, es.all notStar = true → (backTo pos (starEach es env)).any (·.1) = false
  | [], _ => rfl
  | e :: es, h => by
    rw [List.all_cons, Bool.and_eq_true] at h
    rw [star_cons h.1]
    show (false || (backTo pos (starEach es env)).any (·.1)) = false
    rw [star_any h.2]; rfl
theorem star_all {pos : Pos} {env : PySem.Env} : ∀ {es : List Expr}, es.all notStar = true → (backTo pos (starEach es env)).all (fun x => !x.1) = true
  | [], _ => rfl
  | e :: es, h => by
    rw [List.all_cons, Bool.and_eq_true] at h
    rw [star_cons h.1]
    show (true && (backTo pos (starEach es env)).all (fun x => !x.1)) = true
    rw [star_all h.2]; rfl

section
variable {X : Cx} {L : List (String × List Bool)} {Φ : Tbl} {fb : Str → Bool} {io : List Nat} {e e1 e2 e3 : Expr} {es : List Expr} {a b c : E} {cs : Es} {pos p p2 : Pos}
theorem gl_ok {x : Str} (h : gl X.env.scope x = true) : Gl X x := by
  unfold gl at h
  unfold Gl PySem.Env.kindOf
  split at h
  · assumption
  · cases h

theorem e_call {f : String} {sig : List Bool} {x : Str} (C : Ctx X L Φ fb) (hf : (f, sig) ∈ L) (hs : sig.length < 100) (hx : x = Str.ofString f) (hg : gl X.env.scope x = true) (hd : (x == ("__debug__" : Str)) = false) (ns : (e :: es).all notStar = true)
    (ha : PA X (e :: es) (tA X.K Φ io cs)) : PE X (.Call (.Name x p) (e :: es) [] pos) (tE X.K Φ io (.call f sig cs)) := by
  obtain ⟨k, fa, fd, ps, h1, h2, h3, h4, h5⟩ := C.fns _ hf hs
  subst hx
  have ns' := ns
  rw [List.all_cons, Bool.and_eq_true] at ns'
  refine PE.weak (pe_callG h4 h5 C.gd (gl_ok hg) h1 h2 h3 ha hd (star_cons ns'.1 es X.env) (star_any ns'.2)) fun σ H Q ⟨g, F, env, Q', Rp, w, kk⟩ => ⟨g, F, env, _, Rp, w, fun vs H1 F1 rs env1 l m1 R1 s1 st q1 => ?_⟩
  exact call_ok R1 s1 st q1 fun v H2 F2 r env2 m2 R2 d q => kk v H2 F2 r env2 (m1.trans m2) R2 d q

/-- a module's constant: a whole number -/
theorem e_glb {f : String} {n : Nat} {x : Str} (C : Ctx X L Φ fb) (hf : (f, List.replicate (100 + n) false) ∈ L) (hx : x = Str.ofString f) (hg : gl X.env.scope x = true) (hd : (x == ("__debug__" : Str)) = false) : PE X (.Name x pos) (tE X.K Φ io (.glb f n)) := by
  obtain ⟨u, h1, h2⟩ := C.cst _ hf (by simp)
  have e : ((f, List.replicate (100 + n) false).2.length - 100 : Nat) = n := by simp
  rw [e] at h2
  subst hx
  exact PE.weak (pe_glob (gl_ok hg) h1 h2 hd) fun σ H Q ⟨g, F, env, Q', Rp, w, kk⟩ => kk (.int (n : Int)) H F (.val (.int (n : Int))) env (Same.refl F) Rp (Den.int _) w
/-! ### built-in functions of one and two arguments -/
theorem b1_callR (C : Ctx X L Φ fb) : ∀ f : B1, f ≠ .lenset → f ≠ .sortset → CallR X (b1Val f) (rC1 X.K (b1D f))
  | .len, _, _ => lenR
  | .repr, _, _ => reprR C.sys (Nat.lt_of_le_of_lt (by omega) C.hu) C.gd
  | .sorted, _, _ => sortedR C.calm (Nat.lt_of_le_of_lt (by omega) C.hu)
  | .tuple, _, _ => tupleR
  | .list, _, _ => listR C.calm
  | .min, _, _ => minR C.calm
  | .sum, _, _ => sumR C.calm
  | .all, _, _ => allR C.calm
  | .any, _, _ => anyR C.calm
  | .int, _, _ => intR
  | .lenset, h, _ => absurd rfl h
  | .sortset, _, h => absurd rfl h
theorem pa_one (ha : PE X e (tE X.K Φ io a)) (n : notStar e = true) : PA X [e] (tCons (tE X.K Φ io a) tNil) := pa_cons ha pa_nil (star_cons n [] X.env)
theorem pa_two (ha : PE X e1 (tE X.K Φ io a)) (hb : PE X e2 (tE X.K Φ io b)) (n : notStar e1 = true) (n2 : notStar e2 = true) : PA X [e1, e2] (tCons (tE X.K Φ io a) (tCons (tE X.K Φ io b) tNil)) :=
  pa_cons ha (pa_one hb n2) (star_cons n [e2] X.env)
theorem one_any (n : notStar e = true) : (backTo pos (starEach [e] X.env)).any (·.1) = false := star_any (by simp [n])
theorem e_b1 {f : B1} (C : Ctx X L Φ fb) (hf : f ≠ .lenset) (hf2 : f ≠ .sortset) (hg : gl X.env.scope (Str.ofString (b1Name f)) = true) (ha : PE X e (tE X.K Φ io a)) (n : notStar e = true) :
    PE X (.Call (.Name (Str.ofString (b1Name f)) p) [e] [] pos) (tE X.K Φ io (.b1 f a)) := by
  have hc := b1_callR C f hf hf2
  have fin : ∀ σ H Q, tE X.K Φ io (.b1 f a) σ H Q → tCB (rC1 X.K (b1D f)) (tCons (tE X.K Φ io a) tNil) σ H Q := fun σ H Q ⟨g, F, env, Q', Rp, w, k⟩ => by
    obtain ⟨g', F', env', P, q1, q2, q3⟩ := un_ok (b1D_mono f) Rp w k
    exact ⟨g', F', env', P, q1, q2, fun v H' F' r env' m R' d q => ⟨v, rfl, q3 v H' F' r env' m R' d q⟩⟩
  cases f with
  | lenset => exact absurd rfl hf
  | sortset => exact absurd rfl hf2
  | len => exact PE.weak (pe_callB hc (gl_ok hg) (C.blt "len" (by decide)) boot_len (pa_one ha n) (by decide) (by decide) (star_cons n [] X.env)) fin
  | repr => exact PE.weak (pe_callB hc (gl_ok hg) (C.blt "repr" (by decide)) boot_repr (pa_one ha n) (by decide) (by decide) (star_cons n [] X.env)) fin
  | sorted => exact PE.weak (pe_callB hc (gl_ok hg) (C.blt "sorted" (by decide)) boot_sorted (pa_one ha n) (by decide) (by decide) (star_cons n [] X.env)) fin
  | tuple => exact PE.weak (pe_callTy hc (gl_ok hg) (C.blt "tuple" (by decide)) boot_tuple (pa_one ha n) (by decide) (by decide) (star_cons n [] X.env)) fin
  | list => exact PE.weak (pe_callTy hc (gl_ok hg) (C.blt "list" (by decide)) boot_list (pa_one ha n) (by decide) (by decide) (star_cons n [] X.env)) fin
  | min => exact PE.weak (pe_callB hc (gl_ok hg) (C.blt "min" (by decide)) boot_min (pa_one ha n) (by decide) (by decide) (star_cons n [] X.env)) fin
  | sum => exact PE.weak (pe_callB hc (gl_ok hg) (C.blt "sum" (by decide)) boot_sum (pa_one ha n) (by decide) (by decide) (star_cons n [] X.env)) fin
  | all => exact PE.weak (pe_callB hc (gl_ok hg) (C.blt "all" (by decide)) boot_all (pa_one ha n) (by decide) (by decide) (star_cons n [] X.env)) fin
  | any => exact PE.weak (pe_callB hc (gl_ok hg) (C.blt "any" (by decide)) boot_any (pa_one ha n) (by decide) (by decide) (star_cons n [] X.env)) fin
  | int => exact PE.weak (pe_callTy hc (gl_ok hg) (C.blt "int" (by decide)) boot_int (pa_one ha n) (by decide) (by decide) (star_cons n [] X.env)) fin
def b2Name : B2 → String
  | .max => "max" | .min => "min"
theorem e_b2 {f : B2} (C : Ctx X L Φ fb) (hg : gl X.env.scope (Str.ofString (b2Name f)) = true) (ha : PE X e1 (tE X.K Φ io a)) (hb : PE X e2 (tE X.K Φ io b)) (n : notStar e1 = true) (n2 : notStar e2 = true) :
    PE X (.Call (.Name (Str.ofString (b2Name f)) p) [e1, e2] [] pos) (tE X.K Φ io (.b2 f a b)) := by
  have fin : ∀ σ H Q, tE X.K Φ io (.b2 f a b) σ H Q → tCB (rC2 X.K (b2D f)) (tCons (tE X.K Φ io a) (tCons (tE X.K Φ io b) tNil)) σ H Q := fun σ H Q ⟨g, F, env, Q', Rp, w, k⟩ => by
    refine two_ (Qv := fun v1 v2 H2 => rC2 X.K (b2D f) [v1, v2] H2 Q) Rp w fun v1 v2 H' F' r1 r2 env' m R' s1 s2 q => ?_
    obtain ⟨d1, w1, q⟩ := pk_view R' s1 q
    obtain ⟨d2, w2, q⟩ := pk_view R' s2 q
    refine ⟨v1, v2, rfl, F', d1, d2, R'.sub, w1, w2, b2D_mono f _ _ _ _ (fun r hr v H2 o => ?_) q⟩
    obtain ⟨F2, m2, R2, dn⟩ := out_ok R' o
    exact k v H2 F2 r env' (m.trans m2) R2 dn hr
  have hs := star_cons n [e2] X.env
  cases f with
  | max => exact PE.weak (pe_callB (b2R .max C.calm) (gl_ok hg) (C.blt "max" (by decide)) boot_max (pa_two ha hb n n2) (by decide) (by decide) hs (one_any n2)) fin
  | min => exact PE.weak (pe_callB (b2R .min C.calm) (gl_ok hg) (C.blt "min" (by decide)) boot_min (pa_two ha hb n n2) (by decide) (by decide) hs (one_any n2)) fin

/-! ### isinstance -/
theorem boot_ty (t : Ty) : bootBuiltins (Str.ofString (tyS t)) = some (.type (tyS t)) := by cases t <;> decide +kernel
theorem ty_in (t : Ty) : tyS t ∈ bltNames := by cases t <;> decide
theorem pe_tyN (C : Ctx X L Φ fb) {t : Ty} (hg : gl X.env.scope (Str.ofString (tyS t)) = true) : PE X (.Name (Str.ofString (tyS t)) p) (tC (.ty (tyS t))) :=
  pe_bltn (gl_ok hg) (C.blt _ (ty_in t)) (boot_ty t) rfl (by cases t <;> decide) (by cases t <;> decide)
/-- the names of classes -/
def mTys (sc : Scope) : List Ty → List Expr → Bool
  | [], [] => true
  | t :: ts, .Name x _ :: es => decide (x = Str.ofString (tyS t)) && gl sc x && mTys sc ts es
  | _, _ => false
theorem pa_tys (C : Ctx X L Φ fb) : ∀ {ts : List Ty} {es : List Expr}, mTys X.env.scope ts es = true → PA X es fun σ H Qs => Qs (ts.map fun t => V.ty (tyS t)) H
  | [], [], _ => PA.weak pa_nil fun _ _ _ q => q
  | [], e :: es, h => by simp [mTys] at h
  | t :: ts, [], h => by simp [mTys] at h
  | t :: ts, e :: es, h => by
    cases e <;> simp [mTys] at h
    obtain ⟨⟨rfl, h1⟩, h2⟩ := h
    exact PA.weak (pa_cons (pe_tyN C h1) (pa_tys C h2) rfl) fun _ _ _ q => q
theorem e_isi1 (C : Ctx X L Φ fb) {t : Ty} (hi : gl X.env.scope ("isinstance" : Str) = true) (hg : gl X.env.scope (Str.ofString (tyS t)) = true) (ha : PE X e (tE X.K Φ io a)) (n : notStar e = true) :
    PE X (.Call (.Name "isinstance" p) [e, .Name (Str.ofString (tyS t)) p2] [] pos) (tE X.K Φ io (.isi a [t])) :=
  PE.weak (pe_callB (isiR [t] t rfl) (gl_ok hi) (C.blt "isinstance" (by decide)) boot_isinstance (pa_cons ha (pa_cons (pe_tyN C hg) pa_nil rfl) (star_cons n _ X.env)) (by decide) (by decide) (star_cons n _ X.env) rfl) fun σ H Q ⟨g, F, env, Q', Rp, w, k⟩ =>
    one_ Rp w fun v H' F' r env' m R' s q => by
      obtain ⟨d, vw, q⟩ := pk_view R' s q
      exact ⟨v, F', d, rfl, R'.sub, vw, k _ H' F' (.val (.bool _)) env' m R' (Den.bl _) q⟩
theorem e_isi (C : Ctx X L Φ fb) {ts : List Ty} {n' : Nat} (hi : gl X.env.scope ("isinstance" : Str) = true) (hg : mTys X.env.scope ts es = true) (hl : ts.length ≤ 1000) (ha : PE X e (tE X.K Φ io a)) (n : notStar e = true) :
    PE X (.Call (.Name "isinstance" p) [e, .Tuple es n' p2] [] pos) (tE X.K Φ io (.isi a ts)) :=
  PE.weak (pe_callB (isiTR ts) (gl_ok hi) (C.blt "isinstance" (by decide)) boot_isinstance (pa_cons ha (pa_cons (pe_tup (pa_tys C hg)) pa_nil rfl) (star_cons n _ X.env)) (by decide) (by decide) (star_cons n _ X.env) rfl) fun σ H Q ⟨g, F, env, Q', Rp, w, k⟩ =>
    one_ Rp w fun v H' F' r env' m R' s q => by
      obtain ⟨d, vw, q⟩ := pk_view R' s q
      refine ⟨by rw [List.length_map, sizeLine_eq]; omega, fun tp htp => ?_⟩
      have R2 := R'.lay (o := .tup (ts.map fun t => V.ty (tyS t))) htp
      exact ⟨v, F', d, tp, rfl, upd_same, R2.sub, vw.grow (same_add htp), k _ _ F' (.val (.bool _)) env' m R2 (Den.bl _) q⟩
end
end Co

set_option linter.all false
/-! Co24: len(set(t)), sorted(set(t)), t a tuple of ints. -/
namespace Co
open PySem PySem.Spec PyProof.Rows L2
section
variable {X : Cx} {L : List (String × List Bool)} {Φ : Tbl} {fb : Str → Bool} {io : List Nat} {e : Expr} {a : E} {pos p p2 q : Pos}
def tSetLen (K : Frag) (te : TE) : TE := fun σ H Q => te σ H fun x H1 => ∃ (l : Addr) (ns : List Int), x = .ref l ∧ SqT K H1 l (ns.map V.int) ∧ ns.length ≤ 4000 ∧ ∀ ks : List Int, ks.Nodup → (∀ k, k ∈ ks ↔ k ∈ ns) → Q (.int (ks.length : Nat)) H1
def tSetSort (K : Frag) (te : TE) : TE := fun σ H Q => te σ H fun x H1 => ∃ (l : Addr) (ns : List Int), x = .ref l ∧ SqT K H1 l (ns.map V.int) ∧ ns.length ≤ 63 ∧ ∀ (ms : List Int) (p : Addr), ms.Pairwise (· < ·) → (∀ k, k ∈ ms ↔ k ∈ ns) → H1 p = none → Q (.ref p) (upd H1 p (.lst (ms.map V.int)))
theorem pe_setLen {ta : TE} (hc : X.calm = true) (hg : Gl X "len") (hm : X.mg "len" = none) (hg2 : Gl X "set") (hm2 : X.mg "set" = none) (ha : PE X e ta)
    (na : starEach [e] X.env = (false, eval e X.env) :: starEach [] X.env) : PE X (.Call (.Name "len" p) [.Call (.Name "set" p2) [e] [] q] [] pos) (tSetLen X.K ta) := by
  refine ⟨fun pins s σ H Q I h => ?_⟩
  refine Call_ (ld_blt I hg hm boot_len ?_)
  refine PyProof.Rows.callWith_builtin1 (PyProof.Rows.args_cons ?_ rfl) rfl rfl
  refine Call_ (ld_blt I hg2 hm2 PyProof.Rows.boot_set ?_)
  refine PyProof.Rows.callWith_type1 (PyProof.Rows.args_cons (thn (ha.run pins s σ H _ I h) fun v s1 ⟨x, H1, I1, r1, q1⟩ => PyProof.Rows.args_nil ?_) na) na rfl
  obtain ⟨l, ns, rfl, hq, hl, q1⟩ := q1
  cases r1
  obtain ⟨its, r, pl, hz⟩ := I1.tuple hq
  refine call_set_tupI ns (I1.ok.hd hc) (show s1.heap.IsTuple l its.toArray from pl) (ints_of_vals (by simpa using r)) (by unfold scanBound; omega) fun h' tk c R hcn k => ?_
  refine PyProof.Rows.args_nil ?_
  obtain ⟨o, es, ep, t, ho, hex, hd, g, nd, hm3, hb, hf, hn, hr, hl2⟩ := R
  have I2 : Inv X pins σ H1 { s1 with heap := h', toks := tk } := I1.kept k
  have e2 : ((es.toList.map keyOf).length : Nat) = c := by rw [List.length_map, Array.length_toList, hn]
  refine call_len_set ho hex hd hf (by rw [hn]; omega) ⟨.int ((es.toList.map keyOf).length : Nat), H1, I2.tok _, ⟨_, by rw [e2, hn]⟩, q1 _ nd fun k => ?_⟩
  rw [← hm3 k, decide_eq_true_eq]
theorem sorted_of {pins : List (Addr × Obj)} {σ : L2.St} {H : Hp} {s : Shared} {a : Addr} {S : Int → Bool} {n : Nat} {Q : VK} (hc : X.calm = true) (I : Inv X pins σ H s) (R : SetR X.w s.heap a S n) (h64 : n < 64)
    (q : ∀ (ns : List Int) (p : Addr), ns.Pairwise (· < ·) → (∀ k : Int, k ∈ ns ↔ S k = true) → H p = none → Q (.ref p) (upd H p (.lst (ns.map V.int)))) :
    wpAny (model X.prog X.w) X.A (call (.builtin "sorted") [.ref a]) (EP X pins σ Q) X.xe s := by
  refine sorted_set R (I.ok.hd hc) h64 fun s' p out c ns k g o hp hg hi hs hm hl => ?_
  have hlen : (ns.map V.int).length ≤ sizeLine := by rw [List.length_map, hl, sizeLine_eq]; omega
  have hn : H p = none := I.hok.fresh hp
  have J : Inv X pins σ (upd H p (.lst (ns.map V.int))) { s with heap := s'.heap, gens := s'.gens, drawn := s'.drawn, toks := s'.toks } :=
    I.call (ch := []) (Un.laid k hp hn) (I.hok.laid k hp ⟨hlen, out.toList, c, vals_of_ints hi, hg⟩) (by rw [g]; exact I.bare) (fun _ z => nomatch z)
  have e : s' = { s with heap := s'.heap, gens := s'.gens, drawn := s'.drawn, toks := s'.toks } := by
    cases s'
    cases s
    cases o
    rfl
  rw [e]
  exact ⟨.ref p, _, J, rfl, q ns p hs hm hn⟩
theorem pe_setSort {ta : TE} (hc : X.calm = true) (hg : Gl X "sorted") (hm : X.mg "sorted" = none) (hg2 : Gl X "set") (hm2 : X.mg "set" = none) (ha : PE X e ta)
    (na : starEach [e] X.env = (false, eval e X.env) :: starEach [] X.env) : PE X (.Call (.Name "sorted" p) [.Call (.Name "set" p2) [e] [] q] [] pos) (tSetSort X.K ta) := by
  refine ⟨fun pins s σ H Q I h => ?_⟩
  refine Call_ (ld_blt I hg hm boot_sorted ?_)
  refine PyProof.Rows.callWith_builtin1 (PyProof.Rows.args_cons ?_ rfl) rfl rfl
  refine Call_ (ld_blt I hg2 hm2 PyProof.Rows.boot_set ?_)
  refine PyProof.Rows.callWith_type1 (PyProof.Rows.args_cons (thn (ha.run pins s σ H _ I h) fun v s1 ⟨x, H1, I1, r1, q1⟩ => PyProof.Rows.args_nil ?_) na) na rfl
  obtain ⟨l, ns, rfl, hq, hl, q1⟩ := q1
  cases r1
  obtain ⟨its, r, pl, hz⟩ := I1.tuple hq
  refine call_set_tupI ns (I1.ok.hd hc) (show s1.heap.IsTuple l its.toArray from pl) (ints_of_vals (by simpa using r)) (by unfold scanBound; omega) fun h' tk c R hcn k => ?_
  refine PyProof.Rows.args_nil ?_
  have I2 : Inv X pins σ H1 { s1 with heap := h', toks := tk } := I1.kept k
  refine sorted_of hc I2 R (by omega) fun ms p h1 h2 h3 => q1 ms p h1 (fun k => ?_) h3
  rw [h2 k, decide_eq_true_eq]
theorem e_lenset (C : Ctx X L Φ fb) (hg : gl X.env.scope ("len" : Str) = true) (hg2 : gl X.env.scope ("set" : Str) = true) (ha : PE X e (tE X.K Φ io a)) (n : notStar e = true) :
    PE X (.Call (.Name "len" p) [.Call (.Name "set" p2) [e] [] q] [] pos) (tE X.K Φ io (.b1 .lenset a)) :=
  PE.weak (pe_setLen C.calm (gl_ok hg) (C.blt "len" (by decide)) (gl_ok hg2) (C.blt "set" (by decide)) ha (star_cons n [] X.env)) fun σ H Q ⟨g, F, env, Q', Rp, w, k⟩ =>
    one_ Rp w fun v H' F' r env' m R' s q => by
      obtain ⟨d, vw, q⟩ := pk_view R' s q
      unfold b1D at q
      cases d <;> simp only at q <;> first | exact q.elim | skip
      obtain ⟨a, xs, rfl, h, t⟩ := vw
      obtain ⟨ns, e, l, q⟩ := q
      have ex := ints_den e t
      subst ex
      refine ⟨a, ns, rfl, same_sqT R'.sub h, l, fun ks h1 h2 => ?_⟩
      obtain ⟨F2, m2, R2, dn⟩ := out_ok R' (Out.int (i := ((ks.length : Nat) : Int)))
      exact k _ _ F2 _ env' (m.trans m2) R2 dn (q ks h1 h2)
theorem e_sortset (C : Ctx X L Φ fb) (hg : gl X.env.scope ("sorted" : Str) = true) (hg2 : gl X.env.scope ("set" : Str) = true) (ha : PE X e (tE X.K Φ io a)) (n : notStar e = true) :
    PE X (.Call (.Name "sorted" p) [.Call (.Name "set" p2) [e] [] q] [] pos) (tE X.K Φ io (.b1 .sortset a)) :=
  PE.weak (pe_setSort C.calm (gl_ok hg) (C.blt "sorted" (by decide)) (gl_ok hg2) (C.blt "set" (by decide)) ha (star_cons n [] X.env)) fun σ H Q ⟨g, F, env, Q', Rp, w, k⟩ =>
    one_ Rp w fun v H' F' r env' m R' s q => by
      obtain ⟨d, vw, q⟩ := pk_view R' s q
      unfold b1D at q
      cases d <;> simp only at q <;> first | exact q.elim | skip
      obtain ⟨a, xs, rfl, h, t⟩ := vw
      obtain ⟨ns, e, l, q⟩ := q
      have ex := ints_den e t
      subst ex
      refine ⟨a, ns, rfl, same_sqT R'.sub h, l, fun ms p h1 h2 h3 => ?_⟩
      obtain ⟨F2, m2, R2, dn⟩ := out_ok R' (.own (d := .list (ms.map .int)) h3 ⟨_, upd_same, DenAll.of_ints _⟩)
      exact k _ _ F2 _ env' (m.trans m2) R2 dn (q ms h1 h2)
end
end Co

set_option linter.all false
/-! Co11: methods of lists and dicts, reversed slices. -/
namespace Co
open PySem PySem.Spec PyProof.Rows L2

section
variable {K : Frag} {F F' H H' : Hp} {io : List Nat} {g : Gh} {env : Env} {σ : L2.St}
theorem Rep.setC {i : Nat} {d0 d : PyData} {p : Addr} {o : HO} (R : Rep K io g env σ F H) (h : slC (slot env i) = some d0) (hp : σ[i]? = some (some (.ref p))) (ho : OwnAt K F (upd H p o) p d) : Rep K io g (setC env i d) σ F (upd H p o) := by
  obtain ⟨p', a, b, c, t, z⟩ := R.mine h
  rw [hp] at a; cases a
  have key : ∀ {j s}, slot (Co.setC env i d) j = some s → (i = j ∧ ((∃ e, slot env i = some (.io e)) ∧ s = .io d ∨ (∃ e, slot env i = some (.own e)) ∧ s = .own d)) ∨ (i ≠ j ∧ slot env j = some s) := fun {j s} q => by
    rw [slot_setC h] at q
    by_cases e : i = j
    · rw [if_pos e] at q
      rcases slC_some h with hs | hs
      · rw [hs] at q; cases q; exact .inl ⟨e, .inr ⟨⟨_, hs⟩, rfl⟩⟩
      · rw [hs] at q; cases q; exact .inl ⟨e, .inl ⟨⟨_, hs⟩, rfl⟩⟩
    · rw [if_neg e] at q; exact .inr ⟨e, q⟩
  refine R.change b z setC_length (fun j e q => ?_) (fun j e q => ?_) (fun j e q => ?_) (fun j hj => ?_) t
  · rcases key q with ⟨_, ⟨_, w⟩ | ⟨_, w⟩⟩ | ⟨_, w⟩
    · cases w
    · cases w
    · exact w
  · rcases key q with ⟨rfl, ⟨_, w⟩ | ⟨⟨e', w'⟩, w⟩⟩ | ⟨n, w⟩
    · cases w
    · cases w; exact .inr ⟨⟨_, w'⟩, hp, ho⟩
    · exact .inl ⟨w, fun y => n (R.apart h (by rw [w]; rfl) hp y)⟩
  · rcases key q with ⟨rfl, ⟨⟨e', w'⟩, w⟩ | ⟨_, w⟩⟩ | ⟨n, w⟩
    · cases w
      obtain ⟨p', x, _⟩ := R.ios i e' w'
      have x' := (R.ins _ x).1
      rw [hp] at x'; cases x'
      exact .inr ⟨x, ho⟩
    · cases w
    · exact .inl ⟨w, fun y => n (R.apart h (by rw [w]; rfl) hp (R.ins _ y).1)⟩
  · have : ∃ e, slot env j = some (.io e) := by
      rw [← R.insI] at hj
      obtain ⟨w, hw, rfl⟩ := List.mem_map.mp hj
      exact (R.ins w hw).2.1
    obtain ⟨e, he⟩ := this
    by_cases e' : i = j
    · subst e'
      exact ⟨d, by rw [slot_setC h, if_pos rfl, he]⟩
    · exact ⟨e, by rw [slot_setC h, if_neg e']; exact he⟩
theorem isLst_some {s : Option PyData} (h : isLst s = true) : ∃ ds, s = some (.list ds) := by
  unfold isLst at h
  split at h
  · exact ⟨_, rfl⟩
  · cases h
end

section
variable {X : Cx} {L : List (String × List Bool)} {Φ : Tbl} {fb : Str → Bool} {io : List Nat} {e e1 e2 e3 : Expr} {es : List Expr} {a b c : E} {cs : Es} {pos p p2 apos cpos : Pos} {i : Nat} {x : Str}
theorem pe_name (h : mVis X.N X.env.scope i x = true) : PE X (.Name x pos) (tVar i) :=
  let ⟨h1, h2, h3, h4⟩ := mVis_ok h
  pe_var h1 h2 h3 h4
theorem few1 (n : notStar e = true) : ((backTo cpos (starEach [e] X.env)).all (fun x => !x.1) && (backToKw cpos (keywordEach [] X.env)).all (fun x => x.1.isSome)
      && decide (([e] : List Expr).length + ([] : List Keyword).length + (if ([] : List Keyword).isEmpty then 0 else 1) < 30)) = true := by
  rw [star_all (by simp [n])]; rfl
theorem e_append (hv : mVis X.N X.env.scope i x = true) (ha : PE X e (tE X.K Φ io a)) (n : notStar e = true) (hl : (apos.endLine == cpos.line) = true) :
    PE X (.Call (.Attribute (.Name x p) "append" apos) [e] [] cpos) (tE X.K Φ io (.append i a)) :=
  PE.weak (pe_bm PySem.F.plainAttrs_list PySem.F.slot_list_append PySem.F.type_list_append mt_append (pe_name hv) (pa_one ha n) rfl (few1 n) hl (star_cons n [] X.env) rfl) fun σ H Q ⟨g, F, env, Q', Rp, ⟨hi, w⟩, k⟩ => by
    obtain ⟨ds, hd⟩ := isLst_some hi
    obtain ⟨q, h1, h2, ⟨vs, h3, h4⟩, _⟩ := Rp.mine hd
    refine ⟨.ref q, h1, .inl ⟨rfl, vs, .inl (.inl h3)⟩, one_ Rp w fun v H' F' r env' m R' s q => ?_⟩
    obtain ⟨d, env2, F2, m2, R2, dn, q⟩ := asV_ok R' s q
    split at q
    case h_1 ds2 hd2 =>
      obtain ⟨q', g1, g2, ⟨vs2, g3, g4⟩, _⟩ := R2.mine hd2
      rw [h1] at g1; cases g1
      refine ⟨_, vs2, v, rfl, rfl, g3, ?_, ?_⟩
      · rw [g4.length]; have := q.1; rw [sizeLine_eq]; exact this
      · exact k _ _ F2 (.val .none) _ (m.trans m2) (R2.setC (d := .list (ds2 ++ [d])) hd2 h1 ⟨_, upd_same, g4.append (.cons dn .nil)⟩) Den.non q.2
    case h_2 => exact q.elim
end

/-! ### extend -/
theorem ext_list (l : Addr) (items : Array Value) (n : Nat) (b : Addr) (dd : Option Addr) (sl : Array (Option Value)) (items2 : Array Value) (n2 : Nat) (hs0 : ¬(!items.isEmpty && Builtin.List.listTooLong (items.size + items2.size)) = true) (hs1 : items.size ≤ sizeLine) (hs2 : items.size + items2.size ≤ sizeLine + 1) :
    Meets (Builtin.«list.extend» ⟨[.ref l, .ref b], []⟩) (fun _ R s => s.heap.get? l = some { cls := .type "list", dict := none, data := .seq items n, slots := #[] } ∧ s.heap.get? b = some { cls := .type "list", dict := dd, data := .seq items2 n2, slots := sl } ∧ R (.ok (.ret Value.none)) { s with heap := s.heap.update l (Obj.mapSeq fun x => x ++ items2), toks := s.toks }) :=
  .of_wp fun prog w A R s h => by
    obtain ⟨hp, g, d, tk, os⟩ := s
    obtain ⟨hl, hb, h⟩ := h
    have f1 := AutoSeq1.idx_int; have f2 := AutoSeq1.sub_tuple_tuple; have f3 := AutoSeq1.sub_list_list; have f4 := AutoSeq1.sub_tuple_list; have f5 := AutoSeq1.sub_list_tuple
    have hz' : (items ++ items2).size ≤ sizeLine + 1 := by rw [Array.size_append]; exact hs2
    wp_walk using (wpAny_updateSeq hl rfl (hz := hs1) (_hz' := hz')), AutoSeq1.wpAny_loadPart' hl, AutoSeq1.wpAny_loadPart' hb
    exact ⟨_, rfl, h⟩
theorem ext_tup (l : Addr) (items : Array Value) (n : Nat) (b : Addr) (dd : Option Addr) (sl : Array (Option Value)) (items2 : Array Value) (n2 : Nat) (hs0 : ¬(!items.isEmpty && Builtin.List.listTooLong (items.size + items2.size)) = true) (hs1 : items.size ≤ sizeLine) (hs2 : items.size + items2.size ≤ sizeLine + 1) :
    Meets (Builtin.«list.extend» ⟨[.ref l, .ref b], []⟩) (fun _ R s => s.heap.get? l = some { cls := .type "list", dict := none, data := .seq items n, slots := #[] } ∧ s.heap.get? b = some { cls := .type "tuple", dict := dd, data := .seq items2 n2, slots := sl } ∧ R (.ok (.ret Value.none)) { s with heap := s.heap.update l (Obj.mapSeq fun x => x ++ items2), toks := s.toks }) :=
  .of_wp fun prog w A R s h => by
    obtain ⟨hp, g, d, tk, os⟩ := s
    obtain ⟨hl, hb, h⟩ := h
    have f1 := AutoSeq1.idx_int; have f2 := AutoSeq1.sub_tuple_tuple; have f3 := AutoSeq1.sub_list_list; have f4 := AutoSeq1.sub_tuple_list; have f5 := AutoSeq1.sub_list_tuple
    have hz' : (items ++ items2).size ≤ sizeLine + 1 := by rw [Array.size_append]; exact hs2
    wp_walk using (wpAny_updateSeq hl rfl (hz := hs1) (_hz' := hz')), AutoSeq1.wpAny_loadPart' hl, AutoSeq1.wpAny_loadPart' hb
    exact ⟨_, rfl, h⟩

section
variable {X : Cx} {L : List (String × List Bool)} {Φ : Tbl} {fb : Str → Bool} {io : List Nat} {e e1 e2 e3 : Expr} {es : List Expr} {a b c : E} {cs : Es} {pos p p2 apos cpos : Pos} {i : Nat} {x : Str}
def rExt (K : Frag) : V → List V → Hp → VK → Prop := fun x vs H Q => ∃ l b xs zs, x = .ref l ∧ vs = [.ref b] ∧ H l = some (.lst xs) ∧ (SqL K H b zs ∨ SqT K H b zs) ∧ xs.length + zs.length ≤ sizeLine ∧ Q .non (upd H l (.lst (xs ++ zs)))
theorem mt_ext : MtM X "list.extend" (rExt X.K) := by
  intro pins s σ H x vs v us Q I rx rv h
  obtain ⟨l, b, xs, zs, rfl, rfl, hH, hB, hz, q⟩ := h
  cases rx
  obtain ⟨u, rfl, ru⟩ := rv.one
  cases ru
  obtain ⟨z, its, n, r, hl, e⟩ := I.lstM hH
  have fin : ∀ (its2 : List Value), Vals zs its2 → (its.toArray.size + its2.toArray.size ≤ sizeLine → ¬ (!its.toArray.isEmpty && Builtin.List.listTooLong (its.toArray.size + its2.toArray.size)) = true → its.toArray.size ≤ sizeLine →
      Inv X pins σ (upd H l (.lst (xs ++ zs))) { s with heap := s.heap.update l (Obj.mapSeq fun x => x ++ its2.toArray), toks := s.toks } → wpAny (model X.prog X.w) X.A (call (.builtin "list.extend") [.ref l, .ref b]) (EP X pins σ Q) X.xe s) →
      wpAny (model X.prog X.w) X.A (call (.builtin "list.extend") [.ref l, .ref b]) (EP X pins σ Q) X.xe s := fun its2 r2 go => by
    have hl2 := r2.length
    have hsz : its.toArray.size + its2.toArray.size ≤ sizeLine := by rw [List.size_toArray, List.size_toArray]; omega
    refine go hsz ?_ (by rw [List.size_toArray]; omega) (I.lset (its' := its ++ its2) hH e (by simp) (r.append r2) (by rw [List.length_append]; exact hz))
    rw [notLongL hsz, Bool.and_false]
    exact Bool.false_ne_true
  rcases hB with hB | hB
  · obtain ⟨its2, r2, ⟨⟨cls, dd, dt, sl⟩, n2, ho, hc, hd, hdt⟩, _⟩ := I.list hB
    simp only at hc hd hdt
    subst hc hd hdt
    exact fin its2 r2 fun s1 s2 s3 J => call_meets PySem.F.slot_list_extend ⟨_, e, rfl⟩ PySem.F.entry_list_extend (PySem.F.args_list_extend_2 _ _) (ext_list l its.toArray n b none sl its2.toArray n2 s2 s3 (by omega)) ⟨e, ho, .non, _, J, rfl, q⟩
  · obtain ⟨its2, r2, ⟨⟨cls, dd, dt, sl⟩, ho, hc, n2, hdt⟩, _⟩ := I.tuple hB
    simp only at hc hdt
    subst hc hdt
    exact fin its2 r2 fun s1 s2 s3 J => call_meets PySem.F.slot_list_extend ⟨_, e, rfl⟩ PySem.F.entry_list_extend (PySem.F.args_list_extend_2 _ _) (ext_tup l its.toArray n b dd sl its2.toArray n2 s2 s3 (by omega)) ⟨e, ho, .non, _, J, rfl, q⟩
theorem e_extend (hv : mVis X.N X.env.scope i x = true) (ha : PE X e (tE X.K Φ io a)) (n : notStar e = true) (hl : (apos.endLine == cpos.line) = true) :
    PE X (.Call (.Attribute (.Name x p) "extend" apos) [e] [] cpos) (tE X.K Φ io (.extend i a)) :=
  PE.weak (pe_bm PySem.F.plainAttrs_list PySem.F.slot_list_extend PySem.F.type_list_extend mt_ext (pe_name hv) (pa_one ha n) rfl (few1 n) hl (star_cons n [] X.env) rfl) fun σ H Q ⟨g, F, env, Q', Rp, ⟨hi, w⟩, k⟩ => by
    obtain ⟨ds, hd⟩ := isLst_some hi
    obtain ⟨pp, h1, h2, ⟨vs, h3, h4⟩, _⟩ := Rp.mine hd
    refine ⟨.ref pp, h1, .inl ⟨rfl, vs, .inl (.inl h3)⟩, one_ Rp w fun v H' F' r env' m R' s q => ?_⟩
    obtain ⟨d, env2, F2, m2, R2, dn, q⟩ := asV_ok R' s q
    have fin : ∀ {ds2 xs : List PyData} {bb : Addr} {zs : List V}, slC (slot env2 i) = some (.list ds2) → v = .ref bb → (SqL X.K H' bb zs ∨ SqT X.K H' bb zs) → DenAll X.K F2 zs xs → ds2.length + xs.length ≤ LINE → Q' (.val .none) (setC env2 i (.list (ds2 ++ xs))) → rExt X.K (.ref pp) [v] H' Q := fun {ds2 xs bb zs} hd2 ev sq dz hz q => by
      obtain ⟨q', g1, g2, ⟨vs2, g3, g4⟩, _⟩ := R2.mine hd2
      rw [h1] at g1; cases g1
      subst ev
      refine ⟨_, bb, vs2, zs, rfl, rfl, g3, sq, ?_, ?_⟩
      · rw [g4.length, dz.length]; exact line_le hz
      · exact k _ _ F2 (.val .none) _ (m.trans m2) (R2.setC (d := .list (ds2 ++ xs)) hd2 h1 ⟨_, upd_same, g4.append dz⟩) Den.non q
    split at q
    case h_1 ds2 xs hd2 =>
      cases dn with
      | lst sq dz => exact fin hd2 rfl (.inl (R2.sub.seq sq)) dz q.1 q.2
    case h_2 ds2 xs hd2 =>
      cases dn with
      | tup sq dz => exact fin hd2 rfl (.inr (same_sqT R2.sub sq)) dz q.1 q.2
    case h_3 => exact q.elim
theorem e_pop (hv : mVis X.N X.env.scope i x = true) (hl : (apos.endLine == cpos.line) = true) : PE X (.Call (.Attribute (.Name x p) "pop" apos) [] [] cpos) (tE X.K Φ io (.pop i)) :=
  PE.weak (pe_bm0 PySem.F.plainAttrs_list PySem.F.slot_list_pop PySem.F.type_list_pop mt_pop (pe_name hv) rfl hl) fun σ H Q ⟨g, F, env, Q', Rp, w, k⟩ => by
    unfold wpE at w
    split at w
    case h_1 ds hd =>
      obtain ⟨d, hdl, w⟩ := w
      obtain ⟨q, h1, h2, ⟨vs, h3, h4⟩, _⟩ := Rp.mine hd
      rw [List.getLast?_eq_getElem?] at hdl
      obtain ⟨y, hy, dy⟩ := h4.get hdl
      refine ⟨.ref q, h1, .inl ⟨rfl, vs, .inl (.inl h3)⟩, q, vs, y, rfl, rfl, h3, by rw [h4.length]; exact hy, ?_⟩
      exact k _ _ F (.val d) _ (Same.refl F) (Rp.setC (d := .list ds.dropLast) hd h1 ⟨_, upd_same, h4.dropLast⟩) dy w
    case h_2 => exact w.elim
theorem e_popat (hv : mVis X.N X.env.scope i x = true) (ha : PE X e (tE X.K Φ io a)) (n : notStar e = true) (hl : (apos.endLine == cpos.line) = true) :
    PE X (.Call (.Attribute (.Name x p) "pop" apos) [e] [] cpos) (tE X.K Φ io (.popat i a)) :=
  PE.weak (pe_bm PySem.F.plainAttrs_list PySem.F.slot_list_pop PySem.F.type_list_pop mt_popAt (pe_name hv) (pa_one ha n) rfl (few1 n) hl (star_cons n [] X.env) rfl) fun σ H Q ⟨g, F, env, Q', Rp, ⟨hi, w⟩, k⟩ => by
    obtain ⟨ds, hd⟩ := isLst_some hi
    obtain ⟨q, h1, h2, ⟨vs, h3, h4⟩, _⟩ := Rp.mine hd
    refine ⟨.ref q, h1, .inl ⟨rfl, vs, .inl (.inl h3)⟩, one_ Rp w fun v H' F' r env' m R' s q => ?_⟩
    obtain ⟨d, vw, q⟩ := pk_view R' s q
    split at q
    case h_1 ds2 j hd2 =>
      obtain ⟨j1, j2, m', d, e1, e2, q⟩ := q
      cases vw
      obtain ⟨q', g1, g2, ⟨vs2, g3, g4⟩, _⟩ := R'.mine hd2
      rw [h1] at g1; cases g1
      obtain ⟨y, hy, dy⟩ := g4.get e2
      refine ⟨_, vs2, j, m', y, rfl, rfl, g3, j1, j2, ?_, hy, ?_⟩
      · rw [g4.length]; exact (ixN_seq e1).1
      · exact k _ _ F' (.val d) _ m (R'.setC (d := .list (ds2.eraseIdx m')) hd2 h1 ⟨_, upd_same, g4.erase m'⟩) dy q
    case h_2 => exact q.elim
end
end Co

set_option linter.all false
/-! Co12: what a loop or a comprehension walks. -/
namespace Co
open PySem PySem.Spec PyProof.Rows L2

/-! ### a list or a tuple, as a source -/
def SrcIt (t : Bool) (h : Heap) (it a : Addr) (i : Nat) : Prop := match t with
  | true => h.IsTupleIter it a i
  | false => h.IsListIter it a i
def SrcAt (t : Bool) (a : Addr) (items : Array Value) (h : Heap) : Prop := match t with
  | true => h.IsTuple a items
  | false => h.IsList a items
def Src (K : Frag) (t : Bool) (H : Hp) (a : Addr) (xs : List V) : Prop := match t with
  | true => SqT K H a xs
  | false => SqL K H a xs
def srcO (t : Bool) (a : Addr) : Obj := match t with
  | true => { cls := .type "tuple_iterator", data := .fields #[.ref a, .int 0 0] }
  | false => { cls := .type "list_iterator", data := .fields #[.ref a, .int 0 0] }
theorem begins_src (t : Bool) (a : Addr) (items : Array Value) : Begins (.ref a) (srcO t a) (SrcAt t a items) := by
  cases t
  · exact begins_list a items
  · exact begins_tuple a items
theorem draws_src (t : Bool) {prog : Program} {w : World} {A : Around} (hh : A.handled = none) (it a : Addr) (hne : a ≠ it) (items : Array Value) :
    Draws prog w A it [it, a] items.size (fun i v => items[i]? = some v) (fun i h => SrcIt t h it a i ∧ SrcAt t a items h) := by
  cases t
  · exact Draws.list hh it a hne items
  · exact Draws.tuple hh it a hne items
theorem srcIt_new (t : Bool) {h : Heap} {it a : Addr} (e : h.get? it = some (srcO t a)) : SrcIt t h it a 0 := by
  cases t
  · exact ⟨_, e, rfl, rfl⟩
  · exact ⟨_, e, rfl, rfl⟩
theorem SrcIt.obj {t : Bool} {h : Heap} {it a : Addr} {i : Nat} (x : SrcIt t h it a i) : ∃ o, h.get? it = some o ∧ ∀ v, o.data ≠ .cell v := by
  cases t
  · obtain ⟨o, e, _, d⟩ := x
    exact ⟨o, e, fun v z => by rw [d] at z; cases z⟩
  · obtain ⟨o, e, _, d⟩ := x
    exact ⟨o, e, fun v z => by rw [d] at z; cases z⟩
theorem SrcIt.keep {t : Bool} {h h' : Heap} {it a : Addr} {i : Nat} (x : SrcIt t h it a i) (k : ∀ o, h.get? it = some o → h'.get? it = some o) : SrcIt t h' it a i := by
  cases t
  · exact Heap.IsListIter.at x k
  · exact Heap.IsTupleIter.at x k
theorem inv_src {t : Bool} {X : Cx} {pins : List (Addr × Obj)} {σ : L2.St} {H : Hp} {s : Shared} {a : Addr} {xs : List V} (I : Inv X pins σ H s) (h : Src X.K t H a xs) :
    ∃ its : List Value, Vals xs its ∧ SrcAt t a its.toArray s.heap ∧ xs.length ≤ sizeLine ∧ a < s.heap.objs.size := by
  cases t
  · obtain ⟨its, r, p, z⟩ := I.list h
    exact ⟨its, r, p.isList, z, p.lt⟩
  · obtain ⟨its, r, p, z⟩ := I.tuple h
    exact ⟨its, r, p, z, by obtain ⟨o, e, _⟩ := p; exact Heap.lt_size e⟩

/-! ### pairs and triples, newly made at each turn -/
def ItP (n : Nat) (Gd : Hp → Prop) (f : Nat → List V → Prop) : L2.It :=
  ⟨fun i H => i < n ∧ Gd H, fun i H v H' => ∃ T xs, v = .ref T ∧ H T = none ∧ H' = upd H T (.tup xs) ∧ f i xs, fun i H => i = n ∧ Gd H⟩
/-- a walk of the library's, as a turn -/
theorem turn_W {P : Program} {w : World} {K : Frag} {elts : List Expr} {kk : Nat} {tpos : Pos} {fp : List Addr} {I : Addr} {n : Nat} {Gd : Hp → Prop} {f : Nat → List V → Prop} {tn : Nat → Heap → Prop}
    (mem : I ∈ fp) (obj : ∀ i h, tn i h → ∀ b ∈ fp, ∃ o, h.get? b = some o ∧ ∀ v, o.data ≠ .cell v) (keep : ∀ i h h', tn i h → (∀ b ∈ fp, ∀ o, h.get? b = some o → h'.get? b = some o) → tn i h')
    (W : ∀ (X : Cx) (pins : List (Addr × Obj)) (s : Shared) (σ : L2.St) (H : Hp), X.prog = P → X.w = w → X.K = K → X.calm = true → Inv X pins σ H s → Gd H →
      ∃ (wfp wr : List Addr) (Pt : Nat → Array Value → Prop) (St : Nat → Heap → Prop) (Mid : Nat → Addr → Heap → Prop), WalksT P w X.A I wfp wr n Pt St Mid ∧ (∀ i, tn i s.heap → St i s.heap) ∧ (∀ i h', St i h' → tn i h') ∧ (∀ b ∈ wr, b ∈ fp) ∧
        ∀ i vals, i < n → Pt i vals → ∃ xs, Vals xs vals.toList ∧ xs.length ≤ 1000 ∧ f i xs)
    (self : ∀ (A : Around) (i : Nat) (s : Shared) (Q : Value → Shared → Prop) (E : Value → Shared → Prop), tn i s.heap → Q (.ref I) s → wpAny (model P w) A (pyIter (.ref I)) Q E s) :
    Turn P w K (.Tuple elts kk tpos) (ItP n Gd f) fp I tn where
  mem := mem
  obj := obj
  keep := keep
  self := self
  item := by
    intro X hP hw hK hc i pins s σ H E Iv hf st ⟨hi, hg⟩
    obtain ⟨wfp, wr, Pt, St, Mid, wk, toS, ofS, sub, vals⟩ := W X pins s σ H hP hw hK hc Iv hg
    refine wk.item i s _ E hi (toS i st) fun T vs h' tk hp hT htup mid fr => ⟨_, rfl, ?_⟩
    refine wk.go elts kk tpos i T _ _ E mid fun h'' st'' fr2 => ?_
    obtain ⟨xs, rv, hl, hf'⟩ := vals i vs hi hp
    have hTw : T ∉ wr := wk.apart i T h' mid
    have ht2 : h''.IsTuple T vs := by
      obtain ⟨o, e, r⟩ := htup
      exact ⟨o, fr2 T o hTw e, r⟩
    have new : ObjOk X.prog X.w (upd H T (.tup xs)) h'' T (.tup xs) := ⟨by rw [sizeLine_eq]; omega, vs.toList, rv, by
      obtain ⟨o, e, c, m, d⟩ := ht2
      exact ⟨o, e, c, m, by simpa using d⟩⟩
    have I1 : Inv X pins σ (upd H T (.tup xs)) { s with heap := h'', toks := tk } :=
      Iv.turnedNew (ch := fp) (fun b o hb q => fr2 b o (fun z => hb (sub b z)) (fr b o (fun z => hb (sub b z)) q)) hf hT new
    refine ⟨.ref T, _, I1, rfl, ⟨T, xs, rfl, Iv.hok.fresh hT, rfl, hf'⟩, ofS _ _ st'', fun b hb => ?_⟩
    obtain ⟨o, e, _⟩ := obj _ _ st b hb
    rw [upd_ne (Nat.ne_of_lt (Nat.lt_of_lt_of_le (Heap.lt_size e) hT))]
    exact (hf b hb).1
  done := by
    intro X hP hw hK hc i pins s σ H E Iv hf st ⟨hi, hg⟩
    obtain ⟨wfp, wr, Pt, St, Mid, wk, toS, ofS, sub, vals⟩ := W X pins s σ H hP hw hK hc Iv hg
    subst hi
    exact wk.done s _ E (toS _ st) fun h' tk fr => ⟨rfl, Iv.turnedL (ch := fp) (fun b o hb q => fr b o (fun z => hb (sub b z)) q) hf⟩

theorem vals_get {xs : List V} {its : List Value} {i : Nat} {u : Value} (r : Vals xs its) (h : its.toArray[i]? = some u) : ∃ x, xs[i]? = some x ∧ RelV x u := by
  have h' : its[i]? = some u := by simpa using h
  induction r generalizing i with
  | nil => simp at h'
  | cons a t ih =>
    cases i with
    | zero => simp at h'; subst h'; exact ⟨_, rfl, a⟩
    | succ i => simpa using ih (i := i) (by simpa using h') (by simpa using h')
def enumF (xs : List V) : Nat → List V → Prop := fun i vs => ∃ x, xs[i]? = some x ∧ vs = [.int (i : Nat), x]
theorem turn_enumS {P : Program} {w : World} {K : Frag} {elts : List Expr} {kk : Nat} {tpos : Pos} (t : Bool) (xs : List V) (a e it : Addr) (hei : e ≠ it) (hai : a ≠ it) (hae : a ≠ e) :
    Turn P w K (.Tuple elts kk tpos) (ItP xs.length (fun H => Src K t H a xs) (enumF xs)) [e, it] e (fun i h => (∃ old, IsEnum h e it ((i : Nat) : Int) old) ∧ SrcIt t h it a i) := by
  refine turn_W (by simp) (fun i h st b hb => ?_) (fun i h h' st k => ?_) (fun X pins s σ H hP hw hK hc I hg => ?_) fun A i s Q E st h => ?_
  · obtain ⟨⟨old, he⟩, hi⟩ := st
    have e' : b = e ∨ b = it := by simpa using hb
    rcases e' with z | z
    · rw [z]; exact ⟨_, he, fun v q => nomatch q⟩
    · rw [z]; exact hi.obj
  · obtain ⟨⟨old, he⟩, hi⟩ := st
    exact ⟨⟨old, k e (by simp) _ he⟩, hi.keep fun o q => k it (by simp) o q⟩
  · subst hP hw hK
    obtain ⟨its, r, at_, z, _⟩ := inv_src I hg
    have hn : its.toArray.size = xs.length := by rw [List.size_toArray, r.length]
    have D := draws_src t (prog := X.prog) (w := X.w) (A := X.A.in1) (I.ok.hd hc) it a hai its.toArray
    rw [hn] at D
    refine ⟨_, _, _, _, _, WalksT.enumerateD D e hei (by simp [hei, Ne.symm hae]) (by simp), fun i st => ⟨st.1, st.2, at_⟩, fun i h' st => ⟨st.1, st.2.1⟩, fun b hb => hb, fun i vals hi ⟨tk, x, hx, ev⟩ => ?_⟩
    obtain ⟨v, hv, rv⟩ := vals_get r hx
    subst ev
    exact ⟨[.int (i : Nat), v], .cons ⟨_, rfl⟩ (.cons rv .nil), by simp, v, hv, rfl⟩
  · obtain ⟨⟨_, he⟩, _⟩ := st
    exact wpAny_pyIter_enum he h
def zip2F (xs ys : List V) : Nat → List V → Prop := fun i vs => ∃ x y, xs[i]? = some x ∧ ys[i]? = some y ∧ vs = [x, y]
theorem turn_zip2S {P : Program} {w : World} {K : Frag} {elts : List Expr} {kk : Nat} {tpos : Pos} (t1 t2 : Bool) (xs ys : List V) (a b z TI TO i1 i2 : Addr) (S : ZipSep2 z TI TO i1 i2 [i1, a] [i2, b]) (ha : a ≠ i1) (hb : b ≠ i2) :
    Turn P w K (.Tuple elts kk tpos) (ItP (min xs.length ys.length) (fun H => Src K t1 H a xs ∧ Src K t2 H b ys) (zip2F xs ys)) [z, TI, TO, i1, i2] z
      (fun i h => IsZip h z TI TO .none ∧ IsTupOf2 h TI (.ref i1) (.ref i2) ∧ (∃ a1 a2, IsTupOf2 h TO a1 a2) ∧ SrcIt t1 h i1 a i ∧ SrcIt t2 h i2 b i) := by
  refine turn_W (by simp) (fun i h st c hc => ?_) (fun i h h' st k => ?_) (fun X pins s σ H hP hw hK hc I hg => ?_) fun A i s Q E st h => wpAny_pyIter_zip st.1 h
  · obtain ⟨hz, hTI, ⟨x, y, hTO⟩, h1, h2⟩ := st
    have e' : c = z ∨ c = TI ∨ c = TO ∨ c = i1 ∨ c = i2 := by simpa using hc
    rcases e' with q | q | q | q | q
    · rw [q]; exact ⟨_, hz, fun v q => nomatch q⟩
    · rw [q]; exact ⟨_, hTI, fun v q => nomatch q⟩
    · rw [q]; exact ⟨_, hTO, fun v q => nomatch q⟩
    · rw [q]; exact h1.obj
    · rw [q]; exact h2.obj
  · obtain ⟨hz, hTI, ⟨x, y, hTO⟩, h1, h2⟩ := st
    exact ⟨k z (by simp) _ hz, k TI (by simp) _ hTI, ⟨x, y, k TO (by simp) _ hTO⟩, h1.keep fun o q => k i1 (by simp) o q, h2.keep fun o q => k i2 (by simp) o q⟩
  · subst hP hw hK
    obtain ⟨its, r, at_, _, _⟩ := inv_src I hg.1
    obtain ⟨its2, r2, at2, _, _⟩ := inv_src I hg.2
    have D1 := draws_src t1 (prog := X.prog) (w := X.w) (A := X.A.in1) (I.ok.hd hc) i1 a ha its.toArray
    have D2 := draws_src t2 (prog := X.prog) (w := X.w) (A := X.A.in1) (I.ok.hd hc) i2 b hb its2.toArray
    have hn : its.toArray.size = xs.length := by rw [List.size_toArray, r.length]
    have hn2 : its2.toArray.size = ys.length := by rw [List.size_toArray, r2.length]
    rw [hn] at D1
    rw [hn2] at D2
    refine ⟨_, _, _, _, _, WalksT.zipD2 S D1 D2, fun i st => ⟨st.1, st.2.1, st.2.2.1, ⟨st.2.2.2.1, at_⟩, st.2.2.2.2, at2⟩, fun i h' st => ⟨st.1, st.2.1, st.2.2.1, st.2.2.2.1.1, st.2.2.2.2.1⟩, fun c hc => ?_, fun i vals hi ⟨x1, x2, hx, hy, ev⟩ => ?_⟩
    · have e' : c = z ∨ c = TO ∨ c = i1 ∨ c = i2 := by simpa using hc
      rcases e' with q | q | q | q <;> simp [q]
    · obtain ⟨v, hv, rv⟩ := vals_get r hx
      obtain ⟨v2, hv2, rv2⟩ := vals_get r2 hy
      subst ev
      exact ⟨[v, v2], .cons rv (.cons rv2 .nil), by simp, v, v2, hv, hv2, rfl⟩
def zip3F (xs ys zs : List V) : Nat → List V → Prop := fun i vs => ∃ x y z, xs[i]? = some x ∧ ys[i]? = some y ∧ zs[i]? = some z ∧ vs = [x, y, z]
theorem turn_zip3S {P : Program} {w : World} {K : Frag} {elts : List Expr} {kk : Nat} {tpos : Pos} (t1 t2 t3 : Bool) (xs ys zs : List V) (a b c z TI TO i1 i2 i3 : Addr) (S : ZipSep3 z TI TO i1 i2 i3 [i1, a] [i2, b] [i3, c]) (ha : a ≠ i1) (hb : b ≠ i2) (hc' : c ≠ i3) :
    Turn P w K (.Tuple elts kk tpos) (ItP (min (min xs.length ys.length) zs.length) (fun H => Src K t1 H a xs ∧ Src K t2 H b ys ∧ Src K t3 H c zs) (zip3F xs ys zs)) [z, TI, TO, i1, i2, i3] z
      (fun i h => IsZip h z TI TO .none ∧ IsTupOf3 h TI (.ref i1) (.ref i2) (.ref i3) ∧ (∃ a1 a2 a3, IsTupOf3 h TO a1 a2 a3) ∧ SrcIt t1 h i1 a i ∧ SrcIt t2 h i2 b i ∧ SrcIt t3 h i3 c i) := by
  refine turn_W (by simp) (fun i h st d hd => ?_) (fun i h h' st k => ?_) (fun X pins s σ H hP hw hK hc I hg => ?_) fun A i s Q E st h => wpAny_pyIter_zip st.1 h
  · obtain ⟨hz, hTI, ⟨x, y, w, hTO⟩, h1, h2, h3⟩ := st
    have e' : d = z ∨ d = TI ∨ d = TO ∨ d = i1 ∨ d = i2 ∨ d = i3 := by simpa using hd
    rcases e' with q | q | q | q | q | q
    · rw [q]; exact ⟨_, hz, fun v q => nomatch q⟩
    · rw [q]; exact ⟨_, hTI, fun v q => nomatch q⟩
    · rw [q]; exact ⟨_, hTO, fun v q => nomatch q⟩
    · rw [q]; exact h1.obj
    · rw [q]; exact h2.obj
    · rw [q]; exact h3.obj
  · obtain ⟨hz, hTI, ⟨x, y, w, hTO⟩, h1, h2, h3⟩ := st
    exact ⟨k z (by simp) _ hz, k TI (by simp) _ hTI, ⟨x, y, w, k TO (by simp) _ hTO⟩, h1.keep fun o q => k i1 (by simp) o q, h2.keep fun o q => k i2 (by simp) o q, h3.keep fun o q => k i3 (by simp) o q⟩
  · subst hP hw hK
    obtain ⟨its, r, at_, _, _⟩ := inv_src I hg.1
    obtain ⟨its2, r2, at2, _, _⟩ := inv_src I hg.2.1
    obtain ⟨its3, r3, at3, _, _⟩ := inv_src I hg.2.2
    have D1 := draws_src t1 (prog := X.prog) (w := X.w) (A := X.A.in1) (I.ok.hd hc) i1 a ha its.toArray
    have D2 := draws_src t2 (prog := X.prog) (w := X.w) (A := X.A.in1) (I.ok.hd hc) i2 b hb its2.toArray
    have D3 := draws_src t3 (prog := X.prog) (w := X.w) (A := X.A.in1) (I.ok.hd hc) i3 c hc' its3.toArray
    have hn : its.toArray.size = xs.length := by rw [List.size_toArray, r.length]
    have hn2 : its2.toArray.size = ys.length := by rw [List.size_toArray, r2.length]
    have hn3 : its3.toArray.size = zs.length := by rw [List.size_toArray, r3.length]
    rw [hn] at D1
    rw [hn2] at D2
    rw [hn3] at D3
    refine ⟨_, _, _, _, _, WalksT.zipD3 S D1 D2 D3, fun i st => ⟨st.1, st.2.1, st.2.2.1, ⟨st.2.2.2.1, at_⟩, ⟨st.2.2.2.2.1, at2⟩, st.2.2.2.2.2, at3⟩, fun i h' st => ⟨st.1, st.2.1, st.2.2.1, st.2.2.2.1.1, st.2.2.2.2.1.1, st.2.2.2.2.2.1⟩, fun d hd => ?_, fun i vals hi ⟨x1, x2, x3, hx, hy, hz, ev⟩ => ?_⟩
    · have e' : d = z ∨ d = TO ∨ d = i1 ∨ d = i2 ∨ d = i3 := by simpa using hd
      rcases e' with q | q | q | q | q <;> simp [q]
    · obtain ⟨v, hv, rv⟩ := vals_get r hx
      obtain ⟨v2, hv2, rv2⟩ := vals_get r2 hy
      obtain ⟨v3, hv3, rv3⟩ := vals_get r3 hz
      subst ev
      exact ⟨[v, v2, v3], .cons rv (.cons rv2 (.cons rv3 .nil)), by simp, v, v2, v3, hv, hv2, hv3, rfl⟩

/-! ### enumerate(v), one argument -/
theorem meets_enum1 {v : Value} {o : Obj} {H : Heap → Prop} (B : Begins v o H) :
    Meets (Builtin.«enumerate.__new__» ⟨[.type "enumerate", v], []⟩) (fun _ R s => H s.heap ∧
      R (.ok (.ret (.ref (s.heap.push o).objs.size))) { s with heap := (s.heap.push o).push { cls := .type "enumerate", data := .fields #[.none, .bool false, .ref s.heap.objs.size, rawInt 0, .none, .none] } }) :=
  .of_wp fun prog w A R s h => by
    obtain ⟨hp, g, d, tk, os⟩ := s
    obtain ⟨h1, h⟩ := h
    have hsub := sub_enumerate
    have q1 : ∀ {A' : Around} {E : Value → Shared → Prop} {Q : Value → Shared → Prop}, Q (.ref hp.objs.size) ⟨(hp.push o), g, d, tk, os⟩ → wpAny (model prog w) A' (pyIter v) Q E ⟨hp, g, d, tk, os⟩ :=
      fun q => B.iter prog w _ _ ⟨hp, g, d, tk, os⟩ _ h1 q
    wp_walk using q1
    refine wpAny_stack_any fun st => wpAny_pure ?_
    split
    · rename_i c _ _ _ _ _
      cases (c == Value.type "enumerate")
      · wp_walk using q1
        exact ⟨_, rfl, h⟩
      · wp_walk using q1
        exact ⟨_, rfl, h⟩
    · wp_walk using q1
      exact ⟨_, rfl, h⟩
theorem enum_begins1 {prog : Program} {w : World} {A : Around} {E : Value → Shared → Prop} {s : Shared} {v : Value} {o : Obj} {H : Heap → Prop} {Q : Value → Shared → Prop} (B : Begins v o H) (h1 : H s.heap)
    (h : ∀ h', IsEnum h' (s.heap.objs.size + 1) s.heap.objs.size 0 .none → h'.get? s.heap.objs.size = some o →
      (∀ b o, s.heap.get? b = some o → h'.get? b = some o) → Q (.ref (s.heap.objs.size + 1)) { s with heap := h' }) :
    wpAny (model prog w) A (call (.type "enumerate") [v]) Q E s := by
  have hz : (s.heap.push o).objs.size = s.heap.objs.size + 1 := Heap.size_push ..
  refine callType_new F.called_enumerate (by decide) (F.typeCall_enumerate_1 _) (F.newCall_enumerate_1 _) (fun obj => F.args_object_init_2 obj _) F.entry_enumerate_new
    (meets_enum1 B) ⟨h1, ?_⟩
  show _ ∧ _
  rw [hz]
  have he := Heap.get?_push_size (s.heap.push o) (o := { cls := .type "enumerate", data := .fields #[.none, .bool false, .ref s.heap.objs.size, rawInt 0, .none, .none] }) rfl
  rw [hz] at he
  exact ⟨⟨_, he, rfl⟩, h _ he (Heap.get?_push_of_some _ (Heap.get?_push_size _ B.free)) fun b o x => Heap.get?_push_of_some _ (Heap.get?_push_of_some _ x)⟩
end Co

set_option linter.all false
/-! Co13: the iterators of the little language. -/
namespace Co
open PySem PySem.Spec PyProof.Rows L2

/-- J gives the items, one after another, as long as what is shared stands -/
def Gives (K : Frag) (F : Hp) (J : L2.It) (items : List PyData) : Prop := ∃ Y, Walk J items.length (Same F) Y ∧
  ∀ i H v H', i < items.length → Same F H → Y i H v H' → ∃ d, items[i]? = some d ∧ ∀ F'', Same F F'' → Same F'' H → Out K F'' H (.val d) v H'
section
variable {K : Frag} {F : Hp} {xs ys zs : List V} {ds es fs : List PyData} {a b c : Addr}
theorem src_same {t : Bool} {H : Hp} (m : Same F H) (h : Src K t F a xs) : Src K t H a xs := by
  cases t
  · exact m.seq h
  · exact same_sqT m h
theorem gives_list (h : SqL K F a xs) (t : DenAll K F xs ds) : Gives K F (Itl K a) ds := by
  refine ⟨YAt xs, ?_, fun i H v H' hi m ⟨e, hx⟩ => ?_⟩
  · rw [← t.length]
    exact walk_list.mono (fun H m => m.seq h) fun _ _ _ _ _ _ y => y
  · subst e
    obtain ⟨d, hd, dn⟩ := t.getV hx
    exact ⟨d, hd, fun F'' m1 m2 => .old (dn.mono m1)⟩
theorem gives_tup (h : SqT K F a xs) (t : DenAll K F xs ds) : Gives K F (Itt K a) ds := by
  refine ⟨YAt xs, ?_, fun i H v H' hi m ⟨e, hx⟩ => ?_⟩
  · rw [← t.length]
    exact walk_tup.mono (fun H m => same_sqT m h) fun _ _ _ _ _ _ y => y
  · subst e
    obtain ⟨d, hd, dn⟩ := t.getV hx
    exact ⟨d, hd, fun F'' m1 m2 => .old (dn.mono m1)⟩
theorem rangeL_length (lo : Int) (n : Nat) : (rangeL lo n).length = n := by simp [rangeL]
theorem rangeL_get {lo : Int} {n i : Nat} (h : i < n) : (rangeL lo n)[i]? = some (.int (lo + (i : Int))) := by simp [rangeL, h]
theorem gives_range (lo : Int) (n : Nat) : Gives K F (Itr lo n) (rangeL lo n) := by
  refine ⟨YFn fun i => .int (lo + i), ?_, fun i H v H' hi m ⟨e, hx⟩ => ?_⟩
  · rw [rangeL_length]
    exact walk_range.mono (fun _ _ => trivial) fun _ _ _ _ _ _ y => y
  · rw [rangeL_length] at hi
    subst e hx
    exact ⟨_, rangeL_get hi, fun F'' m1 m2 => .old (.int _)⟩
theorem gives_P {n : Nat} {Gd : Hp → Prop} {f : Nat → List V → Prop} {items : List PyData} (hn : items.length = n) (hG : ∀ H, Same F H → Gd H)
    (hf : ∀ i vs, i < n → f i vs → ∃ ds, items[i]? = some (.tuple ds) ∧ DenAll K F vs ds) : Gives K F (ItP n Gd f) items := by
  subst hn
  refine ⟨fun i H v H' => ∃ T xs, v = .ref T ∧ H T = none ∧ H' = upd H T (.tup xs) ∧ f i xs, ⟨fun i H hi m => ⟨hi, hG H m⟩, fun H m => ⟨rfl, hG H m⟩, fun i H x H' hi m y => y⟩, fun i H v H' hi m ⟨T, vs, e1, e2, e3, q⟩ => ?_⟩
  subst e1 e3
  obtain ⟨ds, e, t⟩ := hf i vs hi q
  exact ⟨_, e, fun F'' m1 m2 => .tup e2 (t.mono m1)⟩
theorem pairs2_length (xs ys : List PyData) : (pairs2 xs ys).length = min xs.length ys.length := by simp [pairs2]
theorem pairs2_get {xs ys : List PyData} {i : Nat} {x y : PyData} (h1 : xs[i]? = some x) (h2 : ys[i]? = some y) : (pairs2 xs ys)[i]? = some (.tuple [x, y]) := by
  unfold pairs2
  rw [List.getElem?_map, (List.getElem?_zip_eq_some (z := (x, y))).mpr ⟨h1, h2⟩]; rfl
theorem pairs3_length (xs ys zs : List PyData) : (pairs3 xs ys zs).length = min (min xs.length ys.length) zs.length := by simp [pairs3, Nat.min_assoc]
theorem pairs3_get {xs ys zs : List PyData} {i : Nat} {x y z : PyData} (h1 : xs[i]? = some x) (h2 : ys[i]? = some y) (h3 : zs[i]? = some z) : (pairs3 xs ys zs)[i]? = some (.tuple [x, y, z]) := by
  unfold pairs3
  rw [List.getElem?_map, (List.getElem?_zip_eq_some (z := (x, (y, z)))).mpr ⟨h1, (List.getElem?_zip_eq_some (z := (y, z))).mpr ⟨h2, h3⟩⟩]; rfl
theorem gives_enum {t : Bool} (h : Src K t F a xs) (q : DenAll K F xs ds) : Gives K F (ItP xs.length (fun H => Src K t H a xs) (enumF xs)) (enumL ds) := by
  refine gives_P (by rw [enumL, pairs2_length, rangeL_length, q.length]; exact Nat.min_self _) (fun H m => src_same m h) fun i vs hi ⟨x, hx, ev⟩ => ?_
  subst ev
  obtain ⟨d, hd, dn⟩ := q.getV hx
  refine ⟨[.int (i : Nat), d], ?_, .cons (.int _) (.cons dn .nil)⟩
  have hl : i < ds.length := by rw [← q.length]; exact hi
  have := rangeL_get (lo := 0) hl
  rw [Int.zero_add] at this
  exact pairs2_get this hd
theorem gives_zip2 {t1 t2 : Bool} (h1 : Src K t1 F a xs) (q1 : DenAll K F xs ds) (h2 : Src K t2 F b ys) (q2 : DenAll K F ys es) : Gives K F (ItP (min xs.length ys.length) (fun H => Src K t1 H a xs ∧ Src K t2 H b ys) (zip2F xs ys)) (pairs2 ds es) := by
  refine gives_P (by rw [pairs2_length, q1.length, q2.length]) (fun H m => ⟨src_same m h1, src_same m h2⟩) fun i vs hi ⟨x, y, hx, hy, ev⟩ => ?_
  subst ev
  obtain ⟨d, hd, dn⟩ := q1.getV hx
  obtain ⟨d2, hd2, dn2⟩ := q2.getV hy
  exact ⟨[d, d2], pairs2_get hd hd2, .cons dn (.cons dn2 .nil)⟩
theorem gives_zip3 {t1 t2 t3 : Bool} (h1 : Src K t1 F a xs) (q1 : DenAll K F xs ds) (h2 : Src K t2 F b ys) (q2 : DenAll K F ys es) (h3 : Src K t3 F c zs) (q3 : DenAll K F zs fs) :
    Gives K F (ItP (min (min xs.length ys.length) zs.length) (fun H => Src K t1 H a xs ∧ Src K t2 H b ys ∧ Src K t3 H c zs) (zip3F xs ys zs)) (pairs3 ds es fs) := by
  refine gives_P (by rw [pairs3_length, q1.length, q2.length, q3.length]) (fun H m => ⟨src_same m h1, src_same m h2, src_same m h3⟩) fun i vs hi ⟨x, y, z, hx, hy, hz, ev⟩ => ?_
  subst ev
  obtain ⟨d, hd, dn⟩ := q1.getV hx
  obtain ⟨d2, hd2, dn2⟩ := q2.getV hy
  obtain ⟨d3, hd3, dn3⟩ := q3.getV hz
  exact ⟨[d, d2, d3], pairs3_get hd hd2 hd3, .cons dn (.cons dn2 (.cons dn3 .nil))⟩
/-- a shared datum with items, as a source -/
theorem den_src {v : V} {d : PyData} {ds : List PyData} (h : Den K F v d) (e : itemsOf d = some ds) : ∃ t a xs, v = .ref a ∧ Src K t F a xs ∧ DenAll K F xs ds := by
  cases h with
  | lst h t => cases e; exact ⟨false, _, _, rfl, h, t⟩
  | tup h t => cases e; exact ⟨true, _, _, rfl, h, t⟩
  | _ => cases e
end

def tI (K : Frag) (Φ : Tbl) (io : List Nat) (it : It) : TI := fun σ H R => ∃ (g : Gh) (F : Hp) (env : Env) (P : List PyData → Env → Prop), Rep K io g env σ F H ∧ wpI Φ it env P ∧
  ∀ items J H' F' env', Same F F' → Rep K io g env' σ F' H' → Gives K F' J items → P items env' → R J H'

section
variable {X : Cx} {L : List (String × List Bool)} {Φ : Tbl} {fb : Str → Bool} {io : List Nat} {tg e e1 e2 e3 : Expr} {es : List Expr} {a b c : E} {cs : Es} {pos p p2 apos cpos tpos : Pos} {i : Nat} {x : Str}
theorem pi_or {w1 : TI} (run : ∀ (pins : List (Addr × Obj)) (s : Shared) (σ : L2.St) (H : Hp) (R : L2.It → Hp → Prop), Inv X pins σ H s → w1 σ H R →
    wpAny (model X.prog X.w) X.A (eval e X.env) (fun v s1 => wpAny (model X.prog X.w) X.A (pyIter v) (PIE X pins σ tg R) X.xe s1) X.xe s) : PI X tg e w1 := ⟨run⟩
/-- over a list or a tuple -/
theorem i_of (he : PE X e (tE X.K Φ io a)) : PI X tg e (tI X.K Φ io (.of a)) := by
  refine ⟨fun pins s σ H R I ⟨g, F, env, P, Rp, w, k⟩ => ?_⟩
  have h : tE X.K Φ io a σ H fun x H1 => ∃ q, x = .ref q ∧ (((∃ xs, SqL X.K H1 q xs) ∧ R (Itl X.K q) H1) ∨ ((∃ xs, SqT X.K H1 q xs) ∧ R (Itt X.K q) H1)) := one_ Rp w fun v H' F' r env' m R' s q => by
    obtain ⟨d, env2, F2, m2, R2, dn, q⟩ := asV_ok R' s q
    cases dn <;> first | exact q.elim | skip
    case lst a1 xs ds sq t => exact ⟨_, rfl, .inl ⟨⟨_, R2.sub.seq sq⟩, k ds _ _ F2 env2 (m.trans m2) R2 (gives_list sq t) q⟩⟩
    case tup a1 xs ds sq t => exact ⟨_, rfl, .inr ⟨⟨_, same_sqT R2.sub sq⟩, k ds _ _ F2 env2 (m.trans m2) R2 (gives_tup sq t) q⟩⟩
  refine thn (he.run pins s σ H _ I h) fun v s1 ⟨x, H1, I1, r1, q, ex, q1⟩ => ?_
  subst ex
  cases r1
  rcases q1 with ⟨⟨xs, hq⟩, q1⟩ | ⟨⟨xs, hq⟩, q1⟩
  · obtain ⟨its, rv, p, hz⟩ := I1.list hq
    refine wpAny_pyIter_list p.isList ?_
    refine ⟨s1.heap.objs.size, [s1.heap.objs.size], _, _, H1, rfl, I1.kept (t' := s1.toks) fun b o e => Heap.get?_push_of_some _ e, turn_list q _, ⟨_, Heap.get?_push_size _ rfl, rfl, rfl⟩, fun b hb => ?_, q1⟩
    have e : b = s1.heap.objs.size := by simpa using hb
    subst e
    exact I1.fpOk (Nat.le_refl _) (I1.hok.fresh (Nat.le_refl _))
  · obtain ⟨its, rv, p, hz⟩ := I1.tuple hq
    refine wpAny_pyIter_tuple (show s1.heap.IsTuple q its.toArray from p) ?_
    refine ⟨s1.heap.objs.size, [s1.heap.objs.size], _, _, H1, rfl, I1.kept (t' := s1.toks) fun b o e => Heap.get?_push_of_some _ e, turn_tuple q _, ⟨_, Heap.get?_push_size _ rfl, rfl, rfl⟩, fun b hb => ?_, q1⟩
    have e : b = s1.heap.objs.size := by simpa using hb
    subst e
    exact I1.fpOk (Nat.le_refl _) (I1.hok.fresh (Nat.le_refl _))
theorem PI.weak' {t t' : TI} (h : PI X tg e t) (w : ∀ σ H Q, t' σ H Q → t σ H Q) : PI X tg e t' := PI.weak h w
theorem i_range1 (C : Ctx X L Φ fb) (hg : gl X.env.scope ("range" : Str) = true) (ha : PE X e (tE X.K Φ io a)) (n : notStar e = true) : PI X tg (.Call (.Name "range" p) [e] [] pos) (tI X.K Φ io (.range1 a)) :=
  PI.weak (pi_range1 (gl_ok hg) (C.blt "range" (by decide)) (pa_one ha n) (star_cons n [] X.env)) fun σ H R ⟨g, F, env, P, Rp, w, k⟩ => one_ Rp w fun v H' F' r env' m R' s q => by
    obtain ⟨d, vw, q⟩ := pk_view R' s q
    cases d <;> first | exact q.elim | skip
    cases vw
    exact ⟨_, rfl, q.1, q.2.1, k _ _ _ F' env' m R' (gives_range 0 _) q.2.2⟩
theorem i_range2 (C : Ctx X L Φ fb) (hg : gl X.env.scope ("range" : Str) = true) (ha : PE X e1 (tE X.K Φ io a)) (hb : PE X e2 (tE X.K Φ io b)) (n : notStar e1 = true) (n2 : notStar e2 = true) :
    PI X tg (.Call (.Name "range" p) [e1, e2] [] pos) (tI X.K Φ io (.range2 a b)) :=
  PI.weak (pi_range2 (gl_ok hg) (C.blt "range" (by decide)) (pa_two ha hb n n2) (by rw [star_cons n [e2] X.env, star_cons n2 [] X.env]; rfl) (star_cons n2 [] X.env)) fun σ H R ⟨g, F, env, P, Rp, w, k⟩ =>
    two_ (Qv := fun v1 v2 H2 => ∃ i j : Int, [v1, v2] = [V.int i, V.int j] ∧ (-(2 ^ 62) ≤ i ∧ i < 2 ^ 62 ∧ -(2 ^ 62) ≤ j ∧ j < 2 ^ 62) ∧ R (Itr i (j - i).toNat) H2) Rp w fun v1 v2 H' F' r1 r2 env' m R' s1 s2 q => by
      obtain ⟨d1, w1, q⟩ := pk_view R' s1 q
      obtain ⟨d2, w2, q⟩ := pk_view R' s2 q
      cases d1 <;> first | exact q.elim | skip
      cases d2 <;> first | exact q.elim | skip
      cases w1
      cases w2
      exact ⟨_, _, rfl, q.1, k _ _ _ F' env' m R' (gives_range _ _) q.2⟩
theorem i_enum {elts : List Expr} {kk : Nat} (C : Ctx X L Φ fb) (hg : gl X.env.scope ("enumerate" : Str) = true) (ha : PE X e (tE X.K Φ io a)) (n : notStar e = true) :
    PI X (.Tuple elts kk tpos) (.Call (.Name "enumerate" p) [e] [] pos) (tI X.K Φ io (.enum a)) := by
  refine ⟨fun pins s σ H R I ⟨g, F, env, P, Rp, w, k⟩ => ?_⟩
  have h : tCons (tE X.K Φ io a) tNil σ H fun vs H1 => ∃ t q xs, vs = [.ref q] ∧ Src X.K t H1 q xs ∧ R (ItP xs.length (fun H => Src X.K t H q xs) (enumF xs)) H1 := one_ Rp w fun v H' F' r env' m R' s q => by
    obtain ⟨d, env2, F2, m2, R2, dn, q⟩ := asV_ok R' s q
    have : ∃ ds, itemsOf d = some ds ∧ P (enumL ds) env2 := by
      cases d <;> first | exact q.elim | exact ⟨_, rfl, q⟩
    obtain ⟨ds, e, q⟩ := this
    obtain ⟨t, q', xs, ev, sq, dt⟩ := den_src dn e
    subst ev
    exact ⟨t, q', xs, rfl, src_same R2.sub sq, k _ _ _ F2 env2 (m.trans m2) R2 (gives_enum sq dt) q⟩
  refine Call_ (ld_blt I (gl_ok hg) (C.blt "enumerate" (by decide)) boot_enumerate (PyProof.Rows.callWith_type1 (thn ((pa_one ha n).run pos pins s σ H _ I h) fun us s1 ⟨vs, H1, I1, r1, q1⟩ => ?_) (star_cons n [] X.env) rfl))
  obtain ⟨t, q, xs, ex, hq, q1⟩ := q1
  subst ex
  cases r1 with
  | cons r rr =>
    cases rr
    cases r
    obtain ⟨its, rv, at_, hz, lt⟩ := inv_src I1 hq
    refine enum_begins1 (begins_src t q its.toArray) at_ fun h' he hit hk => wpAny_pyIter_enum he ?_
    have I2 : Inv X pins σ H1 { s1 with heap := h' } := I1.kept (t' := s1.toks) hk
    refine ⟨s1.heap.objs.size + 1, [s1.heap.objs.size + 1, s1.heap.objs.size], _, _, H1, rfl, I2, turn_enumS t xs q (s1.heap.objs.size + 1) s1.heap.objs.size (Nat.succ_ne_self _) (Nat.ne_of_lt lt) (Nat.ne_of_lt (Nat.lt_succ_of_lt lt)), ⟨⟨.none, he⟩, srcIt_new t hit⟩, fun b hb => ?_, q1⟩
    have e' : b = s1.heap.objs.size + 1 ∨ b = s1.heap.objs.size := by simpa using hb
    have hle : s1.heap.objs.size ≤ b := by
      rcases e' with z | z
      · rw [z]; exact Nat.le_add_right _ _
      · rw [z]; exact Nat.le_refl _
    exact I1.fpOk hle (I1.hok.fresh hle)
theorem i_zip2 {elts : List Expr} {kk : Nat} (C : Ctx X L Φ fb) (hg : gl X.env.scope ("zip" : Str) = true) (ha : PE X e1 (tE X.K Φ io a)) (hb : PE X e2 (tE X.K Φ io b)) (n : notStar e1 = true) (n2 : notStar e2 = true) :
    PI X (.Tuple elts kk tpos) (.Call (.Name "zip" p) [e1, e2] [] pos) (tI X.K Φ io (.zip2 false a b)) := by
  refine ⟨fun pins s σ H R I ⟨g, F, env, P, Rp, w, k⟩ => ?_⟩
  have h : tCons (tE X.K Φ io a) (tCons (tE X.K Φ io b) tNil) σ H fun vs H1 => ∃ t1 t2 q1 q2 xs ys, vs = [.ref q1, .ref q2] ∧ Src X.K t1 H1 q1 xs ∧ Src X.K t2 H1 q2 ys ∧
      R (ItP (min xs.length ys.length) (fun H => Src X.K t1 H q1 xs ∧ Src X.K t2 H q2 ys) (zip2F xs ys)) H1 :=
    two_ (Qv := fun v1 v2 H1 => ∃ t1 t2 q1 q2 xs ys, [v1, v2] = [V.ref q1, V.ref q2] ∧ Src X.K t1 H1 q1 xs ∧ Src X.K t2 H1 q2 ys ∧
      R (ItP (min xs.length ys.length) (fun H => Src X.K t1 H q1 xs ∧ Src X.K t2 H q2 ys) (zip2F xs ys)) H1) Rp w fun v1 v2 H' F' r1 r2 env' m R' s1 s2 q => by
      obtain ⟨d1, env2, F2, m2, R2, dn1, q⟩ := asV_ok R' s1 q
      obtain ⟨d2, env3, F3, m3, R3, dn2, q⟩ := asV_ok R2 (s2.mono m2) q
      split at q
      case h_2 => exact q.elim
      case h_1 ds es e1 e2 =>
        obtain ⟨t1, q1, xs, ev1, sq1, dt1⟩ := den_src (dn1.mono m3) e1
        obtain ⟨t2, q2, ys, ev2, sq2, dt2⟩ := den_src dn2 e2
        subst ev1 ev2
        exact ⟨t1, t2, q1, q2, xs, ys, rfl, src_same R3.sub sq1, src_same R3.sub sq2, k _ _ _ F3 env3 ((m.trans m2).trans m3) R3 (gives_zip2 sq1 dt1 sq2 dt2) q.2⟩
  refine Call_ (ld_blt I (gl_ok hg) (C.blt "zip" (by decide)) PyProof.Rows.boot_zip (PyProof.Rows.callWith_type1 (thn ((pa_two ha hb n n2).run pos pins s σ H _ I h) fun us s1 ⟨vs, H1, I1, r1, q1⟩ => ?_) (star_cons n [e2] X.env) (one_any n2)))
  obtain ⟨t1, t2, qa, qb, xs, ys, ex, hq1, hq2, q1⟩ := q1
  subst ex
  cases r1 with
  | cons r rr =>
    cases rr with
    | cons r' rr =>
      cases rr
      cases r
      cases r'
      obtain ⟨its, rv, at1, _, lt1⟩ := inv_src I1 hq1
      obtain ⟨its2, rv2, at2, _, lt2⟩ := inv_src I1 hq2
      refine zip_begins2 (begins_src t1 qa its.toArray) (begins_src t2 qb its2.toArray) at1 at2 fun h' hz hTI hTO h1 h2 hsz hk => wpAny_pyIter_zip hz ?_
      have I2 : Inv X pins σ H1 { s1 with heap := h' } := I1.kept (t' := s1.toks) hk
      refine ⟨s1.heap.objs.size + 4, [s1.heap.objs.size + 4, s1.heap.objs.size + 2, s1.heap.objs.size + 3, s1.heap.objs.size, s1.heap.objs.size + 1], _, _, H1, rfl, I2, turn_zip2S t1 t2 xs ys qa qb _ _ _ _ _ (zip_sep2 (by simpa using lt1) (by simpa using lt2)) (Nat.ne_of_lt lt1) (Nat.ne_of_lt (Nat.lt_succ_of_lt lt2)),
        ⟨hz, hTI, ⟨_, _, hTO⟩, srcIt_new t1 h1, srcIt_new t2 h2⟩, fun c hcm => ?_, q1⟩
      have e' : c = s1.heap.objs.size + 4 ∨ c = s1.heap.objs.size + 2 ∨ c = s1.heap.objs.size + 3 ∨ c = s1.heap.objs.size ∨ c = s1.heap.objs.size + 1 := by simpa using hcm
      have hle : s1.heap.objs.size ≤ c := by
        rcases e' with z | z | z | z | z
        · rw [z]; exact Nat.le_add_right _ _
        · rw [z]; exact Nat.le_add_right _ _
        · rw [z]; exact Nat.le_add_right _ _
        · rw [z]; exact Nat.le_refl _
        · rw [z]; exact Nat.le_add_right _ _
      exact I1.fpOk hle (I1.hok.fresh hle)
end
end Co

set_option linter.all false
/-! Co28: list(range(..)), such a list over and over. -/
namespace Co
open PySem PySem.Spec PyProof.Rows L2
section
variable {X : Cx} {L : List (String × List Bool)} {Φ : Tbl} {fb : Str → Bool} {io : List Nat} {a b k x : E} {e e1 e2 : Expr} {p p2 pos pos2 : Pos}
theorem den_rg {K : Frag} {F : Hp} : ∀ (l : List Nat) (lo : Int), DenAll K F (l.map fun i => V.int (lo + (i : Nat))) (l.map fun (k : Nat) => PyData.int (lo + (k : Int)))
  | [], _ => .nil
  | x :: l, lo => .cons (.int _) (den_rg l lo)
theorem e_rg1 (C : Ctx X L Φ fb) (hl : gl X.env.scope ("list" : Str) = true) (hr : gl X.env.scope ("range" : Str) = true) (ha : PE X e (tE X.K Φ io a)) (n : notStar e = true) :
    PE X (.Call (.Name "list" p) [.Call (.Name "range" p2) [e] [] pos2] [] pos) (tE X.K Φ io (.rg1 a)) :=
  PE.weak (pe_listRg C.calm (gl_ok hl) (C.blt "list" (by decide)) (prg_1 (gl_ok hr) (C.blt "range" (by decide)) ha (star_cons n [] X.env))) fun σ H Q ⟨g, F, env, P, Rp, w, k⟩ => one_ Rp w fun v H' F' r env' m R' s q => by
    obtain ⟨d, vw, q⟩ := pk_view R' s q
    cases d <;> first | exact q.elim | skip
    cases vw
    rename_i j
    obtain ⟨z1, z2, z3, q⟩ := q
    have eL : LINE = 2 ^ 24 := by decide
    refine ⟨j, rfl, ⟨by decide, by decide, z1, z2, by rw [Int.sub_zero]; omega⟩, fun p' n' => ?_⟩
    obtain ⟨F6, m6, R6, rd6⟩ := out_ok R' (.own (d := .list (rangeL 0 j.toNat)) (o := .lst (rgV 0 j)) n' ⟨_, upd_same, by
      unfold rgV rangeL
      rw [Int.sub_zero]
      exact den_rg _ _⟩)
    exact k _ _ F6 _ env' (m.trans m6) R6 rd6 q
theorem e_rg2 (C : Ctx X L Φ fb) (hl : gl X.env.scope ("list" : Str) = true) (hr : gl X.env.scope ("range" : Str) = true) (ha : PE X e1 (tE X.K Φ io a)) (hb : PE X e2 (tE X.K Φ io b)) (n : notStar e1 = true) (n2 : notStar e2 = true) :
    PE X (.Call (.Name "list" p) [.Call (.Name "range" p2) [e1, e2] [] pos2] [] pos) (tE X.K Φ io (.rg2 a b)) :=
  PE.weak (pe_listRg C.calm (gl_ok hl) (C.blt "list" (by decide)) (prg_2 (gl_ok hr) (C.blt "range" (by decide)) ha hb (star_cons n [e2] X.env) (star_cons n2 [] X.env) (by rw [star_cons n2 [] X.env]; rfl))) fun σ H Q ⟨g, F, env, P, Rp, w, k⟩ =>
    two_ (Qv := fun v1 v2 H2 => ∃ i j : Int, v1 = V.int i ∧ v2 = V.int j ∧ RgOk i j ∧ ∀ q, H2 q = none → Q (.ref q) (upd H2 q (.lst (rgV i j)))) Rp w fun v1 v2 H' F' r1 r2 env' m R' s1 s2 q => by
    obtain ⟨d1, vw1, q⟩ := pk_view R' s1 q
    obtain ⟨d2, vw2, q⟩ := pk_view R' s2 q
    cases d1 <;> first | exact q.elim | skip
    cases d2 <;> first | exact q.elim | skip
    cases vw1
    cases vw2
    rename_i i q0 j
    obtain ⟨⟨z1, z2, z3, z4⟩, z5, q⟩ := q
    have eL : LINE = 2 ^ 24 := by decide
    refine ⟨_, _, rfl, rfl, ⟨z1, z2, z3, z4, by omega⟩, fun p' n' => ?_⟩
    obtain ⟨F6, m6, R6, rd6⟩ := out_ok R' (.own (d := .list (rangeL i (j - i).toNat)) (o := .lst (rgV i j)) n' ⟨_, upd_same, den_rg _ _⟩)
    exact k _ _ F6 _ env' (m.trans m6) R6 rd6 q
theorem e_orep (hx : PE X e1 (tE X.K Φ io x)) (ha : PE X e2 (tE X.K Φ io k)) : PE X (.BinOp e1 .Mult e2 pos) (tE X.K Φ io (.orep x k)) :=
  PE.weak (pe_op op_rep hx ha) fun σ H Q ⟨g, F, env, Q', Rp, w, kk⟩ => ⟨g, F, env, _, Rp, w, fun v H1 F1 r env1 m1 R1 rd q1 => by
    cases r with
    | val d => exact q1.elim
    | pl i => exact q1.elim
    | own d =>
      cases d <;> first | exact q1.elim | skip
      rename_i ds
      obtain ⟨p, rfl, hF, ⟨vs, hp0, dn⟩, h0, ht, ho⟩ := rd
      have R2 := R1.share hF hp0 h0 ho (fun q hq z' => by
        obtain ⟨_, _, w, hw⟩ := R1.ins q hq
        rw [z', h0] at hw; cases hw) ht
      have m2 : Same F1 (upd F1 p (.lst vs)) := same_add hF
      refine one_ R2 q1 fun v5 H5 F5 r5 env5 m5 R5 s5 q5 => ?_
      obtain ⟨d5, w5, q5⟩ := pk_view R5 s5 q5
      cases d5 <;> first | exact q5.elim | skip
      obtain ⟨z1, z2, z3, q5⟩ := q5
      cases w5
      have hp : H5 p = some (.lst vs) := R5.sub _ _ (m5 _ _ upd_same)
      refine ⟨p, _, vs, rfl, rfl, hp, z1, z2, ?_, fun p' n' => ?_⟩
      · rw [dn.length]; exact line_le z3
      · have dn5 : DenAll X.K F5 vs ds := dn.mono (m2.trans m5)
        obtain ⟨F6, m6, R6, rd6⟩ := out_ok R5 (.own (d := .list (List.replicate _ ds).flatten) (o := .lst (List.replicate _ vs).flatten) n' ⟨_, upd_same, dn5.rep _⟩)
        exact kk _ _ F6 _ env5 (((m1.trans m2).trans m5).trans m6) R6 rd6 q5⟩
end
end Co

set_option linter.all false
/-! Co23: zip with strict=False or strict=True, given by its name. -/
namespace PySem
open Sem (wp)
namespace Zk
section
variable {prog : Program} {w : World} {A : Around} {E : Value → Shared → Prop} {s : Shared}
theorem meetsKw {T newId initId : String} {Bn Bi : Builtin} {args : List Value} {kw : List (Str × Value)} {S : Spec} {Q Q₁ : Value → Shared → Prop} (ft : TypeCalled T newId initId)
    (hct : checkTypeCall T ⟨args, kw⟩ = pure ()) (hcn : checkBuiltinCall newId ⟨.type T :: args, kw⟩ = pure ())
    (entryN : entryFor table newId = some Bn) (entryI : entryFor table initId = some Bi) (g : Meets (Bn ⟨.type T :: args, kw⟩) S)
    (h : S A.in1 (wants Q₁ E) s)
    (hnext : ∀ obj s₁, Q₁ obj s₁ → s₁.TypeIs obj T ∧ argsOk initId ⟨obj :: args, kw⟩ ∧ ∃ Si, Meets (Bi ⟨obj :: args, kw⟩) Si ∧ Si A.in1 (wants (fun r s₂ => r = .none ∧ Q obj s₂) E) s₁) :
    wpAny (model prog w) A (call (.type T) args kw) Q E s := by
  obtain ⟨c, tl, hmro⟩ := ft.mro
  have hmade := ft.made
  have hsub := ft.sub
  refine wpAny_call (codeAny_of_tree ?_)
  show wpAny _ _ (callAny (.type T) _) _ _ _
  refine wpAny_pure ⟨Code.quiet_builtin _ (by decide +kernel), codeAny_builtin F.entry_type_call ?_⟩
  rw [Around.under_plain (weight_type_call_type T args kw) (units_type_call_type T args kw)]
  have h1 := ft.notType
  have h2 := ft.canCreate
  repeat (any_goals (first | assumption | wp_step))
  refine codeAny_mono (codeAny_call_builtin ft.plain entryN (wpAny_of_eq hcn (g prog w A.in1 _ s h))) fun r s₁ hr => ?_
  cases r with
  | error e => exact hr
  | ok fl =>
    cases fl with
    | ret obj =>
      obtain ⟨hT, hok, Si, gi, hsi⟩ := hnext _ _ hr
      have hli := ft.init.lookup
      have hbi := ft.init.bind obj
      repeat (any_goals (first | assumption | wp_step))
      refine codeAny_mono (codeAny_call_builtin ft.init.plain entryI (ft.init.check _ _ _ _ _ _ _ _ hT hok (gi prog w A.in1 _ s₁ hsi))) fun r₂ s₂ hr₂ => ?_
      cases r₂ with
      | error e => exact hr₂
      | ok fl₂ =>
        cases fl₂ with
        | ret r =>
          obtain ⟨rfl, hq⟩ := hr₂
          repeat (any_goals (first | assumption | wp_step))
        | _ => exact hr₂.elim
    | _ => exact hr.elim
theorem initKw {T newId : String} {self a : Value} {rest : List Value} {kw : List (Str × Value)} (hl : typeLookup (.type T) "__init__" = pure (some (.builtin "object.__init__")))
    (hm : Bind.madeBy (.type T) = pure (some newId)) (hne : (some newId != some "object.__new__") = true) :
    Meets (Builtin.«object.__init__» ⟨self :: a :: rest, kw⟩) (fun _ R s => s.TypeIs self T ∧ R (.ok (.ret .none)) s) := by
  refine Meets.of_wp fun prog w A R s hs => ?_
  obtain ⟨hT, hq⟩ := hs
  repeat (any_goals (first | assumption | wp_step))
  exact ⟨_, rfl, hq⟩
theorem newKw {T newId : String} {Bn : Builtin} {a : Value} {rest : List Value} {kw : List (Str × Value)} {S : Spec} {Q : Value → Shared → Prop} (ft : TypeCalled T newId "object.__init__")
    (hne : (some newId != some "object.__new__") = true) (hct : checkTypeCall T ⟨a :: rest, kw⟩ = pure ()) (hcn : checkBuiltinCall newId ⟨.type T :: a :: rest, kw⟩ = pure ())
    (hok : ∀ obj, argsOk "object.__init__" ⟨obj :: a :: rest, kw⟩) (entryN : entryFor table newId = some Bn) (g : Meets (Bn ⟨.type T :: a :: rest, kw⟩) S)
    (h : S A.in1 (wants (fun obj s₁ => s₁.TypeIs obj T ∧ Q obj s₁) E) s) : wpAny (model prog w) A (call (.type T) (a :: rest) kw) Q E s :=
  meetsKw ft hct hcn entryN F.entry_object_init g h fun obj _ hq =>
    ⟨hq.1, hok obj, _, initKw ft.init.lookup ft.made hne, hq.1, rfl, hq.2⟩
theorem tc (a b c : Value) : checkTypeCall "zip" ⟨[a, b], [(Str.ofString "strict", c)]⟩ = pure () := by kernel_rfl
theorem nc (a b c : Value) : checkBuiltinCall "zip.__new__" ⟨[.type "zip", a, b], [(Str.ofString "strict", c)]⟩ = pure () := by kernel_rfl
theorem ai (obj a b c : Value) : argsOk "object.__init__" ⟨[obj, a, b], [(Str.ofString "strict", c)]⟩ := by unfold argsOk; kernel_rfl
/-- a zip that is strict or not -/
abbrev IsZ (st : Bool) (h : Heap) (z TI TO : Addr) (f0 : Value) : Prop :=
  h.get? z = some { cls := .type "zip", dict := none, data := .fields #[f0, .bool false, .bool st, .ref TI, .ref TO], slots := #[] }
abbrev zZ (st : Bool) (h : Heap) (o1 o2 : Obj) : Heap := (gzO2 h o1 o2).push { cls := .type "zip", data := .fields #[.none, .bool false, .bool st, .ref ((h.push o1).push o2).objs.size, .ref (gzT2 h o1 o2).objs.size] }
theorem meets_new (st : Bool) {v1 v2 : Value} {o1 o2 : Obj} {H1 H2 : Heap → Prop} (B1 : Begins v1 o1 H1) (B2 : Begins v2 o2 H2) :
    Meets (Builtin.«zip.__new__» ⟨[.type "zip", v1, v2], [(Str.ofString "strict", .bool st)]⟩) (fun _ R s => (H1 s.heap ∧ H2 s.heap) ∧
      R (.ok (.ret (.ref (gzO2 s.heap o1 o2).objs.size))) { s with heap := zZ st s.heap o1 o2 }) :=
  .of_wp fun prog w A R s h => by
    obtain ⟨hp, g, d, tk, os⟩ := s; obtain ⟨⟨h1, h2⟩, h⟩ := h
    have hsub := sub_zip
    have q1 : ∀ {A' : Around} {E : Value → Shared → Prop} {Q : Value → Shared → Prop}, Q (.ref hp.objs.size) ⟨(hp.push o1), g, d, tk, os⟩ → wpAny (model prog w) A' (pyIter v1) Q E ⟨hp, g, d, tk, os⟩ :=
      fun q => B1.iter prog w _ _ ⟨hp, g, d, tk, os⟩ _ (B1.keeps _ _ h1 fun b o' e => e) q
    have q2 : ∀ {A' : Around} {E : Value → Shared → Prop} {Q : Value → Shared → Prop}, Q (.ref (hp.push o1).objs.size) ⟨((hp.push o1).push o2), g, d, tk, os⟩ → wpAny (model prog w) A' (pyIter v2) Q E ⟨(hp.push o1), g, d, tk, os⟩ :=
      fun q => B2.iter prog w _ _ ⟨(hp.push o1), g, d, tk, os⟩ _ (B2.keeps _ _ h2 fun b o' e => (Heap.get?_push_of_some _ e)) q
    have e1 : (Str.ofString "strict" != ("strict" : Str)) = false := by decide +kernel
    cases st
    · wp_walk using q1, q2
      exact ⟨_, rfl, h⟩
    · wp_walk using q1, q2
      exact ⟨_, rfl, h⟩
theorem begins (st : Bool) {v1 v2 : Value} {o1 o2 : Obj} {H1 H2 : Heap → Prop} {Q : Value → Shared → Prop} (B1 : Begins v1 o1 H1) (B2 : Begins v2 o2 H2) (h1 : H1 s.heap) (h2 : H2 s.heap)
    (h : ∀ h', IsZ st h' (s.heap.objs.size + 4) (s.heap.objs.size + 2) (s.heap.objs.size + 3) .none → IsTupOf2 h' (s.heap.objs.size + 2) (.ref s.heap.objs.size) (.ref (s.heap.objs.size + 1)) →
      IsTupOf2 h' (s.heap.objs.size + 3) .none .none → h'.get? s.heap.objs.size = some o1 → h'.get? (s.heap.objs.size + 1) = some o2 → h'.objs.size = s.heap.objs.size + 5 →
      (∀ c o, s.heap.get? c = some o → h'.get? c = some o) → Q (.ref (s.heap.objs.size + 4)) { s with heap := h' }) :
    wpAny (model prog w) A (call (.type "zip") [v1, v2] [(Str.ofString "strict", .bool st)]) Q E s := by
  refine newKw F.called_zip (by decide) (tc _ _ _) (nc _ _ _) (fun obj => ai obj _ _ _) F.entry_zip_new
    (meets_new st B1 B2) ⟨⟨h1, h2⟩, ?_⟩
  have z1 : (s.heap.push o1).objs.size = s.heap.objs.size + 1 := by rw [Heap.size_push]
  have z2 : ((s.heap.push o1).push o2).objs.size = s.heap.objs.size + 2 := by rw [Heap.size_push, z1]
  have zT : (gzT2 s.heap o1 o2).objs.size = s.heap.objs.size + 3 := by rw [Heap.size_push, z2]
  have zO : (gzO2 s.heap o1 o2).objs.size = s.heap.objs.size + 4 := by rw [Heap.size_push, zT]
  have zz : (zZ st s.heap o1 o2).objs.size = s.heap.objs.size + 5 := by rw [Heap.size_push, zO]
  have gZ : (zZ st s.heap o1 o2).get? (gzO2 s.heap o1 o2).objs.size = some { cls := .type "zip", data := .fields #[.none, .bool false, .bool st, .ref ((s.heap.push o1).push o2).objs.size, .ref (gzT2 s.heap o1 o2).objs.size] } := Heap.get?_push_size _ rfl
  have gO : (zZ st s.heap o1 o2).get? (gzT2 s.heap o1 o2).objs.size = some { cls := .type "tuple", data := .seq #[.none, .none] } := Heap.get?_push_of_some _ (Heap.get?_push_size _ rfl)
  have gT : (zZ st s.heap o1 o2).get? ((s.heap.push o1).push o2).objs.size = some { cls := .type "tuple", data := .seq #[.ref s.heap.objs.size, .ref (s.heap.push o1).objs.size] } := Heap.get?_push_of_some _ (Heap.get?_push_of_some _ (Heap.get?_push_size _ rfl))
  have g1 : (zZ st s.heap o1 o2).get? s.heap.objs.size = some o1 := Heap.get?_push_of_some _ (Heap.get?_push_of_some _ (Heap.get?_push_of_some _ (Heap.get?_push_of_some _ (Heap.get?_push_size _ B1.free))))
  have g2 : (zZ st s.heap o1 o2).get? (s.heap.push o1).objs.size = some o2 := Heap.get?_push_of_some _ (Heap.get?_push_of_some _ (Heap.get?_push_of_some _ (Heap.get?_push_size _ B2.free)))
  rw [zO, zT, z2] at gZ
  rw [zT] at gO
  rw [z2, z1] at gT
  rw [z1] at g2
  show _ ∧ _
  rw [zO]
  exact ⟨⟨_, gZ, rfl⟩, h _ gZ gT gO g1 g2 zz fun c o e => Heap.get?_push_of_some _ (Heap.get?_push_of_some _ (Heap.get?_push_of_some _ (Heap.get?_push_of_some _ (Heap.get?_push_of_some _ e))))⟩
theorem pyIter_Z {st : Bool} {z TI TO : Addr} {f0 : Value} {Q : Value → Shared → Prop} (hz : IsZ st s.heap z TI TO f0) (h : Q (.ref z) s) : wpAny (model prog w) A (pyIter (.ref z)) Q E s := by
  have hT : s.TypeIs (.ref z) "zip" := ⟨_, hz, rfl⟩
  refine wpAny_pyIter_slot hT F.slot_zip_iter (wpAny_call_entry F.slot_zip_iter hT F.entry_zip_iter ?_ (F.args_zip_iter_1 _))
  show wpAny _ _ (ret (.ref z)) _ _ s
  exact wpAny_pure ⟨_, rfl, "zip", _, hT, F.slot_zip_next.lookup, h⟩
end
end Zk
end PySem
namespace Co
open PySem PySem.Spec PyProof.Rows L2
section
variable {M : Model} {A : Around} {E : Value → Shared → Prop} {s : Shared} {env : PySem.Env}
theorem callWith_typeK {pos : Pos} {T : String} {e : Expr} {rest : List Expr} {kws : List Keyword} {Q : Value → Shared → Prop}
    (h : wpAny M A (spliced (backTo pos (starEach (e :: rest) env))) (fun vs s₁ => wpAny M A (evalAll ((backToKw pos (keywordEach kws env)).map (·.2)))
      (fun ks s₂ => wpAny M A (call (.type T) vs (((backToKw pos (keywordEach kws env)).filterMap (·.1)).zip ks)) Q E s₂) E s₁) E s)
    (he : starEach (e :: rest) env = (false, eval e env) :: starEach rest env)
    (hplain : (backTo pos (starEach rest env)).any (·.1) = false)
    (hall : (backToKw pos (keywordEach kws env)).all (·.1.isSome) = true) (hno : (backToKw pos (keywordEach kws env)).any (·.1.isNone) = false) :
    wpAny M A (callWith pos (.type T) [] (backTo pos (starEach (e :: rest) env)) (backToKw pos (keywordEach kws env))) Q E s := by
  have hp : (backTo pos (starEach (e :: rest) env)).any (·.1) = false := by
    rw [he]
    show (false || (backTo pos (starEach rest env)).any (·.1)) = false
    rw [hplain]; rfl
  unfold callWith
  refine wpAny_bind (wpAny_holding (wpAny_mono (evalArgs_kw2 (Q := fun a s₁ => wpAny M A (call (.type T) a.pos a.kw) Q E s₁) hall h he) (fun a s₁ h₁ => wpAny_bind (wpAny_standAt ?_)) fun _ _ x => x))
  simp only [hp, hno, Bool.or_false]
  refine wpAny_bind (wpAny_pure ?_)
  exact wpAny_bind (wpAny_mono h₁ (fun r s₂ hr => wpAny_bind (wpAny_holding (wpAny_point (wpAny_pure hr)))) fun _ _ x => x)
end
open PySem.Zk in
/-- zip's turns, strict or not -/
def ZTurn (X : Cx) (st : Bool) : Prop := ∀ (elts : List Expr) (kk : Nat) (tpos : Pos) (t1 t2 : Bool) (xs ys : List V) (a b z TI TO i1 i2 : Addr), (st = true → xs.length = ys.length) → ZipSep2 z TI TO i1 i2 [i1, a] [i2, b] → a ≠ i1 → b ≠ i2 →
    Turn X.prog X.w X.K (.Tuple elts kk tpos) (ItP (min xs.length ys.length) (fun H => Src X.K t1 H a xs ∧ Src X.K t2 H b ys) (zip2F xs ys)) [z, TI, TO, i1, i2] z
      (fun i h => IsZ st h z TI TO .none ∧ IsTupOf2 h TI (.ref i1) (.ref i2) ∧ (∃ a1 a2, IsTupOf2 h TO a1 a2) ∧ SrcIt t1 h i1 a i ∧ SrcIt t2 h i2 b i)
theorem zturn_false (X : Cx) : ZTurn X false := fun elts kk tpos t1 t2 xs ys a b z TI TO i1 i2 _ S ha hb => turn_zip2S t1 t2 xs ys a b z TI TO i1 i2 S ha hb
section
variable {X : Cx} {L : List (String × List Bool)} {Φ : Tbl} {fb : Str → Bool} {io : List Nat} {tg e e1 e2 e3 : Expr} {a b : E} {pos p kp cp tpos : Pos}
theorem i_zip2K {elts : List Expr} {kk ck : Nat} {st : Bool} (ZT : ZTurn X st) (C : Ctx X L Φ fb) (hg : gl X.env.scope ("zip" : Str) = true) (ha : PE X e1 (tE X.K Φ io a)) (hb : PE X e2 (tE X.K Φ io b)) (n : notStar e1 = true) (n2 : notStar e2 = true) :
    PI X (.Tuple elts kk tpos) (.Call (.Name "zip" p) [e1, e2] [⟨some (Str.ofString "strict"), .Constant (.bool st) ck cp, kp⟩] pos) (tI X.K Φ io (.zip2 st a b)) := by
  refine ⟨fun pins s σ H R I ⟨g, F, env, P, Rp, w, k⟩ => ?_⟩
  have h : tCons (tE X.K Φ io a) (tCons (tE X.K Φ io b) tNil) σ H fun vs H1 => ∃ t1 t2 q1 q2 xs ys, vs = [.ref q1, .ref q2] ∧ Src X.K t1 H1 q1 xs ∧ Src X.K t2 H1 q2 ys ∧ (st = true → xs.length = ys.length) ∧
      R (ItP (min xs.length ys.length) (fun H => Src X.K t1 H q1 xs ∧ Src X.K t2 H q2 ys) (zip2F xs ys)) H1 :=
    two_ (Qv := fun v1 v2 H1 => ∃ t1 t2 q1 q2 xs ys, [v1, v2] = [V.ref q1, V.ref q2] ∧ Src X.K t1 H1 q1 xs ∧ Src X.K t2 H1 q2 ys ∧ (st = true → xs.length = ys.length) ∧
      R (ItP (min xs.length ys.length) (fun H => Src X.K t1 H q1 xs ∧ Src X.K t2 H q2 ys) (zip2F xs ys)) H1) Rp w fun v1 v2 H' F' r1 r2 env' m R' s1 s2 q => by
      obtain ⟨d1, env2, F2, m2, R2, dn1, q⟩ := asV_ok R' s1 q
      obtain ⟨d2, env3, F3, m3, R3, dn2, q⟩ := asV_ok R2 (s2.mono m2) q
      split at q
      case h_2 => exact q.elim
      case h_1 ds es e1 e2 =>
        obtain ⟨t1, q1, xs, ev1, sq1, dt1⟩ := den_src (dn1.mono m3) e1
        obtain ⟨t2, q2, ys, ev2, sq2, dt2⟩ := den_src dn2 e2
        subst ev1 ev2
        exact ⟨t1, t2, q1, q2, xs, ys, rfl, src_same R3.sub sq1, src_same R3.sub sq2, fun z => by rw [dt1.length, dt2.length]; exact q.1 z, k _ _ _ F3 env3 ((m.trans m2).trans m3) R3 (gives_zip2 sq1 dt1 sq2 dt2) q.2⟩
  refine wpAny_Call_Name_kw (ld_blt I (gl_ok hg) (C.blt "zip" (by decide)) PyProof.Rows.boot_zip (callWith_typeK (thn ((pa_two ha hb n n2).run pos pins s σ H _ I h) fun us s1 ⟨vs, H1, I1, r1, q1⟩ => ?_) (star_cons n [e2] X.env) (one_any n2) rfl rfl))
  obtain ⟨t1, t2, qa, qb, xs, ys, ex, hq1, hq2, hl, q1⟩ := q1
  subst ex
  refine kwAll_cons ?_
  refine wpAny_pure ?_
  refine kwAll_nil ?_
  cases r1 with
  | cons r rr =>
    cases rr with
    | cons r' rr =>
      cases rr
      cases r
      cases r'
      obtain ⟨its, rv, at1, _, lt1⟩ := inv_src I1 hq1
      obtain ⟨its2, rv2, at2, _, lt2⟩ := inv_src I1 hq2
      refine PySem.Zk.begins st (begins_src t1 qa its.toArray) (begins_src t2 qb its2.toArray) at1 at2 fun h' hz hTI hTO h1 h2 hsz hk => PySem.Zk.pyIter_Z hz ?_
      have I2 : Inv X pins σ H1 { s1 with heap := h' } := I1.kept (t' := s1.toks) hk
      refine ⟨s1.heap.objs.size + 4, [s1.heap.objs.size + 4, s1.heap.objs.size + 2, s1.heap.objs.size + 3, s1.heap.objs.size, s1.heap.objs.size + 1], _, _, H1, rfl, I2, ZT _ _ _ t1 t2 xs ys qa qb _ _ _ _ _ hl (zip_sep2 (by simpa using lt1) (by simpa using lt2)) (Nat.ne_of_lt lt1) (Nat.ne_of_lt (Nat.lt_succ_of_lt lt2)),
        ⟨hz, hTI, ⟨_, _, hTO⟩, srcIt_new t1 h1, srcIt_new t2 h2⟩, fun c hcm => ?_, q1⟩
      have e' : c = s1.heap.objs.size + 4 ∨ c = s1.heap.objs.size + 2 ∨ c = s1.heap.objs.size + 3 ∨ c = s1.heap.objs.size ∨ c = s1.heap.objs.size + 1 := by simpa using hcm
      have hle : s1.heap.objs.size ≤ c := by
        rcases e' with z | z | z | z | z
        · rw [z]; exact Nat.le_add_right _ _
        · rw [z]; exact Nat.le_add_right _ _
        · rw [z]; exact Nat.le_add_right _ _
        · rw [z]; exact Nat.le_refl _
        · rw [z]; exact Nat.le_add_right _ _
      exact I1.fpOk hle (I1.hok.fresh hle)
end
end Co

set_option linter.all false
/-! Co26: the turns of a strict zip over two iterators of equal length. -/
namespace PySem
open Sem (wp)
namespace Zk
section
variable {prog : Program} {w : World} {A : Around} {E : Value → Shared → Prop} {s : Shared} {z TI TO i1 i2 it : Addr} {fp fp1 fp2 : List Addr} {n i : Nat} {P P1 P2 : Nat → Value → Prop} {St St1 St2 : Nat → Heap → Prop} {a1 a2 : Value}
theorem noe_item {Q : Option Value → Shared → Prop} (D : Draws prog w A it fp n P St) (hi : i < n) (st : St i s.heap)
    (h : ∀ x h' tk, P i x → St (i + 1) h' → Heap.SameBut it s.heap h' → Q (some x) { s with heap := h', toks := tk }) : wpAny (model prog w) A (Builtin.SmallTypes.nextOrEnd (.ref it)) Q E s := by
  unfold Builtin.SmallTypes.nextOrEnd
  exact wpAny_bind (wpAny_attempt (D.item i s _ _ hi st fun x h' tk p st' sb => wpAny_pure (h x h' tk p st' sb)))
theorem noe_end {Q : Option Value → Shared → Prop} (D : Draws prog w A it fp n P St) (st : St n s.heap)
    (h : ∀ h', Heap.ExtBut it s.heap h' → Q none { s with heap := h' }) : wpAny (model prog w) A (Builtin.SmallTypes.nextOrEnd (.ref it)) Q E s := by
  unfold Builtin.SmallTypes.nextOrEnd
  refine wpAny_bind (wpAny_attempt (D.done s _ _ st fun h' e k he => ?_))
  obtain ⟨o, ho, hc⟩ := he
  refine wpAny_bind (wpAny_isInstance (T := "StopIteration") (b := true) ⟨o, ho, hc⟩ isSubtype_stop ?_)
  exact wpAny_pure (h h' k)
theorem stop_it {α : Type} {Q : α → Shared → Prop} (hh : A.handled = none)
    (h : ∀ h' e, (∀ b o, s.heap.get? b = some o → h'.get? b = some o) → (∃ o, h'.get? e = some o ∧ o.cls = .type "StopIteration") → E (.ref e) { s with heap := h' }) :
    wpAny (model prog w) A (Builtin.SmallTypes.stopIteration : Sem α) Q E s := by
  unfold Builtin.SmallTypes.stopIteration
  show wpAny _ _ (newExc (.type "StopIteration") [] >>= _) _ _ _
  refine wpAny_bind ?_
  simp only [newExc, newTuple]
  refine wpAny_bind (wpAny_newObj_type ?_ (by size_fits))
  refine wpAny_bind (m := firstArgMember _ _) (wpAny_of_eq (a := Value.none) (by first | rfl | (simp only [firstArgMember]; rfl)) ?_)
  refine wpAny_newObj_type ?_ (by size_fits)
  simp only [raiseNew]
  refine wpAny_bind (wpAny_handled ?_)
  first | rw [show A.in1.handled = none from hh] | rw [hh]
  refine wpAny_bind (wpAny_pure (wpAny_throw ?_))
  exact h _ _ (fun b o e => Heap.get?_push_of_some _ (Heap.get?_push_of_some _ e)) ⟨_, Heap.get?_push_size _ rfl, rfl⟩

theorem next_item {Q : Value → Shared → Prop} (S : ZipSep2 z TI TO i1 i2 fp1 fp2) (D1 : Draws prog w A i1 fp1 n P1 St1) (D2 : Draws prog w A i2 fp2 n P2 St2)
    (hz : IsZ true s.heap z TI TO .none) (hTI : IsTupOf2 s.heap TI (.ref i1) (.ref i2)) (hTO : IsTupOf2 s.heap TO a1 a2) (st1 : St1 i s.heap) (st2 : St2 i s.heap) (hlt : i < n)
    (hQ : ∀ x1 x2 h' tk, P1 i x1 → P2 i x2 → IsZ true h' z TI TO (rawInt s.heap.objs.size) → IsTupOf2 h' TO x1 x2 → St1 (i + 1) h' → St2 (i + 1) h' → IsTupOf2 h' s.heap.objs.size x1 x2 → h'.objs.size = s.heap.objs.size + 1 →
      (∀ c o, c ≠ z → c ≠ TO → c ≠ i1 → c ≠ i2 → s.heap.get? c = some o → h'.get? c = some o) → Q (.ref s.heap.objs.size) { s with heap := h', toks := tk }) :
    wpAny (model prog w) A (Builtin.«zip.__next__» ⟨[.ref z], []⟩) (fun fin s' => ∃ v, fin = .done (.ret v) ∧ Q v s') E s := by
  obtain ⟨hp, g, d, tk0, os⟩ := s
  show wpAny _ _ (field (.ref z) 2 >>= _) _ _ _
  refine wpAny_bind (wpAny_field hz rfl (x := .bool true) rfl ?_)
  show wpAny _ _ (field (.ref z) 3 >>= _) _ _ _
  refine wpAny_bind (wpAny_field hz rfl (x := .ref TI) rfl ?_)
  refine wpAny_bind (wpAny_seqItems hTI rfl ?_)
  show wpAny _ _ (Builtin.SmallTypes.ownedTupleIsFree (.ref z) >>= _) _ _ _
  refine wpAny_bind ?_
  unfold Builtin.SmallTypes.ownedTupleIsFree
  refine wpAny_bind (wpAny_field hz rfl (x := .none) rfl (wpAny_pure ?_))
  simp only [if_true]
  refine wpAny_bind (wpAny_rule ?_)
  refine wpAny_bind (wpAny_field hz rfl (x := .ref TO) rfl ?_)
  refine wpAny_bind (wpAny_setField_rec hz (by simp) fun g0 hz0 hs0 => ?_)
  replace hz0 : IsZ true g0 z TI TO .ellipsis := hz0
  replace hs0 : Heap.SameBut z hp g0 := hs0
  refine wpAny_bind ?_
  simp only [List.zipIdx_cons, List.zipIdx_nil, List.forIn_cons, List.forIn_nil]
  refine wpAny_bind (wpAny_bind (wpAny_onRaise ?_))
  show wpAny _ _ (Builtin.SmallTypes.nextOrEnd (.ref i1)) _ _ ⟨g0, g, d, tk0, os⟩
  refine noe_item (s := ⟨g0, g, d, tk0, os⟩) D1 hlt (D1.over st1 hs0 S.zf1) fun x1 p1 tk1 hx1 sn1 hp1 => ?_
  replace hp1 : Heap.SameBut i1 g0 p1 := hp1
  have hU1 : IsTupOf2 p1 TO a1 a2 := hp1.extBut _ _ S.Ti1 (hs0.extBut _ _ S.TOz hTO)
  refine wpAny_bind (wpAny_seqItems (s := ⟨p1, g, d, tk1, os⟩) hU1 rfl ?_)
  refine wpAny_bind (updateSeq_IsTupOf2 (s := ⟨p1, g, d, tk1, os⟩) hU1 fun g1 hT1 hs1 => ?_)
  replace hT1 : IsTupOf2 g1 TO x1 a2 := hT1
  replace hs1 : Heap.SameBut TO p1 g1 := hs1
  refine wpAny_bind (wpAny_letGo (wpAny_pure ?_))
  refine wpAny_bind (wpAny_bind (wpAny_onRaise ?_))
  show wpAny _ _ (Builtin.SmallTypes.nextOrEnd (.ref i2)) _ _ ⟨g1, g, d, tk1, os⟩
  refine noe_item (s := ⟨g1, g, d, tk1, os⟩) D2 hlt (D2.over (D2.over (D2.over st2 hs0 S.zf2) hp1 S.sep1_2) hs1 S.Tf2) fun x2 p2 tk2 hx2 sn2 hp2 => ?_
  replace hp2 : Heap.SameBut i2 g1 p2 := hp2
  have hU2 : IsTupOf2 p2 TO x1 a2 := hp2.extBut _ _ S.Ti2 hT1
  refine wpAny_bind (wpAny_seqItems (s := ⟨p2, g, d, tk2, os⟩) hU2 rfl ?_)
  refine wpAny_bind (updateSeq_IsTupOf2 (s := ⟨p2, g, d, tk2, os⟩) hU2 fun g2 hT2 hs2 => ?_)
  replace hT2 : IsTupOf2 g2 TO x1 x2 := hT2
  replace hs2 : Heap.SameBut TO p2 g2 := hs2
  refine wpAny_bind (wpAny_letGo (wpAny_pure (wpAny_pure ?_)))
  refine wpAny_bind (wpAny_seqItems (s := ⟨g2, g, d, tk2, os⟩) hT2 rfl ?_)
  refine wpAny_bind (wpAny_newTuple ?_)
  have hsz : g2.objs.size = hp.objs.size := by rw [hs2.1, hp2.1, hs1.1, hp1.1, hs0.1]
  have hzz : IsZ true g2 z TI TO .ellipsis := (hs2.extBut _ _ S.TOz.symm (hp2.extBut _ _ S.zi2 (hs1.extBut _ _ S.TOz.symm (hp1.extBut _ _ S.zi1 hz0))))
  have hkk : ∀ c o, c ≠ z → c ≠ TO → c ≠ i1 → c ≠ i2 → hp.get? c = some o → g2.get? c = some o := fun c o cz cT c1 c2 e =>
    (hs2.extBut _ _ cT (hp2.extBut _ _ c2 (hs1.extBut _ _ cT (hp1.extBut _ _ c1 (hs0.extBut _ _ cz e)))))
  have hj1 : St1 (i + 1) g2 := (D1.over (D1.over (D1.over sn1 hs1 S.Tf1) hp2 S.sep2_1) hs2 S.Tf1)
  have hj2 : St2 (i + 1) g2 := (D2.over sn2 hs2 S.Tf2)
  have hzlt : z < g2.objs.size := Heap.lt_size hzz
  show wpAny _ _ (Builtin.SmallTypes.ownedTupleHandOut (.ref z) (.ref g2.objs.size) >>= _) _ _ ⟨g2.push { cls := .type "tuple", data := .seq #[x1, x2] }, g, d, tk2, os⟩
  refine wpAny_bind ?_
  unfold Builtin.SmallTypes.ownedTupleHandOut
  have hz₆ : IsZ true (g2.push { cls := .type "tuple", data := .seq #[x1, x2] }) z TI TO .ellipsis := Heap.get?_push_of_some _ hzz
  refine wpAny_bind (wpAny_setField_rec hz₆ (by simp) fun h₇ hz₇ hs₇ => ?_)
  replace hz₇ : IsZ true h₇ z TI TO (rawInt g2.objs.size) := hz₇
  refine wpAny_setField_rec hz₇ (by simp) fun h₈ hz₈ hs₈ => ?_
  replace hz₈ : IsZ true h₈ z TI TO (rawInt g2.objs.size) := hz₈
  replace hs₇ : Heap.SameBut z (g2.push { cls := .type "tuple", data := .seq #[x1, x2] }) h₇ := hs₇
  replace hs₈ : Heap.SameBut z h₇ h₈ := hs₈
  have up : ∀ c o, c ≠ z → g2.get? c = some o → h₈.get? c = some o := fun c o c1 e => hs₈.extBut _ _ c1 (hs₇.extBut _ _ c1 (Heap.get?_push_of_some _ e))
  have hT₈ : IsTupOf2 h₈ g2.objs.size x1 x2 := hs₈.extBut _ _ (Nat.ne_of_gt hzlt) (hs₇.extBut _ _ (Nat.ne_of_gt hzlt) (Heap.get?_push_size _ rfl))
  have hz8 : h₈.objs.size = g2.objs.size + 1 := by rw [hs₈.1, hs₇.1, Heap.size_push]
  rw [hsz] at hz₈ hT₈ hz8
  refine wpAny_pure ⟨_, rfl, ?_⟩
  show Q (.ref g2.objs.size) ⟨h₈, g, d, tk2, os⟩
  rw [hsz]
  exact hQ x1 x2 h₈ tk2 hx1 hx2 hz₈ (up _ _ S.TOz hT2) (D1.frame _ _ _ hj1 fun b hb o e => up b o (fun q => S.zf1 (q ▸ hb)) e) (D2.frame _ _ _ hj2 fun b hb o e => up b o (fun q => S.zf2 (q ▸ hb)) e) hT₈ hz8 fun c o cz cT c1 c2 e => up c o cz (hkk c o cz cT c1 c2 e)

theorem next_end {Q : Fin → Shared → Prop} (hh : A.handled = none) (S : ZipSep2 z TI TO i1 i2 fp1 fp2) (D1 : Draws prog w A i1 fp1 n P1 St1) (D2 : Draws prog w A i2 fp2 n P2 St2)
    (hz : IsZ true s.heap z TI TO .none) (hTI : IsTupOf2 s.heap TI (.ref i1) (.ref i2)) (hTO : IsTupOf2 s.heap TO a1 a2) (st1 : St1 n s.heap) (st2 : St2 n s.heap)
    (hE : ∀ h' tk e, (∀ c o, c ≠ z → c ≠ TO → c ≠ i1 → c ≠ i2 → s.heap.get? c = some o → h'.get? c = some o) → (∃ o, h'.get? e = some o ∧ o.cls = .type "StopIteration") → E (.ref e) { s with heap := h', toks := tk }) :
    wpAny (model prog w) A (Builtin.«zip.__next__» ⟨[.ref z], []⟩) Q E s := by
  obtain ⟨hp, g, d, tk0, os⟩ := s
  show wpAny _ _ (field (.ref z) 2 >>= _) _ _ _
  refine wpAny_bind (wpAny_field hz rfl (x := .bool true) rfl ?_)
  show wpAny _ _ (field (.ref z) 3 >>= _) _ _ _
  refine wpAny_bind (wpAny_field hz rfl (x := .ref TI) rfl ?_)
  refine wpAny_bind (wpAny_seqItems hTI rfl ?_)
  show wpAny _ _ (Builtin.SmallTypes.ownedTupleIsFree (.ref z) >>= _) _ _ _
  refine wpAny_bind ?_
  unfold Builtin.SmallTypes.ownedTupleIsFree
  refine wpAny_bind (wpAny_field hz rfl (x := .none) rfl (wpAny_pure ?_))
  simp only [if_true]
  refine wpAny_bind (wpAny_rule ?_)
  refine wpAny_bind (wpAny_field hz rfl (x := .ref TO) rfl ?_)
  refine wpAny_bind (wpAny_setField_rec hz (by simp) fun g0 hz0 hs0 => ?_)
  replace hz0 : IsZ true g0 z TI TO .ellipsis := hz0
  replace hs0 : Heap.SameBut z hp g0 := hs0
  refine wpAny_bind ?_
  simp only [List.zipIdx_cons, List.zipIdx_nil, List.forIn_cons, List.forIn_nil]
  refine wpAny_bind (wpAny_bind (wpAny_onRaise ?_))
  show wpAny _ _ (Builtin.SmallTypes.nextOrEnd (.ref i1)) _ _ ⟨g0, g, d, tk0, os⟩
  refine noe_end (s := ⟨g0, g, d, tk0, os⟩) D1 (D1.over st1 hs0 S.zf1) fun p1 hp1 => ?_
  replace hp1 : Heap.ExtBut i1 g0 p1 := hp1
  have hz1 : IsZ true p1 z TI TO .ellipsis := hp1 _ _ S.zi1 hz0
  refine wpAny_bind (wpAny_setField_rec (s := ⟨p1, g, d, tk0, os⟩) hz1 (by simp) fun p2 hz2 hs2 => ?_)
  replace hs2 : Heap.SameBut z p1 p2 := hs2
  refine wpAny_bind ?_
  have hz2' : IsZ true p2 z TI TO .none := hz2
  show wpAny _ _ (_ >>= fun _ => (rule "zip.__next__.all-ended" >>= fun _ => Builtin.SmallTypes.stopIteration)) _ _ ⟨p2, g, d, tk0, os⟩
  refine wpAny_bind ?_
  show wpAny _ _ (forIn [(Value.ref i2, 1)] _ _) _ _ ⟨p2, g, d, tk0, os⟩
  rw [List.forIn_cons]
  refine wpAny_bind ?_
  show wpAny _ _ (Builtin.SmallTypes.nextOrEnd (.ref i2) >>= _) _ _ ⟨p2, g, d, tk0, os⟩
  have st2' : St2 n p2 := D2.over (D2.frame _ _ _ (D2.over st2 hs0 S.zf2) fun b hb o e => hp1 b o (fun q => S.sep1_2 (q ▸ hb)) e) hs2 S.zf2
  refine wpAny_bind (noe_end (s := ⟨p2, g, d, tk0, os⟩) D2 st2' fun p3 hp3 => ?_)
  replace hp3 : Heap.ExtBut i2 p2 p3 := hp3
  refine wpAny_pure ?_
  simp only [List.forIn_nil]
  refine wpAny_pure ?_
  refine wpAny_bind (wpAny_rule ?_)
  refine stop_it (s := ⟨p3, g, d, tk0, os⟩) hh fun h' e k he => ?_
  exact hE h' tk0 e (fun c o cz cT c1 c2 x => k c o (hp3 c o c2 (hs2.extBut _ _ cz (hp1 c o c1 (hs0.extBut _ _ cz x))))) he

theorem pyNext_item {Q : Option Value → Shared → Prop} (S : ZipSep2 z TI TO i1 i2 fp1 fp2) (D1 : Draws prog w A.in1 i1 fp1 n P1 St1) (D2 : Draws prog w A.in1 i2 fp2 n P2 St2)
    (hz : IsZ true s.heap z TI TO .none) (hTI : IsTupOf2 s.heap TI (.ref i1) (.ref i2)) (hTO : IsTupOf2 s.heap TO a1 a2) (st1 : St1 i s.heap) (st2 : St2 i s.heap) (hlt : i < n)
    (hQ : ∀ x1 x2 h' tk, P1 i x1 → P2 i x2 → IsZ true h' z TI TO (rawInt s.heap.objs.size) → IsTupOf2 h' TO x1 x2 → St1 (i + 1) h' → St2 (i + 1) h' → IsTupOf2 h' s.heap.objs.size x1 x2 → h'.objs.size = s.heap.objs.size + 1 →
      (∀ c o, c ≠ z → c ≠ TO → c ≠ i1 → c ≠ i2 → s.heap.get? c = some o → h'.get? c = some o) → Q (some (.ref s.heap.objs.size)) { s with heap := h', toks := tk }) :
    wpAny (model prog w) A (pyNext (.ref z)) Q E s := by
  have hT : s.TypeIs (.ref z) "zip" := ⟨_, hz, rfl⟩
  unfold pyNext
  exact wpAny_bind (wpAny_attempt (wpAny_callSpecial?_slot (name := Str.ofString "__next__") hT F.slot_zip_next
    (wpAny_call_entry F.slot_zip_next hT F.entry_zip_next
      (next_item S D1 D2 hz hTI hTO st1 st2 hlt fun x1 x2 h' tk y1 y2 b1 b2 d1 d2 b5 b6 b7 => wpAny_pure (hQ x1 x2 h' tk y1 y2 b1 b2 d1 d2 b5 b6 b7)) (F.args_zip_next_1 _))))
theorem pyNext_end {Q : Option Value → Shared → Prop} (hh : A.handled = none) (S : ZipSep2 z TI TO i1 i2 fp1 fp2) (D1 : Draws prog w A.in1 i1 fp1 n P1 St1) (D2 : Draws prog w A.in1 i2 fp2 n P2 St2)
    (hz : IsZ true s.heap z TI TO .none) (hTI : IsTupOf2 s.heap TI (.ref i1) (.ref i2)) (hTO : IsTupOf2 s.heap TO a1 a2) (st1 : St1 n s.heap) (st2 : St2 n s.heap)
    (hQ : ∀ h' tk, (∀ c o, c ≠ z → c ≠ TO → c ≠ i1 → c ≠ i2 → s.heap.get? c = some o → h'.get? c = some o) → Q none { s with heap := h', toks := tk }) : wpAny (model prog w) A (pyNext (.ref z)) Q E s := by
  have hT : s.TypeIs (.ref z) "zip" := ⟨_, hz, rfl⟩
  unfold pyNext
  refine wpAny_bind (wpAny_attempt (wpAny_callSpecial?_slot (name := Str.ofString "__next__") hT F.slot_zip_next
    (wpAny_call_entry F.slot_zip_next hT F.entry_zip_next (next_end (by simpa using hh) S D1 D2 hz hTI hTO st1 st2 fun h' tk e hk he => ?_) (F.args_zip_next_1 _))))
  obtain ⟨o, ho, hc⟩ := he
  refine wpAny_bind (wpAny_isInstance (T := "StopIteration") (b := true) ⟨o, ho, hc⟩ isSubtype_stop ?_)
  exact wpAny_pure (hQ _ _ hk)
theorem go_Z {elts : List Expr} {x1} {pos : Pos} {T : Addr} {Q : Unit → Shared → Prop} (hz : IsZ true s.heap z TI TO (rawInt T))
    (hQ : ∀ h', IsZ true h' z TI TO .none → Heap.SameBut z s.heap h' → Q () { s with heap := h' }) :
    wpAny (model prog w) A (letOwnedTupleGo (.Tuple elts x1 pos) (.ref z) (.ref T)) Q E s := by
  unfold letOwnedTupleGo
  refine wpAny_bind (wpAny_load hz ?_)
  show wpAny _ _ (if (["enumerate", "zip", "dict_itemiterator", "dict_reverseitemiterator", "odict_iterator", "itertools.zip_longest", "itertools.pairwise"].contains "zip" &&
      (#[rawInt T, .bool false, .bool true, .ref TI, .ref TO] : Array Value)[0]? == some (rawInt T)) = true then _ else _) Q E s
  rw [if_pos (by simp)]
  refine wpAny_bind (wpAny_rule ?_)
  show wpAny _ _ (setField (.ref z) 0 .none) Q E s
  exact wpAny_setField_rec hz (by simp) fun h' hz' hs' => hQ h' hz' hs'
theorem walks (hh : A.handled = none) (S : ZipSep2 z TI TO i1 i2 fp1 fp2) (D1 : Draws prog w A.in1 i1 fp1 n P1 St1) (D2 : Draws prog w A.in1 i2 fp2 n P2 St2) :
    WalksT prog w A z (z :: TI :: TO :: (fp1 ++ fp2)) [z, TO, i1, i2] n
      (fun i vals => ∃ x1 x2, P1 i x1 ∧ P2 i x2 ∧ vals = #[x1, x2])
      (fun i h => IsZ true h z TI TO .none ∧ IsTupOf2 h TI (.ref i1) (.ref i2) ∧ (∃ a1 a2, IsTupOf2 h TO a1 a2) ∧ St1 i h ∧ St2 i h)
      (fun i T h => IsZ true h z TI TO (rawInt T) ∧ IsTupOf2 h TI (.ref i1) (.ref i2) ∧ (∃ a1 a2, IsTupOf2 h TO a1 a2) ∧ St1 (i + 1) h ∧ St2 (i + 1) h ∧ T ≠ z ∧ T ≠ TO ∧ T ≠ i1 ∧ T ≠ i2) where
  sub := fun c hc => by
    have hc' : c = z ∨ c = TO ∨ c = i1 ∨ c = i2 := by simpa using hc
    rcases hc' with rfl | rfl | rfl | rfl
    · exact List.mem_cons_self ..
    · exact List.mem_cons_of_mem _ (List.mem_cons_of_mem _ (List.mem_cons_self ..))
    · exact List.mem_cons_of_mem _ (List.mem_cons_of_mem _ (List.mem_cons_of_mem _ (List.mem_append_left _ S.mem1)))
    · exact List.mem_cons_of_mem _ (List.mem_cons_of_mem _ (List.mem_cons_of_mem _ (List.mem_append_right _ S.mem2)))
  frame := fun i h h' hst hk => by
    obtain ⟨hz, hTI, ⟨a1, a2, hTO⟩, st1, st2⟩ := hst
    exact ⟨hk z (List.mem_cons_self ..) _ hz, hk TI (List.mem_cons_of_mem _ (List.mem_cons_self ..)) _ hTI, ⟨a1, a2, hk TO (List.mem_cons_of_mem _ (List.mem_cons_of_mem _ (List.mem_cons_self ..))) _ hTO⟩,
      D1.frame _ _ _ st1 fun b hb o e => hk b (List.mem_cons_of_mem _ (List.mem_cons_of_mem _ (List.mem_cons_of_mem _ (List.mem_append_left _ hb)))) o e, D2.frame _ _ _ st2 fun b hb o e => hk b (List.mem_cons_of_mem _ (List.mem_cons_of_mem _ (List.mem_cons_of_mem _ (List.mem_append_right _ hb)))) o e⟩
  item := fun i s Q E hi hst hQ => by
    obtain ⟨hz, hTI, ⟨a1, a2, hTO⟩, st1, st2⟩ := hst
    refine pyNext_item S D1 D2 hz hTI hTO st1 st2 hi fun x1 x2 h' tk y1 y2 b1 b2 d1 d2 b5 b6 hk => ?_
    have lt : ∀ {c o}, s.heap.get? c = some o → s.heap.objs.size ≠ c := fun e => Nat.ne_of_gt (Heap.lt_size e)
    have l1 : s.heap.objs.size ≠ i1 := by obtain ⟨_, e⟩ := D1.live _ _ st1; exact lt e
    have l2 : s.heap.objs.size ≠ i2 := by obtain ⟨_, e⟩ := D2.live _ _ st2; exact lt e
    exact hQ s.heap.objs.size #[x1, x2] h' tk ⟨x1, x2, y1, y2, rfl⟩ (Nat.le_refl _) ⟨_, b5, rfl, _, rfl⟩
      ⟨b1, hk _ _ S.TIz S.TITO S.TIi1 S.TIi2 hTI, ⟨_, _, b2⟩, d1, d2, lt hz, lt hTO, l1, l2⟩
      fun c o hc e => hk c o (fun x => hc (by simp [x])) (fun x => hc (by simp [x])) (fun x => hc (by simp [x])) (fun x => hc (by simp [x])) e
  go := fun elts k pos i T s Q E hm hQ => by
    obtain ⟨hz, hTI, ⟨a1, a2, hTO⟩, st1, st2, _⟩ := hm
    refine go_Z hz fun h' hz' hs' => hQ h' ⟨hz', hs'.extBut _ _ S.TIz hTI, ⟨a1, a2, hs'.extBut _ _ S.TOz hTO⟩, D1.over st1 hs' S.zf1, D2.over st2 hs' S.zf2⟩ fun c o hc e => hs'.extBut _ _ (fun x => hc (by simp [x])) e
  apart := fun i T h hm hT => by
    obtain ⟨_, _, _, _, _, tz, tT, t1, t2⟩ := hm
    have hT' : T = z ∨ T = TO ∨ T = i1 ∨ T = i2 := by simpa using hT
    rcases hT' with e | e | e | e
    · exact tz e
    · exact tT e
    · exact t1 e
    · exact t2 e
  done := fun s Q E hst hQ => by
    obtain ⟨hz, hTI, ⟨a1, a2, hTO⟩, st1, st2⟩ := hst
    exact pyNext_end hh S D1 D2 hz hTI hTO st1 st2 fun h' tk hk => hQ h' tk fun c o hc e =>
      hk c o (fun x => hc (by simp [x])) (fun x => hc (by simp [x])) (fun x => hc (by simp [x])) (fun x => hc (by simp [x])) e
  self := fun i s Q E hst hQ => pyIter_Z hst.1 hQ
end
end Zk
end PySem
namespace Co
open PySem PySem.Spec PyProof.Rows L2 PySem.Zk
theorem turn_zip2Z {P : Program} {w : World} {K : Frag} {elts : List Expr} {kk : Nat} {tpos : Pos} (t1 t2 : Bool) (xs ys : List V) (a b z TI TO i1 i2 : Addr) (hl : xs.length = ys.length) (S : ZipSep2 z TI TO i1 i2 [i1, a] [i2, b]) (ha : a ≠ i1) (hb : b ≠ i2) :
    Turn P w K (.Tuple elts kk tpos) (ItP (min xs.length ys.length) (fun H => Src K t1 H a xs ∧ Src K t2 H b ys) (zip2F xs ys)) [z, TI, TO, i1, i2] z
      (fun i h => IsZ true h z TI TO .none ∧ IsTupOf2 h TI (.ref i1) (.ref i2) ∧ (∃ a1 a2, IsTupOf2 h TO a1 a2) ∧ SrcIt t1 h i1 a i ∧ SrcIt t2 h i2 b i) := by
  have hm : min xs.length ys.length = xs.length := by rw [← hl, Nat.min_self]
  rw [hm]
  refine turn_W (by simp) (fun i h st c hc => ?_) (fun i h h' st k => ?_) (fun X pins s σ H hP hw hK hc I hg => ?_) fun A i s Q E st h => pyIter_Z st.1 h
  · obtain ⟨hz, hTI, ⟨x, y, hTO⟩, h1, h2⟩ := st
    have e' : c = z ∨ c = TI ∨ c = TO ∨ c = i1 ∨ c = i2 := by simpa using hc
    rcases e' with q | q | q | q | q
    · rw [q]; exact ⟨_, hz, fun v q => nomatch q⟩
    · rw [q]; exact ⟨_, hTI, fun v q => nomatch q⟩
    · rw [q]; exact ⟨_, hTO, fun v q => nomatch q⟩
    · rw [q]; exact h1.obj
    · rw [q]; exact h2.obj
  · obtain ⟨hz, hTI, ⟨x, y, hTO⟩, h1, h2⟩ := st
    exact ⟨k z (by simp) _ hz, k TI (by simp) _ hTI, ⟨x, y, k TO (by simp) _ hTO⟩, h1.keep fun o q => k i1 (by simp) o q, h2.keep fun o q => k i2 (by simp) o q⟩
  · subst hP hw hK
    obtain ⟨its, r, at_, _, _⟩ := inv_src I hg.1
    obtain ⟨its2, r2, at2, _, _⟩ := inv_src I hg.2
    have D1 := draws_src t1 (prog := X.prog) (w := X.w) (A := X.A.in1) (I.ok.hd hc) i1 a ha its.toArray
    have D2 := draws_src t2 (prog := X.prog) (w := X.w) (A := X.A.in1) (I.ok.hd hc) i2 b hb its2.toArray
    have hn : its.toArray.size = xs.length := by rw [List.size_toArray, r.length]
    have hn2 : its2.toArray.size = xs.length := by
      have := r2.length
      rw [List.size_toArray]; omega
    rw [hn] at D1
    rw [hn2] at D2
    refine ⟨_, _, _, _, _, walks (I.ok.hd hc) S D1 D2, fun i st => ⟨st.1, st.2.1, st.2.2.1, ⟨st.2.2.2.1, at_⟩, st.2.2.2.2, at2⟩, fun i h' st => ⟨st.1, st.2.1, st.2.2.1, st.2.2.2.1.1, st.2.2.2.2.1⟩, fun c hc => ?_, fun i vals hi ⟨x1, x2, hx, hy, ev⟩ => ?_⟩
    · have e' : c = z ∨ c = TO ∨ c = i1 ∨ c = i2 := by simpa using hc
      rcases e' with q | q | q | q <;> simp [q]
    · obtain ⟨v, hv, rv⟩ := vals_get r hx
      obtain ⟨v2, hv2, rv2⟩ := vals_get r2 hy
      subst ev
      exact ⟨[v, v2], .cons rv (.cons rv2 .nil), by simp, v, v2, hv, hv2, rfl⟩
theorem zturn (X : Cx) (st : Bool) : ZTurn X st := by
  cases st
  · exact zturn_false X
  · exact fun elts kk tpos t1 t2 xs ys a b z TI TO i1 i2 hl S ha hb => turn_zip2Z t1 t2 xs ys a b z TI TO i1 i2 (hl rfl) S ha hb
end Co

set_option linter.all false
/-! Co14: targets, list comprehensions. -/
namespace Co
open PySem PySem.Spec PyProof.Rows L2

def gNs : List Nat → TGs
  | [] => gNil
  | i :: is => gCons (gName i) (gNs is)
def gT (K : Frag) : Tg → TG
  | .nm i => gName i
  | .tp is => gTup K is.length (gNs is)
def Tg.slots : Tg → List Nat
  | .nm i => [i]
  | .tp is => is
/-- the store of a name -/
def mSt (N : List Str) (sc : Scope) (fb : Str → Bool) (i : Nat) (x : Str) : Bool :=
  decide (N[i]? = some x) && (match sc.names.lookup x with | some .local => true | some .cell => fb x | _ => false)
def mSts (N : List Str) (sc : Scope) (fb : Str → Bool) : List Nat → List Expr → Bool
  | [], [] => true
  | i :: is, .Name x _ :: es => mSt N sc fb i x && mSts N sc fb is es
  | _, _ => false
def mTg (N : List Str) (sc : Scope) (fb : Str → Bool) : Tg → Expr → Bool
  | .nm i, .Name x _ => mSt N sc fb i x
  | .tp is, .Tuple es _ _ => mSts N sc fb is es
  | _, _ => false
section
variable {X : Cx} {L : List (String × List Bool)} {Φ : Tbl} {fb : Str → Bool} {io : List Nat} {e : Expr} {pos : Pos}
theorem mSt_ok (C : Ctx X L Φ fb) {i : Nat} {x : Str} (h : mSt X.N X.env.scope fb i x = true) : X.N[i]? = some x ∧ Loc X.env.scope x ∧ (X.fn x = true ∨ X.env.scope.names.lookup x = some .local) := by
  unfold mSt at h
  rw [Bool.and_eq_true, decide_eq_true_eq] at h
  obtain ⟨h1, h2⟩ := h
  split at h2
  · exact ⟨h1, .inl (by assumption), .inr (by assumption)⟩
  · exact ⟨h1, .inr (by assumption), .inl (C.fn _ h2)⟩
  · cases h2
theorem pg_nm (C : Ctx X L Φ fb) {i : Nat} {x : Str} (h : mSt X.N X.env.scope fb i x = true) : PG X (.Name x pos) (gName i) :=
  let ⟨h1, h2, h3⟩ := mSt_ok C h
  pg_name C.nd h1 h2 h3
theorem mSts_each : ∀ {is : List Nat} {es : List Expr}, mSts X.N X.env.scope fb is es = true → (assignEach es X.env).map (·.2) = es.map (fun e => assign e X.env) ∧ (assignEach es X.env).length = is.length ∧ (assignEach es X.env).findIdx? (·.1) = none
  | [], [], _ => ⟨rfl, rfl, rfl⟩
  | [], e :: es, h => by simp [mSts] at h
  | i :: is, [], h => by simp [mSts] at h
  | i :: is, e :: es, h => by
    cases e <;> simp [mSts] at h
    rename_i x p
    obtain ⟨a, b, c⟩ := mSts_each h.2
    refine ⟨?_, ?_, ?_⟩
    · show assign (.Name x p) X.env :: (assignEach es X.env).map (·.2) = _
      rw [a]; rfl
    · show (assignEach es X.env).length + 1 = _
      rw [b]; rfl
    · show List.findIdx? (·.1) ((false, assign (.Name x p) X.env) :: assignEach es X.env) = none
      rw [List.findIdx?_cons, c]; rfl
theorem pgs_nms (C : Ctx X L Φ fb) : ∀ {is : List Nat} {es : List Expr}, mSts X.N X.env.scope fb is es = true → PGs X es (gNs is)
  | [], [], _ => pgs_nil
  | [], e :: es, h => by simp [mSts] at h
  | i :: is, [], h => by simp [mSts] at h
  | i :: is, e :: es, h => by
    cases e <;> simp [mSts] at h
    exact pgs_cons (pg_nm C h.1) (pgs_nms C h.2) rfl
theorem pg_T (C : Ctx X L Φ fb) {tg : Tg} (h : mTg X.N X.env.scope fb tg e = true) : PG X e (gT X.K tg) := by
  cases tg with
  | nm i => cases e <;> simp [mTg] at h; exact pg_nm C h
  | tp is =>
    cases e <;> simp [mTg] at h
    obtain ⟨a, b, c⟩ := mSts_each h
    exact pg_tup C.calm (pgs_nms C h) b c
end

section
variable {K : Frag} {F F' H H' : Hp} {io : List Nat} {g : Gh} {env : Env} {σ : L2.St}
/-- slots that a target may take -/
def wfSl (n : Nat) (io : List Nat) (is : List Nat) : Bool := is.all fun i => decide (i < n) && !io.contains i
theorem wfSl_ok {n : Nat} {is : List Nat} (h : wfSl n io is = true) : ∀ i ∈ is, i < n ∧ i ∉ io := fun i hi => by
  have := List.all_eq_true.mp h i hi
  simpa using this
theorem setMany_length : ∀ {is : List Nat} {xs : List Sl} {env : Env}, (setMany env is xs).length = env.length
  | [], xs, env => by cases xs <;> rfl
  | i :: is, [], env => rfl
  | i :: is, x :: xs, env => by unfold setMany; rw [setMany_length]; simp
/-- σ' is σ but at the slots is -/
def OffSl (is : List Nat) (σ σ' : L2.St) : Prop := σ'.length = σ.length ∧ ∀ j, j ∉ is → σ'[j]? = σ[j]?
theorem wipe_get {σ : L2.St} {j : Nat} : ∀ {vs : List Nat}, (wipe σ vs)[j]? = if j ∈ vs then σ[j]?.map (fun _ => none) else σ[j]?
  | [] => by simp [wipe]
  | v :: vs => by
    unfold wipe
    by_cases e : v = j
    · subst e
      rw [if_pos List.mem_cons_self]
      by_cases l : v < (wipe σ vs).length
      · rw [List.getElem?_set_self l]
        rw [wipe_length] at l
        simp [l]
      · rw [List.getElem?_eq_none (by simpa using l)]
        rw [wipe_length] at l
        rw [List.getElem?_eq_none (by omega)]; rfl
    · rw [List.getElem?_set_ne e, wipe_get (vs := vs)]
      have : (j ∈ v :: vs) = (j ∈ vs) := by simp [Ne.symm e]
      simp only [this]
theorem OffSl.wipe {is vs : List Nat} {σ σ' : L2.St} (h : OffSl is σ σ') (hs : ∀ i ∈ is, i ∈ vs) : L2.wipe σ' vs = L2.wipe σ vs := by
  apply List.ext_getElem?
  intro j
  rw [wipe_get, wipe_get]
  by_cases e : j ∈ vs
  · rw [if_pos e, if_pos e]
    by_cases l : j < σ.length
    · have l' : j < σ'.length := by rw [h.1]; exact l
      simp [l, l']
    · have l' : ¬ j < σ'.length := by rw [h.1]; exact l
      rw [List.getElem?_eq_none (by omega), List.getElem?_eq_none (by omega)]
  · rw [if_neg e, if_neg e, h.2 j fun z => e (hs j z)]
theorem OffSl.refl (is : List Nat) (σ : L2.St) : OffSl is σ σ := ⟨rfl, fun _ _ => rfl⟩
theorem OffSl.set {is : List Nat} {σ σ' : L2.St} {i : Nat} {x : Option V} (h : OffSl is (σ.set i x) σ') : OffSl (i :: is) σ σ' := by
  refine ⟨by rw [h.1]; simp, fun j hj => ?_⟩
  simp only [List.mem_cons, not_or] at hj
  rw [h.2 j hj.2, List.getElem?_set_ne (fun e => hj.1 e.symm)]
/-- many values stored -/
theorem stores_ok {P : Env → Prop} {Q : L2.St → Hp → Prop} : ∀ {is : List Nat} {vs : List V} {ds : List PyData} {env : Env} {σ : L2.St}, Rep K io g env σ F H → DenAll K F vs ds → ds.length = is.length → wfSl env.length io is = true →
    P (setMany env is (ds.map .val)) → (∀ σ' env', OffSl is σ σ' → Rep K io g env' σ' F H → P env' → Q σ' H) → gNs is vs σ H Q
  | [], vs, ds, env, σ, R, t, hl, wf, p, k => by
    have : ds = [] := by simpa using hl
    subst this
    cases t
    exact ⟨rfl, k σ env (OffSl.refl [] σ) R p⟩
  | i :: is, vs, ds, env, σ, R, t, hl, wf, p, k => by
    cases t with
    | nil => cases hl
    | @cons v vs d ds dn t =>
      have w := wfSl_ok wf i List.mem_cons_self
      have wf' : wfSl (env.set i (some (.val d))).length io is = true := by
        unfold wfSl at wf ⊢
        rw [List.all_cons, Bool.and_eq_true] at wf
        rw [List.length_set]; exact wf.2
      exact ⟨v, vs, rfl, stores_ok (R.storeVal w.1 w.2 dn) t (by simpa using hl) wf' p fun σ' env' off R' q => k σ' env' off.set R' q⟩
theorem bind_ok {tg : Tg} {x : PyData} {v : V} {P : Env → Prop} {Q : L2.St → Hp → Prop} (R : Rep K io g env σ F H) (o : Out K F H (.val x) v H') (wf : wfSl env.length io tg.slots = true) (w : bindT tg x env P)
    (k : ∀ σ' env' F', OffSl tg.slots σ σ' → Same F F' → Rep K io g env' σ' F' H' → P env' → Q σ' H') : gT K tg v σ H' Q := by
  obtain ⟨F1, m1, R1, dn⟩ := out_ok R o
  cases tg with
  | nm i =>
    have hw := wfSl_ok wf i List.mem_cons_self
    exact k _ _ F1 (OffSl.set (OffSl.refl [] _)) m1 (R1.storeVal hw.1 hw.2 dn) w
  | tp is =>
    unfold bindT at w
    simp only at w
    split at w
    case h_2 => exact w.elim
    case h_1 xs =>
      have dn : Den K F1 v (.tuple xs) := dn
      cases dn with
      | tup sq t =>
        refine ⟨_, _, rfl, same_sqT R1.sub sq, by rw [t.length]; exact w.1, ?_⟩
        exact stores_ok (P := P) R1 t w.1 wf w.2 fun σ' env' off R' p => k σ' env' F1 off m1 R' p

/-- the new list of a comprehension has grown -/
theorem tmp_set {D : Addr} {d d' : PyData} {o : HO} (R : Rep K io (g.tmp D d) env σ F H) (h : OwnAt K F (upd H D o) D d') : Rep K io (g.tmp D d') env σ F (upd H D o) := by
  obtain ⟨R0, p, e, n, ow, h0, ht, hs⟩ := R.pop
  cases e
  have hi : ∀ i, (i, D) ∉ g.ins := fun i z => by
    obtain ⟨_, _, w, hw⟩ := R0.ins _ z
    rw [show g.H0 D = some w from hw] at h0; cases h0
  have R1 : Rep K io g env σ F (upd H D o) := R0.change n (.inl h0) rfl (fun _ _ q => q) (fun i d q => .inl ⟨q, hs i d q⟩) (fun i d q => .inl ⟨q, hi i⟩) (fun i hi' => by
    rw [← R0.insI] at hi'
    obtain ⟨w, hw, rfl⟩ := List.mem_map.mp hi'
    exact (R0.ins w hw).2.1) ht
  exact R1.push ⟨D, rfl, n, h, h0, ht, hs⟩
end

theorem wipe_wipe (σ : L2.St) (vs : List Nat) : wipe (wipe σ vs) vs = wipe σ vs := by
  apply List.ext_getElem?
  intro j
  rw [wipe_get, wipe_get]
  by_cases e : j ∈ vs
  · simp only [if_pos e]
    cases σ[j]? <;> rfl
  · simp only [if_neg e]
def tCs (K : Frag) (Φ : Tbl) (io : List Nat) (cs : Es) : TT := fun σ H Qb => ∃ (g : Gh) (F : Hp) (env : Env) (P : Bool → Env → Prop), Rep K io g env σ F H ∧ wpCs Φ cs env P ∧
  ∀ b H' F' env', Same F F' → Rep K io g env' σ F' H' → P b env' → Qb b H'
/-- every element of a comprehension -/
theorem lc_red {K : Frag} {Φ : Tbl} {io : List Nat} {g : Gh} {F H : Hp} {env : Env} {σ : L2.St} {own : List Nat} {tg : Tg} {it : It} {cs : Es} {elt : E} {n : Nat} {Q : R → Env → Prop} {Qv : V → Hp → Prop} (hl : σ.length = n) (wfo : wfSl n io own = true) (wft : ∀ i ∈ tg.slots, i ∈ own)
    (Rp : Rep K io g env σ F H) (w : wpE Φ (.lc own tg it cs elt) env Q) (k : ∀ v H' F' r env', Same F F' → Rep K io g env' σ F' H' → RDen K g F' H' σ env' v r → Q r env' → Qv v H') :
    tLc (tI K Φ io it) (gT K tg) (tCs K Φ io cs) (tE K Φ io elt) own σ H Qv := by
  refine ⟨g, F, env, _, Rp, w, fun items J H1 F1 env1 m1 R1 gv ⟨hlen, w⟩ D hD => ?_⟩
  obtain ⟨Y, wk, hy⟩ := gv
  have hown := wfSl_ok wfo
  obtain ⟨h0, hF, ht, hi, ho⟩ := R1.h0 hD
  have Rt : Rep K io (g.tmp D (.list [])) env1 σ F1 (upd H1 D (.lst [])) := (R1.lay hD).push ⟨D, rfl, hF, ⟨[], upd_same, .nil⟩, h0, ht, ho⟩
  refine lc_it wk (fun i H => ∃ env2 F2 acc, Same F1 F2 ∧ Rep K io (g.tmp D (.list acc)) (wipeE env2 own) (wipe σ own) F2 H ∧ acc.length ≤ i ∧
      lcGo (bindT tg) (wpCs Φ cs) (fun e K => wpE Φ elt e fun r e1 => asV r e1 K) own (items.drop i) acc env2 fun ds env2 => Q (.own (.list ds)) (unwipe env1 env2 own)) ?_ ?_ ?_ ?_
  · exact ⟨env1, F1, [], Same.refl F1, Rt.wipe fun i hi => (hown i hi).2, Nat.le_refl 0, w⟩
  · rintro i H hi ⟨env2, F2, acc, m2, R2, _⟩
    exact m2.trans R2.sub
  · rintro i x H H' hi ⟨env2, F2, acc, m2, R2, hacc, w⟩ y
    obtain ⟨d, hd, hout⟩ := hy i H x H' hi (m2.trans R2.sub) y
    have hdrop : items.drop i = d :: items.drop (i + 1) := by
      rw [List.getElem?_eq_getElem hi] at hd
      cases hd
      exact List.drop_eq_getElem_cons hi
    rw [hdrop] at w
    have wf2 : wfSl (wipeE env2 own).length io tg.slots = true := by
      refine List.all_eq_true.mpr fun i hi => ?_
      have := hown i (wft i hi)
      have hl' : (wipeE env2 own).length = n := by rw [R2.len, wipe_length]; exact hl
      rw [hl']
      simpa using this
    refine bind_ok R2 (hout F2 m2 R2.sub) wf2 w fun σ3 env3 F3 off m3 R3 q => ?_
    have hw : wipe σ3 own = wipe σ own := by rw [off.wipe wft, wipe_wipe]
    refine ⟨hw, g.tmp D (.list acc), F3, env3, _, R3, q, fun b H4 F4 env4 m4 R4 q => ?_⟩
    cases b with
    | false =>
      rw [if_neg (by decide)] at q ⊢
      have R5 := R4.wipe (vs := own) fun i hi => (hown i hi).2
      rw [hw] at R5
      exact ⟨env4, F4, acc, ((m2.trans m3).trans m4), R5, by omega, q⟩
    | true =>
      rw [if_pos rfl] at q ⊢
      refine one_ R4 q fun v H5 F5 r env5 m5 R5 s5 q => ?_
      obtain ⟨dy, env6, F6, m6, R6, dn, q⟩ := asV_ok R5 s5 q
      obtain ⟨_, ⟨vs, hvs, tvs⟩, _⟩ := R6.tmp (D, .list acc) List.mem_cons_self
      refine ⟨vs, hvs, ?_, ?_⟩
      · rw [tvs.length, sizeLine_eq]
        have : items.length < 16777216 := hlen
        omega
      · have R7 := (tmp_set (d' := .list (acc ++ [dy])) (o := .lst (vs ++ [v])) R6 ⟨_, upd_same, tvs.append (.cons dn .nil)⟩).wipe (vs := own) fun i hi => (hown i hi).2
        rw [hw] at R7
        exact ⟨env6, F6, acc ++ [dy], ((((m2.trans m3).trans m4).trans m5).trans m6), R7, by simp; omega, q⟩
  · rintro H ⟨env2, F2, acc, m2, R2, hacc, w⟩
    rw [List.drop_length] at w
    obtain ⟨R3, p, e, h1, h2, h3, h4, h5⟩ := R2.pop
    cases e
    have R4 := Rep.unwipe R1 (fun i hi => (hown i hi).2) m2 R3
    refine k _ H F2 (.own (.list acc)) _ (m1.trans m2) R4 ⟨D, rfl, h1, h2, h3, h4, fun i d' hs z => ?_⟩ w
    rcases slot_unwipe hs with ⟨a, b, _, c⟩ | ⟨a, b⟩
    · cases c
    · exact h5 i d' b (by rw [wipe_out a]; exact z)
theorem PE.weakL {X : Cx} {e : Expr} {t t' : TE} (h : PE X e t) (w : ∀ σ H Q, σ.length = X.N.length → t' σ H Q → t σ H Q) : PE X e t' := ⟨fun pins s σ H Q I q => h.run pins s σ H Q I (w _ _ _ I.len q)⟩
def nmSl (N : List Str) (own : List Nat) : List (Str × Nat) := own.map fun i => (N[i]?.getD default, i)
theorem nmSl_snd (N : List Str) (own : List Nat) : (nmSl N own).map (·.2) = own := by
  unfold nmSl; rw [List.map_map]; exact (List.map_congr_left fun _ _ => rfl).trans (List.map_id own)
section
variable {X : Cx} {L : List (String × List Bool)} {Φ : Tbl} {fb : Str → Bool} {io : List Nat} {e : Expr} {pos : Pos}
abbrev blkFb (scope : Scope) : Str → Bool := fun x => scope.names.lookup x == some .cell
theorem Ctx.blk (C : Ctx X L Φ fb) {s : Shared} {H : Hp} {scope : Scope} {D : Addr} {cl : List (Str × Addr)} {fp : List Addr} (hk : scope.kind = .function) : Ctx (X.blk s H scope (compEnvC scope cl D X.env) fp) L Φ (blkFb scope) :=
  ⟨rfl, hk, fun _ h => h, C.nd, C.calm, C.hu, C.gd, C.sys, C.blt, C.fns, C.cst⟩
theorem e_lc (C : Ctx X L Φ fb) {own : List Nat} {tg : Tg} {it : It} {cs : Es} {elt : E} {etg iter eelt : Expr} {ifs : List Expr} {scope : Scope} (hi : PI X etg iter (tI X.K Φ io it)) (ns : notSet iter = true)
    (ok : blkC X.N X.env.scope scope (nmSl X.N own) = true)
    (hg : ∀ (s : Shared) (H : Hp) (D : Addr) (cl : List (Str × Addr)) (fp : List Addr), PG (X.blk s H scope (compEnvC scope cl D X.env) fp) etg (gT X.K tg))
    (ht : ∀ (s : Shared) (H : Hp) (D : Addr) (cl : List (Str × Addr)) (fp : List Addr), PTs (X.blk s H scope (compEnvC scope cl D X.env) fp) ifs (tCs X.K Φ io cs))
    (he : ∀ (s : Shared) (H : Hp) (D : Addr) (cl : List (Str × Addr)) (fp : List Addr), PE (X.blk s H scope (compEnvC scope cl D X.env) fp) eelt (tE X.K Φ io elt))
    (wfo : wfSl X.N.length io own = true) (wft : ∀ i ∈ tg.slots, i ∈ own) :
    PE X (.ListComp eelt [⟨etg, iter, ifs, 0⟩] scope pos) (tE X.K Φ io (.lc own tg it cs elt)) :=
  PE.weakL (pe_lc C.calm C.nd hi (blkOk_by ok) hg ht he fun x => folded_ok ns X.env x) fun σ H Q hl ⟨g, F, env, Q', Rp, w, k⟩ => by
    rw [nmSl_snd]
    exact lc_red hl wfo wft Rp w k
end
end Co

set_option linter.all false
/-! Co29: a dict display of two pairs, its keys whole numbers. -/
namespace Co
open PySem PySem.Spec PyProof.Rows L2
section
variable {X : Cx} {Φ : Tbl} {io : List Nat} {a b : E} {e1 e2 : Expr} {pos p1 p2 : Pos}
theorem StDen.still' {K : Frag} {F : Hp} {σ : L2.St} {v : V} {r : R} (h : StDen K F σ v r) : StDen K F σ v r.still := by cases r <;> exact h
theorem e_dct2 {k1 k2 : Int} {j1 j2 : Nat} (hne : k1 ≠ k2) (ha : PE X e1 (tE X.K Φ io a)) (hb : PE X e2 (tE X.K Φ io b)) :
    PE X (.Dict [some (.Constant (.int k1) j1 p1), some (.Constant (.int k2) j2 p2)] [e1, e2] pos) (tE X.K Φ io (.dct (.cons (.cst (.int k1)) (.cons a (.cons (.cst (.int k2)) (.cons b .nil)))))) :=
  PE.weak (pe_disp (pps_cons pe_int ha (pps_cons pe_int hb pps_nil)) rfl rfl (by simp) (by simp)) fun σ H Q ⟨g, F, env, Q', Rp, w, k⟩ p n => by
    obtain ⟨h0, hF, ht, hi, ho⟩ := Rp.h0 n
    have Rt : Rep X.K io (g.tmp p (.dict [])) env σ F (upd H p (.dK [])) := (Rp.lay n).push ⟨p, rfl, hF, ⟨[], [], upd_same, .nil, rfl⟩, h0, ht, ho⟩
    refine two_ (Qv := fun v1 v2 H2 => H2 p = some (.dK []) ∧ ∃ kvs : List (Key × V), [(V.int k1, v1), (V.int k2, v2)] = kvs.map (fun kv => (kV kv.1, kv.2)) ∧ kvs.length ≤ 15 ∧ Q (.ref p) (upd H2 p (.dK (mergeK [] kvs)))) Rt w fun v1 v2 H' F' r1 r2 env' m R' s1 s2 q => ?_
    have q' : asVs [.val (.int k1), r1.still, .val (.int k2), r2.still] env' (fun ds env2 => dctD ds fun kvs => Q' (.own (.dict kvs)) env2) := q
    have i1 : StDen X.K F' σ (V.int k1) (.val (.int k1)) := Den.int _
    have i2 : StDen X.K F' σ (V.int k2) (.val (.int k2)) := Den.int _
    obtain ⟨ds, env3, F3, m3, R3, dn, q3⟩ := asVs_ok R' (vs := [V.int k1, v1, V.int k2, v2]) (.cons i1 (.cons s1.still' (.cons i2 (.cons s2.still' .nil)))) q'
    cases dn with
    | cons z1 dn => cases dn with
      | cons z2 dn => cases dn with
        | cons z3 dn => cases dn with
          | cons z4 dn =>
            cases dn
            cases z1
            cases z3
            rename_i d1 d2
            have e2 : PyData.eqv (.int k1) (.int k2) = false := by simp [PyData.eqv, hne]
            obtain ⟨_, _, _, q4⟩ := q3
            obtain ⟨_, p', e, f1, f2, _⟩ := R3.pop
            cases e
            obtain ⟨kv, ds, h1, h2, h3⟩ := f2
            have hkv : kv = [] := by
              cases kv with
              | nil => rfl
              | cons x kv =>
                cases h2
                cases h3
            subst hkv
            refine ⟨h1, [(.inl k1, v1), (.inl k2, v2)], rfl, by simp, ?_⟩
            have hne2 : ¬ (Sum.inl k1 : Key) = Sum.inl k2 := fun e => hne (Sum.inl.inj e)
            have em : mergeK [] [((Sum.inl k1 : Key), v1), (Sum.inl k2, v2)] = [(Sum.inl k1, v1), (Sum.inl k2, v2)] := by simp [mergeK, L2.putK, hne2]
            have ed : Co.putK (Co.putK [] (.int k1) d1) (.int k2) d2 = [(.int k1, d1), (.int k2, d2)] := by simp [Co.putK, e2]
            rw [em]
            rw [ed] at q4
            have R4 := tmp_set (d' := .dict [(.int k1, d1), (.int k2, d2)]) (o := .dK [(Sum.inl k1, v1), (Sum.inl k2, v2)]) R3 ⟨_, [d1, d2], upd_same, .cons z2 (.cons z4 .nil), rfl⟩
            obtain ⟨R5, rd⟩ := R4.pop
            exact k _ _ F3 (.own (.dict _)) env3 (m.trans m3) R5 rd q4
end
end Co

set_option linter.all false
/-! Co15: several values stored at once. -/
namespace Co
open PySem PySem.Spec PyProof.Rows L2

/-- what an expression handed back, a name being told by its slot alone -/
def PDen (K : Frag) (g : Gh) (F H : Hp) (σ : L2.St) (env : Env) (v : V) : R → Prop
  | .pl i => σ[i]? = some (some v)
  | r => RDen K g F H σ env v r
def ownA : List V → List R → List Addr
  | .ref p :: vs, .own _ :: rs => p :: ownA vs rs
  | _ :: vs, _ :: rs => ownA vs rs
  | _, _ => []
section
variable {K : Frag} {F F' H H' : Hp} {io : List Nat} {g : Gh} {env env' : Env} {σ : L2.St}
theorem RDen.pd {v : V} {r : R} (h : RDen K g F H σ env v r) : PDen K g F H σ env v r := by
  cases r with
  | pl i => exact h.1
  | val d => exact h
  | own d => exact h
/-- the ghost of some results -/
def Gh.tmps' : Gh → List V → List R → Gh
  | g, .ref p :: vs, .own d :: rs => (g.tmp p d).tmps' vs rs
  | g, _ :: vs, _ :: rs => g.tmps' vs rs
  | g, _, _ => g
def tA' (K : Frag) (Φ : Tbl) (io : List Nat) (es : Es) : TA := fun σ H Qs => ∃ (g : Gh) (F : Hp) (env : Env) (Q : List R → Env → Prop), Rep K io g env σ F H ∧ wpEs' Φ es env Q ∧
  ∀ vs H' F' rs env', vs.length = es.len → Same F F' → Rep K io (g.tmps' vs rs) env' σ F' H' → Paired (fun v r => match r with | .own _ => ∃ p, v = .ref p | r => StDen K F' σ v r) vs rs → Q rs env' → Qs vs H'
theorem pdrop {X : Cx} {e : Expr} {es : List Expr} {a : E} {cs : Es} {Φ : Tbl} (he : PE X e (tE X.K Φ io a)) (hs : PA X es (tA' X.K Φ io cs)) (n : notStar e = true) : PA X (e :: es) (tA' X.K Φ io (.cons a cs)) :=
  PA.weak (pa_cons he hs (star_cons n es X.env)) fun σ H Q ⟨g, F, env, Q', Rp, w, k⟩ => ⟨g, F, env, _, Rp, w, fun v H1 F1 r env1 m1 R1 d q => by
    cases r with
    | own dd =>
      have d' := d
      obtain ⟨p, ev, _⟩ := d'
      subst ev
      refine ⟨g.tmp p dd, F1, env1, _, R1.push d, q, fun vs H2 F2 rs env2 l m2 R2 s2 q2 => ?_⟩
      exact k (.ref p :: vs) H2 F2 (.own dd :: rs) env2 (by simp [l, Es.len]) (m1.trans m2) R2 (.cons ⟨p, rfl⟩ s2) q2
    | val dd =>
      refine ⟨g, F1, env1, _, R1, q, fun vs H2 F2 rs env2 l m2 R2 s2 q2 => ?_⟩
      exact k (v :: vs) H2 F2 (.val dd :: rs) env2 (by simp [l, Es.len]) (m1.trans m2) (by cases v <;> exact R2) (.cons (Den.mono m2 d) s2) q2
    | pl i =>
      refine ⟨g, F1, env1, _, R1, q, fun vs H2 F2 rs env2 l m2 R2 s2 q2 => ?_⟩
      exact k (v :: vs) H2 F2 (.pl i :: rs) env2 (by simp [l, Es.len]) (m1.trans m2) (by cases v <;> exact R2) (.cons d.1 s2) q2⟩
theorem pdnil {X : Cx} {Φ : Tbl} : PA X [] (tA' X.K Φ io .nil) := PA.weak pa_nil fun σ H Q ⟨g, F, env, Q', Rp, w, k⟩ => k [] H F [] env rfl (Same.refl F) Rp .nil w
/-- all the temporaries come out again -/
theorem tmps_pop : ∀ {vs : List V} {rs : List R} {g : Gh}, Rep K io (g.tmps' vs rs) env σ F H → Paired (fun v r => match r with | .own _ => ∃ p, v = .ref p | r => StDen K F σ v r) vs rs →
    Rep K io g env σ F H ∧ Paired (PDen K g F H σ env) vs rs ∧ (ownA vs rs).Nodup ∧ (∀ p ∈ ownA vs rs, ∀ t ∈ g.tmps, t.1 ≠ p)
  | [], rs, g, R, P => by cases P; exact ⟨R, .nil, List.nodup_nil, fun p hp => absurd hp (by simp [ownA])⟩
  | v :: vs, rs, g, R, P => by
    cases P with
    | @cons _ r _ rs h t =>
      cases r with
      | own d =>
        obtain ⟨p, rfl⟩ := h
        obtain ⟨R1, P1, nd, nt⟩ := tmps_pop (g := g.tmp p d) R t
        obtain ⟨R2, d2⟩ := R1.pop
        refine ⟨R2, .cons d2 (Paired.mapP P1 fun v r z => ?_), ?_, fun q hq t' ht' => ?_⟩
        · cases r with
          | val d => exact z
          | pl i => exact z
          | own d =>
            obtain ⟨q, e, a, b, c, dd, ee⟩ := z
            exact ⟨q, e, a, b, c, fun t ht => dd t (List.mem_cons_of_mem _ ht), ee⟩
        · show (p :: ownA vs rs).Nodup
          rw [List.nodup_cons]
          exact ⟨fun z => nt p z (p, d) List.mem_cons_self rfl, nd⟩
        · rcases List.mem_cons.mp (show q ∈ p :: ownA vs rs from hq) with rfl | hq
          · obtain ⟨p', e, _, _, _, tt, _⟩ := d2
            cases e
            exact tt t' ht'
          · exact nt q hq t' (List.mem_cons_of_mem _ ht')
      | val d =>
        obtain ⟨R1, P1, nd, nt⟩ := tmps_pop (g := g) (vs := vs) (rs := rs) (by cases v <;> exact R) t
        have e : ownA (v :: vs) (.val d :: rs) = ownA vs rs := by cases v <;> rfl
        exact ⟨R1, .cons h P1, by rw [e]; exact nd, by rw [e]; exact nt⟩
      | pl i =>
        obtain ⟨R1, P1, nd, nt⟩ := tmps_pop (g := g) (vs := vs) (rs := rs) (by cases v <;> exact R) t
        have e : ownA (v :: vs) (.pl i :: rs) = ownA vs rs := by cases v <;> rfl
        exact ⟨R1, .cons h P1, by rw [e]; exact nd, by rw [e]; exact nt⟩
def slA : List V → List Sl → List Addr
  | .ref p :: vs, .own _ :: rs => p :: slA vs rs
  | _ :: vs, _ :: rs => slA vs rs
  | _, _ => []
/-- asS for a list of results -/
theorem asSs_ok : ∀ {vs : List V} {rs : List R} {env : Env} {P : List Sl → Env → Prop}, Rep K io g env σ F H → Paired (PDen K g F H σ env) vs rs → (ownA vs rs).Nodup → asSs rs env P →
    ∃ ss env', Rep K io g env' σ F H ∧ Paired (fun v s => SDen K g F H σ env' v s ∧ ∀ d, s ≠ .io d) vs ss ∧ (slA vs ss).Nodup ∧ env'.length = env.length ∧ P ss env' ∧
      (∀ i d, slot env' i = some (.own d) → slot env i = some (.own d)) ∧ (∀ p ∈ slA vs ss, p ∈ ownA vs rs ∨ ∃ i d, slot env i = some (.own d) ∧ σ[i]? = some (some (.ref p)))
  | [], rs, env, P, R, h, nd, e => by
    cases h
    exact ⟨[], env, R, .nil, List.nodup_nil, rfl, e, fun _ _ h => h, fun p hp => absurd hp (by simp [slA])⟩
  | v :: vs, rs, env, P, R, h, nd, e => by
    cases h with
    | @cons _ r _ rs h t =>
      have step : ∃ s env1, Rep K io g env1 σ F H ∧ SDen K g F H σ env1 v s ∧ (∀ d, s ≠ .io d) ∧ env1.length = env.length ∧ asSs rs env1 (fun ds env2 => P (s :: ds) env2) ∧ (∀ i d, slot env1 i = some (.own d) → slot env i = some (.own d)) ∧
          (∀ d, s = .own d → (r = .own d) ∨ ∃ i, r = .pl i ∧ slot env i = some (.own d) ∧ slot env1 i = none) := by
        unfold asSs asS at e
        cases r with
        | val d => exact ⟨.val d, env, R, h, (fun _ z => nomatch z), rfl, e, fun _ _ h => h, fun d z => nomatch z⟩
        | own d => exact ⟨.own d, env, R, h, (fun _ z => nomatch z), rfl, e, fun _ _ h => h, fun d' z => by cases z; exact .inl rfl⟩
        | pl i =>
          simp only at e
          cases q : slot env i with
          | none => rw [q] at e; exact e.elim
          | some s =>
            rw [q] at e
            cases s with
            | val d =>
              have := asS_ok (P := fun s _ => s = .val d ∧ True) R (show RDen K g F H σ env v (.pl i) from ⟨h, by rw [q]; rfl⟩) (by unfold asS; simp [q])
              obtain ⟨s, env1, R1, sd, ni, hl, es, _⟩ := this
              subst es
              obtain ⟨v', a, c⟩ := R.vals i _ q
              have hs : σ[i]? = some (some v) := h
              rw [hs] at a; cases a
              exact ⟨.val d, env, R, c, (fun _ z => nomatch z), rfl, e, fun _ _ h => h, fun d z => nomatch z⟩
            | own d =>
              have hi := slot_lt q
              have := asS_ok (P := fun s env1 => s = .own d ∧ env1 = env.set i none) R (show RDen K g F H σ env v (.pl i) from ⟨h, by rw [q]; rfl⟩) (by unfold asS; simp [q])
              obtain ⟨s, env1, R1, sd, ni, hl, es, ee⟩ := this
              subst es ee
              refine ⟨.own d, _, R1, sd, ni, hl, e, fun j d' z => ?_, fun d' z => by cases z; exact .inr ⟨i, rfl, q, by rw [slot_set' hi, if_pos rfl]⟩⟩
              rw [slot_set' hi] at z
              by_cases ej : i = j
              · rw [if_pos ej] at z; cases z
              · rw [if_neg ej] at z; exact z
            | io d => exact e.elim
      obtain ⟨s, env1, R1, sd, ni, hl, e1, sub, src⟩ := step
      have t1 : Paired (PDen K g F H σ env1) vs rs := Paired.mapP t fun v r z => by
        cases r with
        | val d => exact z
        | pl i => exact z
        | own d =>
          obtain ⟨q, e, a, b, c, dd, ee⟩ := z
          exact ⟨q, e, a, b, c, dd, fun i d' hh => ee i d' (sub i d' hh)⟩
      have ndt : (ownA vs rs).Nodup := by
        cases r with
        | own d =>
          cases v with
          | ref p => exact (List.nodup_cons.mp nd).2
          | _ => exact nd
        | val d => cases v <;> exact nd
        | pl i => cases v <;> exact nd
      obtain ⟨ss, env2, R2, P2, nd2, hl2, q2, sub2, src2⟩ := asSs_ok R1 t1 ndt e1
      refine ⟨s :: ss, env2, R2, .cons ⟨?_, ni⟩ P2, ?_, hl2.trans hl, q2, fun i d hh => sub i d (sub2 i d hh), ?_⟩
      · cases s with
        | val d => exact sd
        | io d => exact sd
        | own d =>
          obtain ⟨q, e, a, b, c, dd, ee⟩ := sd
          exact ⟨q, e, a, b, c, dd, fun i d' hh => ee i d' (sub2 i d' hh)⟩
      · cases s with
        | val d => cases v <;> exact nd2
        | io d => cases v <;> exact nd2
        | own d =>
          obtain ⟨q, e, a, b, c, dd, ee⟩ := sd
          cases e
          show (q :: slA vs ss).Nodup
          rw [List.nodup_cons]
          refine ⟨fun hq => ?_, nd2⟩
          rcases src2 q hq with hq | ⟨i, d', h1, h2⟩
          · rcases src d rfl with rfl | ⟨i, rfl, h1, h2⟩
            · exact (List.nodup_cons.mp nd).1 hq
            · -- a temporary of the rest is not a name's own
              have key : ∀ {vs : List V} {rs : List Co.R}, Paired (PDen K g F H σ env) vs rs → q ∈ ownA vs rs → False := by
                intro vs rs P hm
                induction P with
                | nil => simp [ownA] at hm
                | @cons v r _ _ z _ ih =>
                  cases r with
                  | own dx =>
                    obtain ⟨p', e', _, _, _, _, eee⟩ := z
                    subst e'
                    rcases List.mem_cons.mp (show q ∈ p' :: ownA _ _ from hm) with rfl | hm
                    · exact eee i d h1 h
                    · exact ih hm
                  | val dx => exact ih (by cases v <;> exact hm)
                  | pl j => exact ih (by cases v <;> exact hm)
              exact key t hq
          · exact ee i d' h1 h2
      · intro p hp
        cases s with
        | own d =>
          obtain ⟨q, e, a, b, c, dd, ee⟩ := sd
          cases e
          rcases List.mem_cons.mp (show p ∈ q :: slA vs ss from hp) with rfl | hp
          · rcases src d rfl with rfl | ⟨i, rfl, h1, h2⟩
            · exact .inl List.mem_cons_self
            · exact .inr ⟨i, d, h1, h⟩
          · rcases src2 p hp with z | ⟨i, d', h1, h2⟩
            · refine .inl ?_
              cases r with
              | own dx => exact List.mem_cons_of_mem _ z
              | val dx => exact z
              | pl j => exact z
            · exact .inr ⟨i, d', sub i d' h1, h2⟩
        | val d =>
          have hp' : p ∈ slA vs ss := by cases v <;> exact hp
          rcases src2 p hp' with z | ⟨i, d', h1, h2⟩
          · refine .inl ?_
            cases r with
            | own dx => cases v <;> first | exact List.mem_cons_of_mem _ z | exact z
            | val dx => cases v <;> exact z
            | pl j => cases v <;> exact z
          · exact .inr ⟨i, d', sub i d' h1, h2⟩
        | io d => exact absurd rfl (ni d)
/-- .. stored in their slots -/
theorem setMany_ok {Q : L2.St → Hp → Prop} : ∀ {is : List Nat} {vs : List V} {ss : List Sl} {env : Env} {σ : L2.St}, Rep K io g env σ F H → Paired (fun v s => SDen K g F H σ env v s ∧ ∀ d, s ≠ .io d) vs ss → (slA vs ss).Nodup → is.Nodup → ss.length = is.length → wfSl env.length io is = true →
    (∀ σ', OffSl is σ σ' → Rep K io g (setMany env is ss) σ' F H → Q σ' H) → gNs is vs σ H Q
  | [], vs, ss, env, σ, R, P, nd, ni, hl, wf, k => by
    have : ss = [] := by simpa using hl
    subst this
    cases P
    exact ⟨rfl, k σ (OffSl.refl [] σ) R⟩
  | i :: is, vs, ss, env, σ, R, P, nd, ni, hl, wf, k => by
    cases P with
    | nil => cases hl
    | @cons v s vs ss h t =>
      have w := wfSl_ok wf i List.mem_cons_self
      have wf' : wfSl (env.set i (some s)).length io is = true := by
        unfold wfSl at wf ⊢
        rw [List.all_cons, Bool.and_eq_true] at wf
        rw [List.length_set]; exact wf.2
      have R1 := R.storeSl w.1 w.2 h.1 h.2
      have hiσ : i < σ.length := by rw [← R.len]; exact w.1
      have ndt : (slA vs ss).Nodup := by
        cases s with
        | own d =>
          obtain ⟨q, e, _⟩ := h.1
          cases e
          exact (List.nodup_cons.mp nd).2
        | val d => cases v <;> exact nd
        | io d => exact absurd rfl (h.2 d)
      have t1 : Paired (fun v' s' => SDen K g F H (σ.set i (some v)) (env.set i (some s)) v' s' ∧ ∀ d, s' ≠ .io d) vs ss := by
        have aux : ∀ {ws : List V} {zs : List Sl}, Paired (fun v s => SDen K g F H σ env v s ∧ ∀ d, s ≠ .io d) ws zs → (∀ p, s.r = .own s.d → v = .ref p → p ∉ slA ws zs) →
            Paired (fun v' s' => SDen K g F H (σ.set i (some v)) (env.set i (some s)) v' s' ∧ ∀ d, s' ≠ .io d) ws zs := by
          intro ws zs P hn
          induction P with
          | nil => exact .nil
          | @cons v' s' ws zs z tt ih =>
            refine .cons ⟨?_, z.2⟩ (ih fun p e1 e2 hm => hn p e1 e2 ?_)
            · cases s' with
              | val d => exact z.1
              | io d => exact absurd rfl (z.2 d)
              | own d =>
                obtain ⟨q, e, a, b, c, dd, ee⟩ := z.1
                refine ⟨q, e, a, b, c, dd, fun j d' hj hz => ?_⟩
                rw [slot_set' w.1] at hj
                rw [get_set hiσ] at hz
                by_cases ej : i = j
                · rw [if_pos ej] at hj hz
                  cases hj
                  cases hz
                  subst e
                  exact hn q rfl rfl List.mem_cons_self
                · rw [if_neg ej] at hj hz
                  exact ee j d' hj hz
            · cases s' with
              | own d =>
                obtain ⟨q, e, _⟩ := z.1
                subst e
                exact List.mem_cons_of_mem _ hm
              | val d => cases v' <;> exact hm
              | io d => cases v' <;> exact hm
        refine aux t fun p e1 e2 hm => ?_
        subst e2
        cases s with
        | own d => exact (List.nodup_cons.mp nd).1 hm
        | val d => cases e1
        | io d => cases e1
      refine ⟨v, vs, rfl, setMany_ok R1 t1 ndt (List.nodup_cons.mp ni).2 (by simpa using hl) wf' fun σ' off R' => k σ' off.set R'⟩
end
end Co

set_option linter.all false
/-! Co16: the statements. -/
namespace Co
open PySem PySem.Spec PyProof.Rows L2

structure EndsOk (K : Frag) (io : List Nat) (g : Gh) (F : Hp) (De : Co.Ends) (D : L2.Ends) : Prop where
  nx : ∀ env σ F' H, Same F F' → Rep K io g env σ F' H → De.nx env → D.nx σ H
  rt : ∀ s env σ F' H v, Same F F' → Rep K io g env σ F' H → SDen K g F' H σ env v s → (∀ d, s ≠ .io d) → De.rt s env → D.rt v H
  bk : ∀ env σ F' H, Same F F' → Rep K io g env σ F' H → De.bk env → D.bk σ H
  ct : ∀ env σ F' H, Same F F' → Rep K io g env σ F' H → De.ct env → D.ct σ H
theorem EndsOk.mono {K : Frag} {io : List Nat} {g : Gh} {F F1 : Hp} {De : Co.Ends} {D : L2.Ends} (E : EndsOk K io g F De D) (m : Same F F1) : EndsOk K io g F1 De D :=
  ⟨fun env σ F' H m1 => E.nx env σ F' H (m.trans m1), fun s env σ F' H v m1 => E.rt s env σ F' H v (m.trans m1), fun env σ F' H m1 => E.bk env σ F' H (m.trans m1), fun env σ F' H m1 => E.ct env σ F' H (m.trans m1)⟩
def tS (K : Frag) (Φ : Tbl) (io : List Nat) (s : S) : TS := fun D σ H => ∃ (g : Gh) (F : Hp) (env : Env) (De : Co.Ends), Rep K io g env σ F H ∧ wpS Φ s env De ∧ EndsOk K io g F De D
theorem PS.weakL {X : Cx} {e : Stmt} {t t' : TS} (h : PS X e t) (w : ∀ D σ H, σ.length = X.N.length → t' D σ H → t D σ H) : PS X e t' := ⟨fun pins s σ H D I q => h.run pins s σ H D I (w _ _ _ I.len q)⟩
section
variable {X : Cx} {L : List (String × List Bool)} {Φ : Tbl} {fb : Str → Bool} {io : List Nat} {e e1 e2 e3 iter etg : Expr} {es : List Expr} {a b c : E} {cs : Es} {pos p p2 p3 : Pos} {st : Stmt} {sts rest body els : List Stmt} {s s1 s2 : S} {i : Nat} {x : Str} {tg : Tg} {it : It}
theorem s_nil : PSs X [] (tS X.K Φ io .skip) := PSs.weak pss_nil fun D σ H ⟨g, F, env, De, Rp, w, E⟩ => E.nx env σ F H (Same.refl F) Rp w
theorem s_pass : PS X (.Pass pos) (tS X.K Φ io .skip) := PS.weak ps_pass fun D σ H ⟨g, F, env, De, Rp, w, E⟩ => E.nx env σ F H (Same.refl F) Rp w
theorem s_doc {y : Str} {j : Nat} : PS X (.Expr (.Constant (.str y) j p) pos) (tS X.K Φ io .skip) := PS.weak ps_doc fun D σ H ⟨g, F, env, De, Rp, w, E⟩ => E.nx env σ F H (Same.refl F) Rp w
theorem s_cons (h1 : PS X st (tS X.K Φ io s1)) (h2 : PSs X rest (tS X.K Φ io s2)) : PSs X (st :: rest) (tS X.K Φ io (.seq s1 s2)) :=
  PSs.weak (pss_cons h1 h2) fun D σ H ⟨g, F, env, De, Rp, w, E⟩ => ⟨g, F, env, _, Rp, w, fun env1 σ1 F1 H1 m R1 q => ⟨g, F1, env1, De, R1, q, E.mono m⟩, E.rt, E.bk, E.ct⟩
theorem s_expr (he : PE X e (tE X.K Φ io a)) (n : notLc e = true) : PS X (.Expr e pos) (tS X.K Φ io (.expr a)) :=
  PS.weak (ps_expr he (swap_no n none pos.line X.env)) fun D σ H ⟨g, F, env, De, Rp, w, E⟩ => ⟨g, F, env, _, Rp, w, fun v H' F' r env' m R' d q => E.nx env' σ F' H' m R' q⟩
theorem s_brk : PS X (.Break pos) (tS X.K Φ io .brk) := PS.weak ps_break fun D σ H ⟨g, F, env, De, Rp, w, E⟩ => E.bk env σ F H (Same.refl F) Rp w
theorem s_cont : PS X (.Continue pos) (tS X.K Φ io .cont) := PS.weak ps_continue fun D σ H ⟨g, F, env, De, Rp, w, E⟩ => E.ct env σ F H (Same.refl F) Rp w
theorem s_ret (he : PE X e (tE X.K Φ io a)) : PS X (.Return (some e) pos) (tS X.K Φ io (.ret a)) :=
  PS.weak (ps_ret he) fun D σ H ⟨g, F, env, De, Rp, w, E⟩ => ⟨g, F, env, _, Rp, w, fun v H' F' r env' m R' d q => by
    obtain ⟨s, env2, R2, sd, ni, _, q⟩ := asS_ok R' d q
    exact E.rt s env2 σ F' H' v m R2 sd ni q⟩
theorem s_retn : PS X (.Return none pos) (tS X.K Φ io .retn) :=
  PS.weak ps_retN fun D σ H ⟨g, F, env, De, Rp, w, E⟩ => E.rt (.val .none) env σ F H .non (Same.refl F) Rp Den.non (fun _ z => nomatch z) w
theorem s_if (hc : PT X e (tT X.K Φ io c)) (ha : PSs X body (tS X.K Φ io s1)) (hb : PSs X els (tS X.K Φ io s2)) : PS X (.If e body els pos) (tS X.K Φ io (.ifs c s1 s2)) :=
  PS.weak (ps_if hc ha hb) fun D σ H ⟨g, F, env, De, Rp, w, E⟩ => ⟨g, F, env, _, Rp, w, fun t H' F' env' m R' q => by
    cases t with
    | true => exact ⟨g, F', env', De, R', q, E.mono m⟩
    | false => exact ⟨g, F', env', De, R', q, E.mono m⟩⟩
/-! ### names -/
theorem asg_fin {g : Gh} {F F' H' : Hp} {env' : Env} {σ : L2.St} {De : Co.Ends} {D : L2.Ends} {v : V} {r : R} (wf : wfSl X.N.length io [i] = true) (hl : σ.length = X.N.length) (E : EndsOk X.K io g F De D) (m : Same F F') (R' : Rep X.K io g env' σ F' H') (d : RDen X.K g F' H' σ env' v r)
    (q : asS r env' fun s env2 => De.nx (env2.set i (some s))) : D.nx (σ.set i (some v)) H' := by
  obtain ⟨s, env2, R2, sd, ni, _, q⟩ := asS_ok R' d q
  obtain ⟨w1, w2⟩ := wfSl_ok wf i List.mem_cons_self
  exact E.nx _ _ F' H' m (R2.storeSl (by rw [R2.len, hl]; exact w1) w2 sd ni) q
theorem s_asg (C : Ctx X L Φ fb) (he : PE X e (tE X.K Φ io a)) (h : mSt X.N X.env.scope fb i x = true) (hs : swapsWith e (some (.Name x p)) pos.line X.env = pure false) (wf : wfSl X.N.length io [i] = true) :
    PS X (.Assign [.Name x p] e pos) (tS X.K Φ io (.asg i a)) := by
  obtain ⟨h1, h2, h3⟩ := mSt_ok C h
  exact PS.weakL (ps_set C.nd h1 h2 he hs h3) fun D σ H hl ⟨g, F, env, De, Rp, w, E⟩ => ⟨g, F, env, _, Rp, w, fun v H' F' r env' m R' d q => asg_fin wf hl E m R' d q⟩
theorem s_asgLc (C : Ctx X L Φ fb) {own : List Nat} {elt : E} {eelt : Expr} {ifs : List Expr} {scope : Scope} (hy : X.N[i]? = some x) (hyl : X.env.scope.names.lookup x = some .local)
    (hsw : swapsWith (.ListComp eelt [⟨etg, iter, ifs, 0⟩] scope p2) (some (.Name x p)) pos.line X.env = pure true) (hi : PI X etg iter (tI X.K Φ io it)) (ns : notSet iter = true)
    (ok : blkC X.N X.env.scope scope (nmSl X.N own) = true)
    (hg : ∀ (s : Shared) (H : Hp) (D : Addr) (cl : List (Str × Addr)) (fp : List Addr), PG (X.blk s H scope (compEnvC scope cl D X.env) fp) etg (gT X.K tg))
    (ht : ∀ (s : Shared) (H : Hp) (D : Addr) (cl : List (Str × Addr)) (fp : List Addr), PTs (X.blk s H scope (compEnvC scope cl D X.env) fp) ifs (tCs X.K Φ io cs))
    (he : ∀ (s : Shared) (H : Hp) (D : Addr) (cl : List (Str × Addr)) (fp : List Addr), PE (X.blk s H scope (compEnvC scope cl D X.env) fp) eelt (tE X.K Φ io elt))
    (wfo : wfSl X.N.length io own = true) (wft : ∀ i ∈ tg.slots, i ∈ own) (wf : wfSl X.N.length io [i] = true) :
    PS X (.Assign [.Name x p] (.ListComp eelt [⟨etg, iter, ifs, 0⟩] scope p2) pos) (tS X.K Φ io (.asg i (.lc own tg it cs elt))) :=
  PS.weakL (ps_setLc C.calm C.nd hy hyl hsw hi (blkOk_by ok) hg ht he fun x => folded_ok ns X.env x) fun D σ H hl ⟨g, F, env, De, Rp, w, E⟩ => by
    show tLc _ _ _ _ _ σ H fun x H1 => gName i x σ H1 D.nx
    rw [nmSl_snd]
    exact lc_red hl wfo wft Rp w fun v H' F' r env' m R' d q => asg_fin wf hl E m R' d q
def notTup : Expr → Bool
  | .Tuple .. => false
  | _ => true
theorem swapT_no {ts : List Expr} {k : Nat} : swapsWithSole [.Tuple ts k p] e pos.line X.env = pure false := by cases e <;> rfl
theorem swapped_no {ts : List Expr} {k : Nat} (h : notTup e = true) : swappedStores [.Tuple ts k p] e X.env = pure none := by
  unfold swappedStores
  cases e <;> first | rfl | (simp [notTup] at h)
theorem s_unpack (C : Ctx X L Φ fb) {is : List Nat} {ts : List Expr} {k : Nat} (he : PE X e (tE X.K Φ io a)) (nt : notTup e = true) (h : mSts X.N X.env.scope fb is ts = true) (wf : wfSl X.N.length io is = true) :
    PS X (.Assign [.Tuple ts k p] e pos) (tS X.K Φ io (.unpack is a)) :=
  PS.weakL (ps_asg he (pg_T C (tg := .tp is) (e := .Tuple ts k p) h) swapT_no (swapped_no nt) rfl) fun D σ H hl ⟨g, F, env, De, Rp, w, E⟩ => one_ Rp w fun v H' F' r env' m R' s q => by
    obtain ⟨d, vw, q⟩ := pk_view R' s q
    split at q
    case h_2 => exact q.elim
    case h_1 ds =>
      obtain ⟨a', xs, rfl, sq, t⟩ := vw
      refine ⟨a', xs, rfl, same_sqT R'.sub sq, by rw [t.length]; exact q.1, ?_⟩
      exact stores_ok (P := De.nx) R' t q.1 (by rw [R'.len, hl]; exact wf) q.2 fun σ' env2 off R2 q => E.nx env2 σ' F' H' m R2 q
/-! ### several at once -/
theorem par_red {g : Gh} {F H : Hp} {env : Env} {σ : L2.St} {De : Co.Ends} {D : L2.Ends} {is : List Nat} {Qs : List V → Hp → Prop} (hl : σ.length = X.N.length) (nd : is.Nodup) (wf : wfSl X.N.length io is = true)
    (Rp : Rep X.K io g env σ F H) (w : wpS Φ (.par is cs) env De) (E : EndsOk X.K io g F De D)
    (k : ∀ vs H', vs.length = is.length → vs.length = cs.len → gNs is vs σ H' D.nx → (∀ p xs, H' p = none → gNs is vs σ (upd H' p (.tup xs)) D.nx) → Qs vs H') : tA' X.K Φ io cs σ H Qs :=
  ⟨g, F, env, _, Rp, w, fun vs H1 F1 rs env1 hlen m1 R1 P q => by
    obtain ⟨R2, P2, nd2, _⟩ := tmps_pop R1 P
    obtain ⟨ss, env2, R3, P3, nd3, hl3, q3, _⟩ := asSs_ok R2 P2 nd2 q
    have hls : ss.length = is.length := q3.1
    have hvs : vs.length = ss.length := by
      have aux : ∀ {G : V → Sl → Prop} {a : List V} {b : List Sl}, Paired G a b → a.length = b.length := fun P => by
        induction P with
        | nil => rfl
        | cons _ _ ih => simp [ih]
      exact aux P3
    have wf' : wfSl env2.length io is = true := by rw [R3.len, hl]; exact wf
    refine k vs H1 (hvs.trans hls) hlen (setMany_ok R3 P3 nd3 nd hls wf' fun σ' off R' => E.nx _ σ' F1 H1 m1 R' q3.2) fun p xs hp => ?_
    have R4 := R3.lay (o := .tup xs) hp
    have P4 : Paired (fun v s => SDen X.K g F1 (upd H1 p (.tup xs)) σ env2 v s ∧ ∀ d, s ≠ .io d) vs ss := Paired.mapP P3 fun v s z => ⟨by
      cases s with
      | val d => exact z.1
      | io d => exact z.1
      | own d =>
        obtain ⟨q, e, a, b, c, dd, ee⟩ := z.1
        obtain ⟨o, ho, _⟩ := b.there
        exact ⟨q, e, a, b.mono (Same.refl F1) (upd_ne (ne_of_none ho hp)), c, dd, ee⟩, z.2⟩
    exact setMany_ok R4 P4 nd3 nd hls wf' fun σ' off R' => E.nx _ σ' F1 _ m1 R' q3.2⟩
theorem s_par2 (C : Ctx X L Φ fb) {i j : Nat} {x y : Str} {k k2 : Nat} (ha : PA X [e1, e2] (tA' X.K Φ io cs)) (hx : mSt X.N X.env.scope fb i x = true) (hy : mSt X.N X.env.scope fb j y = true) (lx : X.env.scope.names.lookup x = some .local) (ly : X.env.scope.names.lookup y = some .local)
    (hw : swappedStores [.Tuple [.Name x p, .Name y p2] k p3] (.Tuple [e1, e2] k2 pos) X.env = pure (some [x, y])) (hij : i ≠ j) (wf : wfSl X.N.length io [i, j] = true) {pos' : Pos} :
    PS X (.Assign [.Tuple [.Name x p, .Name y p2] k p3] (.Tuple [e1, e2] k2 pos) pos') (tS X.K Φ io (.par [i, j] cs)) :=
  PS.weakL (ps_par C.calm C.nd (mSt_ok C hx).1 (mSt_ok C hy).1 hij lx ly ha hw rfl) fun D σ H hl ⟨g, F, env, De, Rp, w, E⟩ => par_red hl (by simp [hij]) wf Rp w E fun vs H' h1 _ h2 _ => by
    obtain ⟨v, r, e1, v2, r2, e2, e3, h⟩ := h2
    subst e1 e2 e3
    exact ⟨v, v2, rfl, h⟩
theorem s_par3 (C : Ctx X L Φ fb) {i j l : Nat} {x y z : Str} {k k2 : Nat} {p4 : Pos} (ha : PA X [e1, e2, e3] (tA' X.K Φ io cs)) (hx : mSt X.N X.env.scope fb i x = true) (hy : mSt X.N X.env.scope fb j y = true) (hz : mSt X.N X.env.scope fb l z = true)
    (lx : X.env.scope.names.lookup x = some .local) (ly : X.env.scope.names.lookup y = some .local) (lz : X.env.scope.names.lookup z = some .local)
    (hw : swappedStores [.Tuple [.Name x p, .Name y p2, .Name z p4] k p3] (.Tuple [e1, e2, e3] k2 pos) X.env = pure (some [x, y, z])) (hij : i ≠ j) (hil : i ≠ l) (hjl : j ≠ l) (wf : wfSl X.N.length io [i, j, l] = true) {pos' : Pos} :
    PS X (.Assign [.Tuple [.Name x p, .Name y p2, .Name z p4] k p3] (.Tuple [e1, e2, e3] k2 pos) pos') (tS X.K Φ io (.par [i, j, l] cs)) :=
  PS.weakL (ps_par3 C.calm C.nd (mSt_ok C hx).1 (mSt_ok C hy).1 (mSt_ok C hz).1 hij hil hjl lx ly lz ha hw rfl) fun D σ H hl ⟨g, F, env, De, Rp, w, E⟩ => par_red hl (by simp [hij, hil, hjl]) wf Rp w E fun vs H' h1 _ h2 _ => by
    obtain ⟨v, r, e1, v2, r2, e2, v3, r3, e3, e4, h⟩ := h2
    subst e1 e2 e3 e4
    exact ⟨v, v2, v3, rfl, h⟩
theorem s_parN (C : Ctx X L Φ fb) {is : List Nat} {ts : List Expr} {k k2 : Nat} {pos' : Pos} (ha : PA X es (tA' X.K Φ io cs)) (h : mSts X.N X.env.scope fb is ts = true) (hw : swappedStores [.Tuple ts k p] (.Tuple es k2 p2) X.env = pure none) (nd : is.Nodup) (wf : wfSl X.N.length io is = true) (hl' : cs.len ≤ 1000) :
    PS X (.Assign [.Tuple ts k p] (.Tuple es k2 p2) pos') (tS X.K Φ io (.par is cs)) :=
  PS.weakL (ps_asg (pe_tup ha) (pg_T C (tg := .tp is) (e := .Tuple ts k p) h) rfl hw rfl) fun D σ H hl ⟨g, F, env, De, Rp, w, E⟩ => par_red hl nd wf Rp w E fun vs H' h1 h3 _ h2 =>
    ⟨by rw [h3, sizeLine_eq]; omega, fun q hq => ⟨q, vs, rfl, .inl (.inl upd_same), h1, h2 q vs hq⟩⟩
/-! ### items -/
def rPut : TSet := fun o i v H Q => rSetL o i v H Q ∨ rSetD o i v H Q
theorem set_put (hu : X.A.units + 1 < cLine) : PSet X rPut := fun pins s σ H o i v ov iv u Q I ro ri rv h => h.elim (set_list pins s σ H o i v ov iv u Q I ro ri rv) (set_dict hu pins s σ H o i v ov iv u Q I ro ri rv)
theorem assign_sub {o i : Expr} (n : notSlice i = true) (v : Value) : assign (.Subscript o i pos) X.env v = (do
      let ov ← holding [v] (eval o X.env)
      let iv ← holding [v, ov] (eval i X.env)
      standAt pos
      holding [v, ov, iv] (setItem ov iv v)
      release [v, ov, iv] []) := by
  cases i <;> first | rfl | (simp [notSlice] at n)
theorem s_put (C : Ctx X L Φ fb) (hv : mVis X.N X.env.scope i x = true) (hk : PE X e1 (tE X.K Φ io a)) (he : PE X e2 (tE X.K Φ io b)) (n : notSlice e1 = true) :
    PS X (.Assign [.Subscript (.Name x p) e1 p2] e2 pos) (tS X.K Φ io (.put i a b)) :=
  PS.weak (ps_asg he (pg_sub (pe_name hv) hk (set_put (Nat.lt_of_le_of_lt (by omega) C.hu)) (assign_sub n)) (by cases e2 <;> rfl) rfl rfl) fun D σ H ⟨g, F, env, De, Rp, w, E⟩ => one_ Rp w fun v H1 F1 r env1 m1 R1 s1 q => by
    obtain ⟨d, env2, F2, m2, R2, dn, q⟩ := asV_ok R1 s1 q
    obtain ⟨hsl, q⟩ := q
    obtain ⟨d0, hd0⟩ := Option.isSome_iff_exists.mp hsl
    obtain ⟨p0, ho, _⟩ := R2.mine hd0
    refine ⟨.ref p0, ho, one_ R2 q fun v3 H3 F3 r3 env3 m3 R3 s3 q => ?_⟩
    obtain ⟨d3, w3, q⟩ := pk_view R3 s3 q
    split at q
    case h_1 ds j hd =>
      obtain ⟨n', e1, q⟩ := q
      obtain ⟨p', g1, g2, ⟨vs, g3, g4⟩, _⟩ := R3.mine hd
      rw [ho] at g1; cases g1
      cases w3
      refine .inl ⟨_, vs, j, n', rfl, rfl, g3, by rw [g4.length]; exact e1, ?_⟩
      exact E.nx _ σ F3 _ ((m1.trans m2).trans m3) (R3.setC (d := .list (ds.set n' d)) hd ho ⟨_, upd_same, (g4.set (dn.mono m3) n')⟩) q
    case h_2 kvs y hd =>
      obtain ⟨k1, k2, q⟩ := q
      obtain ⟨p', g1, g2, ⟨kv, ds, g3, g4, g5⟩, _⟩ := R3.mine hd
      rw [ho] at g1; cases g1
      obtain ⟨key, rfl⟩ := isKey_of k1
      have ev : v3 = kV key := by cases key <;> (cases w3; rfl)
      subst ev g5
      obtain ⟨ds', t', ep⟩ := put_dct (k := key) (dn.mono m3) g4
      refine .inr ⟨_, _, rfl, DPut.k g3 ?_, ?_⟩
      · have hl := g4.length
        rw [List.length_map] at hl
        rw [sizeLine_eq]
        have : (dctOf kv ds).length = kv.length := by simp [dctOf, hl]
        rw [this] at k2
        exact k2
      · exact E.nx _ σ F3 _ ((m1.trans m2).trans m3) (R3.setC (d := .dict (putK (dctOf kv ds) (keyD key) d)) hd ho ⟨_, ds', upd_same, t', ep⟩) q
    case h_3 => exact q.elim
/-! ### name op= e -/
theorem aug_red {g : Gh} {F H : Hp} {env : Env} {σ : L2.St} {De : Co.Ends} {D : L2.Ends} {f : Int → Int → Int} (hl : σ.length = X.N.length) (wf : wfSl X.N.length io [i] = true) (Rp : Rep X.K io g env σ F H) (E : EndsOk X.K io g F De D)
    (w0 : (slot env i).isSome = true) (w : wpE Φ a env fun r env1 => pk r env1 fun y => ∃ n k, slot env1 i = some (.val (.int n)) ∧ y = .int k ∧ De.nx (env1.set i (some (.val (.int (f n k)))))) : tAug i (tE X.K Φ io a) (ipI f) D σ H := by
  obtain ⟨v, hv⟩ := slot_val Rp w0
  refine ⟨v, hv, one_ Rp w fun v2 H' F' r env' m R' s q => ?_⟩
  obtain ⟨d, vw, n, k, hs, rfl, q⟩ := pk_view R' s q
  obtain ⟨w1, w2⟩ := wfSl_ok wf i List.mem_cons_self
  obtain ⟨v', a, dn⟩ := R'.vals i _ hs
  rw [hv] at a; cases a
  cases dn
  cases vw
  exact ⟨n, k, rfl, rfl, E.nx _ _ F' H' m (R'.storeVal (by rw [R'.len, hl]; exact w1) w2 (.int _)) q⟩
theorem pk_mono {r : R} {env : Env} {P Q : PyData → Prop} (h : ∀ d, P d → Q d) (q : pk r env P) : pk r env Q := by
  unfold pk at q ⊢
  split at q
  · exact h _ q
  · exact q
end
/-- one of the results is all that wpE asks -/
def MonoE (Φ : Tbl) (a : E) : Prop := ∀ env (Q Q' : R → Env → Prop), (∀ r e, Q r e → Q' r e) → wpE Φ a env Q → wpE Φ a env Q'
section
variable {X : Cx} {L : List (String × List Bool)} {Φ : Tbl} {fb : Str → Bool} {io : List Nat} {e e1 e2 e3 iter etg : Expr} {es : List Expr} {a b c : E} {cs : Es} {pos p p2 p3 : Pos} {st : Stmt} {sts rest body els : List Stmt} {s s1 s2 : S} {i : Nat} {x : Str} {tg : Tg} {it : It}
theorem s_augAdd (C : Ctx X L Φ fb) (he : PE X e (tE X.K Φ io a)) (h : mSt X.N X.env.scope fb i x = true) (wf : wfSl X.N.length io [i] = true) : PS X (.AugAssign (.Name x p) .Add e pos) (tS X.K Φ io (.aug i .add a)) := by
  obtain ⟨h1, h2, h3⟩ := mSt_ok C h
  exact PS.weakL (ps_aug C.nd h1 h2 he ip_add h3) fun D σ H hl ⟨g, F, env, De, Rp, ⟨w0, w⟩, E⟩ => aug_red hl wf Rp E w0 (by exact w)
theorem s_augSub (C : Ctx X L Φ fb) (he : PE X e (tE X.K Φ io a)) (h : mSt X.N X.env.scope fb i x = true) (wf : wfSl X.N.length io [i] = true) : PS X (.AugAssign (.Name x p) .Sub e pos) (tS X.K Φ io (.aug i .sub a)) := by
  obtain ⟨h1, h2, h3⟩ := mSt_ok C h
  exact PS.weakL (ps_aug C.nd h1 h2 he ip_sub h3) fun D σ H hl ⟨g, F, env, De, Rp, ⟨w0, w⟩, E⟩ => aug_red hl wf Rp E w0 (by exact w)
def tLen (n : Nat) (t : TS) : TS := fun D σ H => t ⟨fun σ' H' => σ'.length = n → D.nx σ' H', D.rt, fun σ' H' => σ'.length = n → D.bk σ' H', fun σ' H' => σ'.length = n → D.ct σ' H'⟩ σ H
theorem PSs.lens {t : TS} (h : PSs X body t) : PSs X body (tLen X.N.length t) :=
  ⟨fun pins s σ H D I q => thn (h.run pins s σ H _ I q) fun fl s1 q => by
    cases fl with
    | next => obtain ⟨σ', H', I', q⟩ := q; exact ⟨σ', H', I', q I'.len⟩
    | brk => obtain ⟨σ', H', I', q⟩ := q; exact ⟨σ', H', I', q I'.len⟩
    | cont => obtain ⟨σ', H', I', q⟩ := q; exact ⟨σ', H', I', q I'.len⟩
    | ret u => exact q⟩
/-! ### loops -/
theorem s_while (C : Ctx X L Φ fb) (hc : PT X e (tT X.K Φ io c)) (hb : PSs X body (tS X.K Φ io s)) : PS X (.While e body [] pos) (tS X.K Φ io (.whl c s)) :=
  PS.weak (ps_while (by rw [C.xe]; exact PassesOwn.never) hc hb) fun D σ H ⟨g, F, env, De, Rp, ⟨W, ⟨m0, w0⟩, turn⟩, E⟩ =>
    ⟨fun n σ' H' => ∃ env' F', Same F F' ∧ Rep X.K io g env' σ' F' H' ∧ W n env', ⟨m0, env, F, Same.refl F, Rp, w0⟩, fun n σ1 H1 ⟨env1, F1, m1, R1, w1⟩ =>
      ⟨g, F1, env1, _, R1, turn n env1 w1, fun t H2 F2 env2 m2 R2 q => by
        cases t with
        | false => exact E.nx env2 σ1 F2 H2 (m1.trans m2) R2 q
        | true =>
          refine ⟨fun σ' H' => ∃ env' F', Same F F' ∧ Rep X.K io g env' σ' F' H' ∧ ∃ m', m' < n ∧ W m' env', fun σ' H' ⟨env', F', m', R', k, hk, w'⟩ => ⟨k, hk, env', F', m', R', w'⟩, ?_⟩
          have mm := m1.trans m2
          exact ⟨g, F2, env2, _, R2, q, fun env3 σ3 F3 H3 m3 R3 q3 => ⟨env3, F3, mm.trans m3, R3, q3⟩, (E.mono mm).rt, (E.mono mm).nx, fun env3 σ3 F3 H3 m3 R3 q3 => ⟨env3, F3, mm.trans m3, R3, q3⟩⟩⟩⟩
theorem s_for (C : Ctx X L Φ fb) (hi : PI X etg iter (tI X.K Φ io it)) (ns : notSet iter = true) (hg : PG X etg (gT X.K tg)) (hb : PSs X body (tS X.K Φ io s)) (wf : wfSl X.N.length io tg.slots = true) :
    PS X (.For etg iter body [] pos) (tS X.K Φ io (.for tg it s)) :=
  PS.weakL (ps_for (by rw [C.xe]; exact PassesOwn.never) C.calm hi hg (PSs.lens hb) fun x => folded_ok ns X.env x) fun D σ H hl ⟨g, F, env, De, Rp, w, E⟩ => by
    refine ⟨g, F, env, _, Rp, w, fun items J H1 F1 env1 m1 R1 gv w => ?_⟩
    obtain ⟨Y, wk, hy⟩ := gv
    refine for_it (g := gT X.K tg) (tb := tLen X.N.length (tS X.K Φ io s)) (D := D) wk (fun i σ' H => ∃ env2 F2, Same F1 F2 ∧ Rep X.K io g env2 σ' F2 H ∧ σ'.length = X.N.length ∧ forGo (bindT tg) (wpS Φ s) (items.drop i) env2 De) ?_ ?_ ?_ ?_
    · exact ⟨env1, F1, Same.refl F1, R1, hl, w⟩
    · rintro i σ' H hi ⟨env2, F2, m2, R2, _⟩
      exact m2.trans R2.sub
    · rintro i x σ' H H' hi ⟨env2, F2, m2, R2, hl2, w⟩ y
      obtain ⟨d, hd, hout⟩ := hy i H x H' hi (m2.trans R2.sub) y
      have hdrop : items.drop i = d :: items.drop (i + 1) := by
        rw [List.getElem?_eq_getElem hi] at hd
        cases hd
        exact List.drop_eq_getElem_cons hi
      rw [hdrop] at w
      refine bind_ok R2 (hout F2 m2 R2.sub) (by rw [R2.len, hl2]; exact wf) w fun σ3 env3 F3 off m3 R3 q => ?_
      have mm := (m1.trans m2).trans m3
      refine ⟨g, F3, env3, _, R3, q, fun env4 σ4 F4 H4 m4 R4 q4 hl4 => ?_, (E.mono mm).rt, fun env4 σ4 F4 H4 m4 R4 q4 _ => E.nx env4 σ4 F4 H4 (mm.trans m4) R4 q4, fun env4 σ4 F4 H4 m4 R4 q4 hl4 => ?_⟩
      · exact ⟨env4, F4, (m2.trans m3).trans m4, R4, hl4, q4⟩
      · exact ⟨env4, F4, (m2.trans m3).trans m4, R4, hl4, q4⟩
    · rintro σ' H ⟨env2, F2, m2, R2, _, w⟩
      rw [List.drop_length] at w
      exact E.nx env2 σ' F2 H (m1.trans m2) R2 w
end
end Co

set_option linter.all false
/-! Co17: a text's expression against one of the little language, decided; and that it is sound. -/
namespace Co
open PySem PySem.Spec PyProof.Rows L2

def isTupE : Expr → Bool
  | .Tuple .. => true
  | _ => false
def s_ (x : String) : Str := Str.ofString x
mutual
def mE (L : List (String × List Bool)) (N : List Str) (io : List Nat) : Scope → (Str → Bool) → E → Expr → Bool
  | sc, fb, .var i, e => match e with
    | .Name x _ => mVis N sc i x
    | _ => false
  | sc, fb, .cst d, e => match e with
    | .Constant k _ _ => mC d k
    | _ => false
  | sc, fb, .tup cs, e => match e with
    | .Tuple es _ _ => mEs L N io sc fb cs es && decide (cs.len ≤ 1000)
    | _ => false
  | sc, fb, .lst cs, e => match e with
    | .List es _ => mEs L N io sc fb cs es && decide (cs.len ≤ 1000)
    | _ => false
  | sc, fb, .dct cs, e => match cs, e with
    | .nil, .Dict [] [] _ => true
    | .cons (.cst (.int k1)) (.cons a (.cons (.cst (.int k2)) (.cons b .nil))), .Dict [some (.Constant (.int i1) _ _), some (.Constant (.int i2) _ _)] [e1, e2] _ =>
      decide (k1 = i1) && decide (k2 = i2) && decide (k1 ≠ k2) && mE L N io sc fb a e1 && mE L N io sc fb b e2
    | _, _ => false
  | sc, fb, .bin op a b, e => match e with
    | .BinOp e1 o e2 _ => decide (o = opOf op) && mE L N io sc fb a e1 && mE L N io sc fb b e2
    | _ => false
  | sc, fb, .lrep cs a, e => match e with
    | .BinOp (.List es _) .Mult e2 _ => mEs L N io sc fb cs es && decide (cs.len ≤ 1000) && mE L N io sc fb a e2
    | _ => false
  | sc, fb, .glb f n, e => match e with
    | .Name x _ => decide ((f, List.replicate (100 + n) false) ∈ L) && decide (x = s_ f) && gl sc x && !(x == s_ "__debug__")
    | _ => false
  | sc, fb, .rg1 a, e => match e with
    | .Call (.Name x _) [.Call (.Name y _) [e1] [] _] [] _ => decide (x = s_ "list") && gl sc x && decide (y = s_ "range") && gl sc y && notStar e1 && mE L N io sc fb a e1
    | _ => false
  | sc, fb, .rg2 a b, e => match e with
    | .Call (.Name x _) [.Call (.Name y _) [e1, e2] [] _] [] _ => decide (x = s_ "list") && gl sc x && decide (y = s_ "range") && gl sc y && notStar e1 && notStar e2 && mE L N io sc fb a e1 && mE L N io sc fb b e2
    | _ => false
  | sc, fb, .orep x k, e => match e with
    | .BinOp e1 .Mult e2 _ => mE L N io sc fb x e1 && mE L N io sc fb k e2
    | _ => false
  | sc, fb, .neg a, e => match e with
    | .UnaryOp .USub e1 _ => mE L N io sc fb a e1
    | _ => false
  | sc, fb, .not a, e => match e with
    | .UnaryOp .Not e1 _ => mE L N io sc fb a e1
    | _ => false
  | sc, fb, .cmp op a b, e => match e with
    | .Compare e1 [o] [e2] _ => decide (o = cmpOf op) && notSet e2 && mE L N io sc fb a e1 && mE L N io sc fb b e2
    | _ => false
  | sc, fb, .isn a, e => match e with
    | .Compare e1 [.Is] [.Constant .none _ _] _ => mE L N io sc fb a e1
    | _ => false
  | sc, fb, .notn a, e => match e with
    | .Compare e1 [.IsNot] [.Constant .none _ _] _ => mE L N io sc fb a e1
    | _ => false
  | sc, fb, .chain o1 o2 a b c, e => match e with
    | .Compare e1 [p1, p2] [e2, e3] _ => decide (p1 = cmpOf o1) && decide (p2 = cmpOf o2) && notSet e3 && mE L N io sc fb a e1 && mE L N io sc fb b e2 && mE L N io sc fb c e3
    | _ => false
  | sc, fb, .and a b, e => match e with
    | .BoolOp .And [e1, e2] _ => mE L N io sc fb a e1 && mE L N io sc fb b e2
    | .BoolOp .And (e1 :: e2 :: e3 :: es) pos => mE L N io sc fb a e1 && mE L N io sc fb b (.BoolOp .And (e2 :: e3 :: es) pos)
    | _ => false
  | sc, fb, .or a b, e => match e with
    | .BoolOp .Or [e1, e2] _ => mE L N io sc fb a e1 && mE L N io sc fb b e2
    | .BoolOp .Or (e1 :: e2 :: e3 :: es) pos => mE L N io sc fb a e1 && mE L N io sc fb b (.BoolOp .Or (e2 :: e3 :: es) pos)
    | _ => false
  | sc, fb, .ite c a b, e => match e with
    | .IfExp e1 e2 e3 _ => mE L N io sc fb c e1 && mE L N io sc fb a e2 && mE L N io sc fb b e3
    | _ => false
  | sc, fb, .idx a i, e => match e with
    | .Subscript e1 e2 _ => notSlice e2 && mE L N io sc fb a e1 && mE L N io sc fb i e2
    | _ => false
  | sc, fb, .slo a i, e => match e with
    | .Subscript e1 (.Slice (some e2) none none _) _ => mE L N io sc fb a e1 && mE L N io sc fb i e2
    | _ => false
  | sc, fb, .shi a i, e => match e with
    | .Subscript e1 (.Slice none (some e2) none _) _ => mE L N io sc fb a e1 && mE L N io sc fb i e2
    | _ => false
  | sc, fb, .slh a i j, e => match e with
    | .Subscript e1 (.Slice (some e2) (some e3) none _) _ => mE L N io sc fb a e1 && mE L N io sc fb i e2 && mE L N io sc fb j e3
    | _ => false
  | sc, fb, .rev a, e => match e with
    | .Subscript e1 (.Slice none none (some (.UnaryOp .USub (.Constant (.int 1) _ _) _)) _) _ => mE L N io sc fb a e1
    | _ => false
  | sc, fb, .call f sig cs, e => match e with
    | .Call (.Name x _) (e1 :: es) [] _ => decide ((f, sig) ∈ L) && decide (sig.length < 100) && decide (x = s_ f) && gl sc x && !(x == s_ "__debug__") && (e1 :: es).all notStar && mEs L N io sc fb cs (e1 :: es)
    | _ => false
  | sc, fb, .b1 f a, e => (match e with
    | .Call (.Name x _) [e1] [] _ => decide (f ≠ .lenset) && decide (f ≠ .sortset) && decide (x = s_ (b1Name f)) && gl sc x && notStar e1 && mE L N io sc fb a e1
    | _ => false) || (match e with
    | .Call (.Name x _) [.Call (.Name y _) [e1] [] _] [] _ => decide (y = s_ "set") && gl sc y && notStar e1 && gl sc x && mE L N io sc fb a e1 && (decide (f = .lenset) && decide (x = s_ "len") || decide (f = .sortset) && decide (x = s_ "sorted"))
    | _ => false)
  | sc, fb, .b2 f a b, e => match e with
    | .Call (.Name x _) [e1, e2] [] _ => decide (x = s_ (b2Name f)) && gl sc x && notStar e1 && notStar e2 && mE L N io sc fb a e1 && mE L N io sc fb b e2
    | _ => false
  | sc, fb, .isi a ts, e => match e with
    | .Call (.Name x _) [e1, .Name y _] [] _ => decide (x = s_ "isinstance") && gl sc x && notStar e1 && (match ts with | [t] => decide (y = s_ (tyS t)) && gl sc y | _ => false) && mE L N io sc fb a e1
    | .Call (.Name x _) [e1, .Tuple es _ _] [] _ => decide (x = s_ "isinstance") && gl sc x && notStar e1 && mTys sc ts es && decide (ts.length ≤ 1000) && mE L N io sc fb a e1
    | _ => false
  | sc, fb, .index a b, e => false
  | sc, fb, .get1 a k, e => false
  | sc, fb, .get2 a k x, e => false
  | sc, fb, .append i a, e => match e with
    | .Call (.Attribute (.Name x _) m apos) [e1] [] cpos => decide (m = s_ "append") && mVis N sc i x && notStar e1 && (apos.endLine == cpos.line) && mE L N io sc fb a e1
    | _ => false
  | sc, fb, .extend i a, e => match e with
    | .Call (.Attribute (.Name x _) m apos) [e1] [] cpos => decide (m = s_ "extend") && mVis N sc i x && notStar e1 && (apos.endLine == cpos.line) && mE L N io sc fb a e1
    | _ => false
  | sc, fb, .pop i, e => match e with
    | .Call (.Attribute (.Name x _) m apos) [] [] cpos => decide (m = s_ "pop") && mVis N sc i x && (apos.endLine == cpos.line)
    | _ => false
  | sc, fb, .popat i a, e => match e with
    | .Call (.Attribute (.Name x _) m apos) [e1] [] cpos => decide (m = s_ "pop") && mVis N sc i x && notStar e1 && (apos.endLine == cpos.line) && mE L N io sc fb a e1
    | _ => false
  | sc, fb, .lc own tg it cs elt, e => match e with
    | .ListComp eelt [⟨etg, iter, ifs, 0⟩] scope _ => blkC N sc scope (nmSl N own) && wfSl N.length io own && decide (∀ i ∈ tg.slots, i ∈ own) && notSet iter &&
        mI L N io sc fb it iter (isTupE etg) && mTg N (relS scope sc) (blkFb scope) tg etg && mCs L N io (relS scope sc) (blkFb scope) cs ifs && mE L N io (relS scope sc) (blkFb scope) elt eelt
    | _ => false
  | sc, fb, .lc2 own tg it cs tg2 it2 cs2 elt, e => false
def mEs (L : List (String × List Bool)) (N : List Str) (io : List Nat) : Scope → (Str → Bool) → Es → List Expr → Bool
  | sc, fb, .nil, es => match es with
    | [] => true
    | _ => false
  | sc, fb, .cons a cs, es => match es with
    | e :: es => notStar e && mE L N io sc fb a e && mEs L N io sc fb cs es
    | _ => false
def mCs (L : List (String × List Bool)) (N : List Str) (io : List Nat) : Scope → (Str → Bool) → Es → List Expr → Bool
  | sc, fb, .nil, es => match es with
    | [] => true
    | _ => false
  | sc, fb, .cons a cs, es => match es with
    | [e] => mE L N io sc fb a e
    | _ => false
def mI (L : List (String × List Bool)) (N : List Str) (io : List Nat) : Scope → (Str → Bool) → It → Expr → Bool → Bool
  | sc, fb, .of a, e, t => mE L N io sc fb a e
  | sc, fb, .range1 a, e, t => match e with
    | .Call (.Name x _) [e1] [] _ => decide (x = s_ "range") && gl sc x && notStar e1 && mE L N io sc fb a e1
    | _ => false
  | sc, fb, .range2 a b, e, t => match e with
    | .Call (.Name x _) [e1, e2] [] _ => decide (x = s_ "range") && gl sc x && notStar e1 && notStar e2 && mE L N io sc fb a e1 && mE L N io sc fb b e2
    | _ => false
  | sc, fb, .enum a, e, t => match e with
    | .Call (.Name x _) [e1] [] _ => t && decide (x = s_ "enumerate") && gl sc x && notStar e1 && mE L N io sc fb a e1
    | _ => false
  | sc, fb, .zip2 st a b, e, t => match e with
    | .Call (.Name x _) [e1, e2] [] _ => t && !st && decide (x = s_ "zip") && gl sc x && notStar e1 && notStar e2 && mE L N io sc fb a e1 && mE L N io sc fb b e2
    | .Call (.Name x _) [e1, e2] [⟨some k, .Constant (.bool b1) _ _, _⟩] _ => t && decide (b1 = st) && decide (k = s_ "strict") && decide (x = s_ "zip") && gl sc x && notStar e1 && notStar e2 && mE L N io sc fb a e1 && mE L N io sc fb b e2
    | _ => false
  | sc, fb, .zip3 st a b c, e, t => false
end

/-- as a value, as a test -/
def isBoolE : Expr → Bool
  | .BoolOp .. => true
  | _ => false
structure Snd (X : Cx) (Φ : Tbl) (io : List Nat) (a : E) (e : Expr) : Prop where
  pe : PE X e (tE X.K Φ io a)
  pt : PT X e (tT X.K Φ io a)
  pw : isBoolE e = true → PW X e (tT X.K Φ io a)
section
variable {X : Cx} {L : List (String × List Bool)} {Φ : Tbl} {io : List Nat}
theorem Snd.plain {a : E} {e : Expr} (h : PE X e (tE X.K Φ io a)) (hp : plainT e = true) : Snd X Φ io a e :=
  ⟨h, t_plain h hp, fun z => by cases e <;> first | exact Bool.noConfusion z | exact Bool.noConfusion hp⟩
theorem pts_nilC : PTs X [] (tCs X.K Φ io .nil) := ⟨fun pins s σ H Q I ⟨g, F, env, P, Rp, w, k⟩ => pts_nil.run pins s σ H Q I (k true H F env (Same.refl F) Rp w)⟩
theorem pts_oneC {a : E} {cs : Es} {e : Expr} (h : PT X e (tT X.K Φ io a)) : PTs X [e] (tCs X.K Φ io (.cons a cs)) :=
  ⟨fun pins s σ H Q I ⟨g, F, env, P, Rp, w, k⟩ => (pts_one h).run pins s σ H Q I ⟨g, F, env, P, Rp, w, k⟩⟩
theorem t_ite {a b c : E} {e1 e2 e3 : Expr} {pos : Pos} (hc : PT X e1 (tT X.K Φ io c)) (ha : PT X e2 (tT X.K Φ io a)) (hb : PT X e3 (tT X.K Φ io b)) : PT X (.IfExp e1 e2 e3 pos) (tT X.K Φ io (.ite c a b)) := by
  refine ⟨fun pins s σ H Q I ⟨g, F, env, Q', Rp, w, k⟩ => ?_⟩
  have h : tT X.K Φ io c σ H fun t H1 => if t = true then tT X.K Φ io a σ H1 Q else tT X.K Φ io b σ H1 Q := ⟨g, F, env, _, Rp, w, fun t H' F' env' m R' q => by
    cases t with
    | true => exact ⟨g, F', env', Q', R', q, fun v H2 F2 env2 m2 R2 q => k v H2 F2 env2 (m.trans m2) R2 q⟩
    | false => exact ⟨g, F', env', Q', R', q, fun v H2 F2 env2 m2 R2 q => k v H2 F2 env2 (m.trans m2) R2 q⟩⟩
  show wpAny _ _ (do if ← isTrue e1 X.env (eval e1 X.env) then isTrue e2 X.env (eval e2 X.env) else isTrue e3 X.env (eval e3 X.env)) _ _ s
  refine wpAny_bind (thn (hc.run pins s σ H _ I h) fun t s1 ⟨H1, I1, q1⟩ => ?_)
  cases t with
  | true => exact ha.run pins s1 σ H1 Q I1 q1
  | false => exact hb.run pins s1 σ H1 Q I1 q1
end
theorem cmp_not (h : Bool) : (!h) = true → h = false := by cases h <;> simp

mutual
theorem sndE {L : List (String × List Bool)} {Φ : Tbl} {N : List Str} {io : List Nat} : ∀ (a : E) (e : Expr) (X : Cx) (fb : Str → Bool), Ctx X L Φ fb → X.N = N → mE L N io X.env.scope fb a e = true → Snd X Φ io a e
  | .var i, e, X, fb, C, hN, h => by
    unfold mE at h
    subst hN
    split at h
    · exact .plain (e_var h) rfl
    · cases h
  | .cst d, e, X, fb, C, hN, h => by
    unfold mE at h
    split at h
    · exact .plain (e_cst h) rfl
    · cases h
  | .tup cs, e, X, fb, C, hN, h => by
    unfold mE at h
    split at h
    · simp only [Bool.and_eq_true, decide_eq_true_eq] at h
      exact .plain (e_tup (sndEs cs _ X fb C hN h.1).1 h.2) rfl
    · cases h
  | .lst cs, e, X, fb, C, hN, h => by
    unfold mE at h
    split at h
    · simp only [Bool.and_eq_true, decide_eq_true_eq] at h
      exact .plain (e_lst (sndEs cs _ X fb C hN h.1).1 h.2) rfl
    · cases h
  | .dct cs, e, X, fb, C, hN, h => by
    unfold mE at h
    split at h
    · exact .plain e_dct0 rfl
    · simp only [Bool.and_eq_true, decide_eq_true_eq] at h
      obtain ⟨⟨⟨⟨rfl, rfl⟩, h3⟩, h4⟩, h5⟩ := h
      exact .plain (e_dct2 h3 (sndE _ _ X fb C hN h4).pe (sndE _ _ X fb C hN h5).pe) rfl
    · cases h
  | .bin op a b, e, X, fb, C, hN, h => by
    unfold mE at h
    split at h
    · simp only [Bool.and_eq_true, decide_eq_true_eq] at h
      obtain ⟨⟨rfl, h1⟩, h2⟩ := h
      exact .plain (e_bin (sndE a _ X fb C hN h1).pe (sndE b _ X fb C hN h2).pe) rfl
    · cases h
  | .lrep cs a, e, X, fb, C, hN, h => by
    unfold mE at h
    split at h
    · simp only [Bool.and_eq_true, decide_eq_true_eq] at h
      exact .plain (e_lrep (sndEs cs _ X fb C hN h.1.1).1 h.1.2 (sndE a _ X fb C hN h.2).pe) rfl
    · cases h
  | .glb f n, e, X, fb, C, hN, h => by
    unfold mE at h
    split at h
    · simp only [Bool.and_eq_true, decide_eq_true_eq] at h
      obtain ⟨⟨⟨h1, h2⟩, h3⟩, h4⟩ := h
      exact .plain (e_glb C h1 h2 h3 (cmp_not _ h4)) rfl
    · cases h
  | .rg1 a, e, X, fb, C, hN, h => by
    unfold mE at h
    split at h
    · simp only [Bool.and_eq_true, decide_eq_true_eq] at h
      obtain ⟨⟨⟨⟨⟨rfl, h1⟩, rfl⟩, h2⟩, h3⟩, h4⟩ := h
      exact .plain (e_rg1 C h1 h2 (sndE a _ X fb C hN h4).pe h3) rfl
    · cases h
  | .rg2 a b, e, X, fb, C, hN, h => by
    unfold mE at h
    split at h
    · simp only [Bool.and_eq_true, decide_eq_true_eq] at h
      obtain ⟨⟨⟨⟨⟨⟨⟨rfl, h1⟩, rfl⟩, h2⟩, h3⟩, h4⟩, h5⟩, h6⟩ := h
      exact .plain (e_rg2 C h1 h2 (sndE a _ X fb C hN h5).pe (sndE b _ X fb C hN h6).pe h3 h4) rfl
    · cases h
  | .orep x k, e, X, fb, C, hN, h => by
    unfold mE at h
    split at h
    · simp only [Bool.and_eq_true] at h
      exact .plain (e_orep (sndE x _ X fb C hN h.1).pe (sndE k _ X fb C hN h.2).pe) rfl
    · cases h
  | .neg a, e, X, fb, C, hN, h => by
    unfold mE at h
    split at h
    · exact .plain (e_neg (sndE a _ X fb C hN h).pe) rfl
    · cases h
  | .not a, e, X, fb, C, hN, h => by
    unfold mE at h
    split at h
    · have i := sndE a _ X fb C hN h
      exact ⟨e_not i.pe, t_not i.pt, fun z => nomatch z⟩
    · cases h
  | .cmp op a b, e, X, fb, C, hN, h => by
    unfold mE at h
    split at h
    · simp only [Bool.and_eq_true, decide_eq_true_eq] at h
      obtain ⟨⟨⟨rfl, h0⟩, h1⟩, h2⟩ := h
      have i1 := (sndE a _ X fb C hN h1).pe
      have i2 := (sndE b _ X fb C hN h2).pe
      have hu : X.A.units + 66 < cLine := Nat.lt_of_le_of_lt (by omega) C.hu
      exact ⟨e_cmp hu i1 i2 h0, t_cmp hu i1 i2 h0, fun z => nomatch z⟩
    · cases h
  | .isn a, e, X, fb, C, hN, h => by
    unfold mE at h
    split at h
    · have i := (sndE a _ X fb C hN h).pe
      exact ⟨e_isn i, t_isn i, fun z => nomatch z⟩
    · cases h
  | .notn a, e, X, fb, C, hN, h => by
    unfold mE at h
    split at h
    · have i := (sndE a _ X fb C hN h).pe
      exact ⟨e_notn i, t_notn i, fun z => nomatch z⟩
    · cases h
  | .chain o1 o2 a b c, e, X, fb, C, hN, h => by
    unfold mE at h
    split at h
    · simp only [Bool.and_eq_true, decide_eq_true_eq] at h
      obtain ⟨⟨⟨⟨⟨rfl, rfl⟩, h0⟩, h1⟩, h2⟩, h3⟩ := h
      have i1 := (sndE a _ X fb C hN h1).pe
      have i2 := (sndE b _ X fb C hN h2).pe
      have i3 := (sndE c _ X fb C hN h3).pe
      have hu : X.A.units + 66 < cLine := Nat.lt_of_le_of_lt (by omega) C.hu
      exact ⟨e_chain hu i1 i2 i3 h0, t_chain hu i1 i2 i3 h0, fun z => nomatch z⟩
    · cases h
  | .and a b, e, X, fb, C, hN, h => by
    unfold mE at h
    split at h
    · simp only [Bool.and_eq_true] at h
      have i1 := sndE a _ X fb C hN h.1
      have i2 := sndE b _ X fb C hN h.2
      have w := w_and (pos := ‹Pos›) i1.pt (pw_and1 i2.pt)
      exact ⟨e_and i1.pe (pe_one i2.pe), w.pt, fun _ => w⟩
    · simp only [Bool.and_eq_true] at h
      have i1 := sndE a _ X fb C hN h.1
      have i2 := sndE b _ X fb C hN h.2
      have w := w_and i1.pt (i2.pw rfl)
      exact ⟨e_and i1.pe i2.pe, w.pt, fun _ => w⟩
    · cases h
  | .or a b, e, X, fb, C, hN, h => by
    unfold mE at h
    split at h
    · simp only [Bool.and_eq_true] at h
      have i1 := sndE a _ X fb C hN h.1
      have i2 := sndE b _ X fb C hN h.2
      have w := w_or (pos := ‹Pos›) i1.pt (pw_or1 i2.pt)
      exact ⟨e_or i1.pe (pe_one i2.pe), w.pt, fun _ => w⟩
    · simp only [Bool.and_eq_true] at h
      have i1 := sndE a _ X fb C hN h.1
      have i2 := sndE b _ X fb C hN h.2
      have w := w_or i1.pt (i2.pw rfl)
      exact ⟨e_or i1.pe i2.pe, w.pt, fun _ => w⟩
    · cases h
  | .ite c a b, e, X, fb, C, hN, h => by
    unfold mE at h
    split at h
    · simp only [Bool.and_eq_true] at h
      have i1 := sndE c _ X fb C hN h.1.1
      have i2 := sndE a _ X fb C hN h.1.2
      have i3 := sndE b _ X fb C hN h.2
      exact ⟨e_ite i1.pt i2.pe i3.pe, t_ite i1.pt i2.pt i3.pt, fun z => nomatch z⟩
    · cases h
  | .idx a i, e, X, fb, C, hN, h => by
    unfold mE at h
    split at h
    · simp only [Bool.and_eq_true] at h
      exact .plain (e_idx (Nat.lt_of_le_of_lt (by omega) C.hu) (sndE a _ X fb C hN h.1.2).pe (sndE i _ X fb C hN h.2).pe h.1.1) rfl
    · cases h
  | .slo a i, e, X, fb, C, hN, h => by
    unfold mE at h
    split at h
    · simp only [Bool.and_eq_true] at h
      exact .plain (e_slo (sndE a _ X fb C hN h.1).pe (sndE i _ X fb C hN h.2).pe) rfl
    · cases h
  | .shi a i, e, X, fb, C, hN, h => by
    unfold mE at h
    split at h
    · simp only [Bool.and_eq_true] at h
      exact .plain (e_shi (sndE a _ X fb C hN h.1).pe (sndE i _ X fb C hN h.2).pe) rfl
    · cases h
  | .slh a i j, e, X, fb, C, hN, h => by
    unfold mE at h
    split at h
    · simp only [Bool.and_eq_true] at h
      exact .plain (e_slh (sndE a _ X fb C hN h.1.1).pe (sndE i _ X fb C hN h.1.2).pe (sndE j _ X fb C hN h.2).pe) rfl
    · cases h
  | .rev a, e, X, fb, C, hN, h => by
    unfold mE at h
    split at h
    · exact .plain (e_rev (sndE a _ X fb C hN h).pe) rfl
    · cases h
  | .call f sig cs, e, X, fb, C, hN, h => by
    unfold mE at h
    split at h
    · simp only [Bool.and_eq_true, decide_eq_true_eq] at h
      obtain ⟨⟨⟨⟨⟨⟨h1, h7⟩, h2⟩, h3⟩, h4⟩, h5⟩, h6⟩ := h
      exact .plain (e_call C h1 h7 h2 h3 (cmp_not _ h4) h5 (sndEs cs _ X fb C hN h6).1) rfl
    · cases h
  | .b1 f a, e, X, fb, C, hN, h => by
    unfold mE at h
    rw [Bool.or_eq_true] at h
    rcases h with h | h
    · split at h
      · simp only [Bool.and_eq_true, decide_eq_true_eq] at h
        obtain ⟨⟨⟨⟨⟨h1, h2⟩, rfl⟩, h4⟩, h5⟩, h6⟩ := h
        exact .plain (e_b1 C h1 h2 h4 (sndE a _ X fb C hN h6).pe h5) rfl
      · cases h
    · split at h
      · simp only [Bool.and_eq_true, Bool.or_eq_true, decide_eq_true_eq] at h
        obtain ⟨⟨⟨⟨⟨rfl, h2⟩, h3⟩, h4⟩, h5⟩, h6⟩ := h
        rcases h6 with ⟨rfl, rfl⟩ | ⟨rfl, rfl⟩
        · exact .plain (e_lenset C h4 h2 (sndE a _ X fb C hN h5).pe h3) rfl
        · exact .plain (e_sortset C h4 h2 (sndE a _ X fb C hN h5).pe h3) rfl
      · cases h
  | .b2 f a b, e, X, fb, C, hN, h => by
    unfold mE at h
    split at h
    · simp only [Bool.and_eq_true, decide_eq_true_eq] at h
      obtain ⟨⟨⟨⟨⟨rfl, h2⟩, h3⟩, h4⟩, h5⟩, h6⟩ := h
      exact .plain (e_b2 C h2 (sndE a _ X fb C hN h5).pe (sndE b _ X fb C hN h6).pe h3 h4) rfl
    · cases h
  | .isi a ts, e, X, fb, C, hN, h => by
    unfold mE at h
    split at h
    · simp only [Bool.and_eq_true, decide_eq_true_eq] at h
      obtain ⟨⟨⟨⟨rfl, h2⟩, h3⟩, h4⟩, h5⟩ := h
      split at h4
      · simp only [Bool.and_eq_true, decide_eq_true_eq] at h4
        obtain ⟨rfl, h4⟩ := h4
        exact .plain (e_isi1 C h2 h4 (sndE a _ X fb C hN h5).pe h3) rfl
      · cases h4
    · simp only [Bool.and_eq_true, decide_eq_true_eq] at h
      obtain ⟨⟨⟨⟨⟨rfl, h2⟩, h3⟩, h4⟩, h5⟩, h6⟩ := h
      exact .plain (e_isi C h2 h4 h5 (sndE a _ X fb C hN h6).pe h3) rfl
    · cases h
  | .index a b, e, X, fb, C, hN, h => by
    unfold mE at h
    cases h
  | .get1 a b, e, X, fb, C, hN, h => by
    unfold mE at h
    cases h
  | .get2 a b c, e, X, fb, C, hN, h => by
    unfold mE at h
    cases h
  | .append i a, e, X, fb, C, hN, h => by
    unfold mE at h
    split at h
    · simp only [Bool.and_eq_true, decide_eq_true_eq] at h
      obtain ⟨⟨⟨⟨rfl, h2⟩, h3⟩, h4⟩, h5⟩ := h
      exact .plain (e_append (by rw [hN]; exact h2) (sndE a _ X fb C hN h5).pe h3 h4) rfl
    · cases h
  | .extend i a, e, X, fb, C, hN, h => by
    unfold mE at h
    split at h
    · simp only [Bool.and_eq_true, decide_eq_true_eq] at h
      obtain ⟨⟨⟨⟨rfl, h2⟩, h3⟩, h4⟩, h5⟩ := h
      exact .plain (e_extend (by rw [hN]; exact h2) (sndE a _ X fb C hN h5).pe h3 h4) rfl
    · cases h
  | .pop i, e, X, fb, C, hN, h => by
    unfold mE at h
    split at h
    · simp only [Bool.and_eq_true, decide_eq_true_eq] at h
      obtain ⟨⟨rfl, h2⟩, h4⟩ := h
      exact .plain (e_pop (by rw [hN]; exact h2) h4) rfl
    · cases h
  | .popat i a, e, X, fb, C, hN, h => by
    unfold mE at h
    split at h
    · simp only [Bool.and_eq_true, decide_eq_true_eq] at h
      obtain ⟨⟨⟨⟨rfl, h2⟩, h3⟩, h4⟩, h5⟩ := h
      exact .plain (e_popat (by rw [hN]; exact h2) (sndE a _ X fb C hN h5).pe h3 h4) rfl
    · cases h
  | .lc own tg it cs elt, e, X, fb, C, hN, h => by
    unfold mE at h
    split at h
    · simp only [Bool.and_eq_true, decide_eq_true_eq] at h
      obtain ⟨⟨⟨⟨⟨⟨⟨h1, h2⟩, h3⟩, h4⟩, h5⟩, h6⟩, h7⟩, h8⟩ := h
      subst hN
      have hk := (blkOk_by h1).kind
      have CB : ∀ (s : Shared) (H : Hp) (D : Addr) (cl : List (Str × Addr)) (fp : List Addr), Ctx (X.blk s H _ (compEnvC _ cl D X.env) fp) L Φ _ := fun s H D cl fp => C.blk hk
      exact .plain (e_lc C (sndI it _ X fb _ _ C rfl rfl h5) h4 h1 (fun s H D cl fp => pg_T (CB s H D cl fp) h6) (fun s H D cl fp => sndCs cs _ _ _ (CB s H D cl fp) rfl h7)
        (fun s H D cl fp => (sndE elt _ _ _ (CB s H D cl fp) rfl h8).pe) h2 h3) rfl
    · cases h
  | .lc2 own tg it cs tg2 it2 cs2 elt, e, X, fb, C, hN, h => by
    unfold mE at h
    cases h
theorem sndEs {L : List (String × List Bool)} {Φ : Tbl} {N : List Str} {io : List Nat} : ∀ (cs : Es) (es : List Expr) (X : Cx) (fb : Str → Bool), Ctx X L Φ fb → X.N = N → mEs L N io X.env.scope fb cs es = true → PA X es (tA X.K Φ io cs) ∧ PA X es (tA' X.K Φ io cs)
  | .nil, es, X, fb, C, hN, h => by
    unfold mEs at h
    split at h
    · exact ⟨pa_nilC, pdnil⟩
    · cases h
  | .cons a cs, es, X, fb, C, hN, h => by
    unfold mEs at h
    split at h
    · simp only [Bool.and_eq_true] at h
      have i1 := (sndE a _ X fb C hN h.1.2).pe
      have i2 := sndEs cs _ X fb C hN h.2
      exact ⟨pa_consC i1 i2.1 h.1.1, pdrop i1 i2.2 h.1.1⟩
    · cases h
theorem sndCs {L : List (String × List Bool)} {Φ : Tbl} {N : List Str} {io : List Nat} : ∀ (cs : Es) (es : List Expr) (X : Cx) (fb : Str → Bool), Ctx X L Φ fb → X.N = N → mCs L N io X.env.scope fb cs es = true → PTs X es (tCs X.K Φ io cs)
  | .nil, es, X, fb, C, hN, h => by
    unfold mCs at h
    split at h
    · exact pts_nilC
    · cases h
  | .cons a cs, es, X, fb, C, hN, h => by
    unfold mCs at h
    split at h
    · exact pts_oneC (sndE a _ X fb C hN h).pt
    · cases h
theorem sndI {L : List (String × List Bool)} {Φ : Tbl} {N : List Str} {io : List Nat} : ∀ (it : It) (e : Expr) (X : Cx) (fb : Str → Bool) (tg : Expr) (t : Bool), Ctx X L Φ fb → X.N = N → isTupE tg = t → mI L N io X.env.scope fb it e t = true → PI X tg e (tI X.K Φ io it)
  | .of a, e, X, fb, tg, t, C, hN, ht, h => by
    unfold mI at h
    exact i_of (sndE a _ X fb C hN h).pe
  | .range1 a, e, X, fb, tg, t, C, hN, ht, h => by
    unfold mI at h
    split at h
    · simp only [Bool.and_eq_true, decide_eq_true_eq] at h
      obtain ⟨⟨⟨rfl, h2⟩, h3⟩, h4⟩ := h
      exact i_range1 C h2 (sndE a _ X fb C hN h4).pe h3
    · cases h
  | .range2 a b, e, X, fb, tg, t, C, hN, ht, h => by
    unfold mI at h
    split at h
    · simp only [Bool.and_eq_true, decide_eq_true_eq] at h
      obtain ⟨⟨⟨⟨⟨rfl, h2⟩, h3⟩, h4⟩, h5⟩, h6⟩ := h
      exact i_range2 C h2 (sndE a _ X fb C hN h5).pe (sndE b _ X fb C hN h6).pe h3 h4
    · cases h
  | .enum a, e, X, fb, tg, t, C, hN, ht, h => by
    unfold mI at h
    split at h
    · simp only [Bool.and_eq_true, decide_eq_true_eq] at h
      obtain ⟨⟨⟨⟨h0, rfl⟩, h2⟩, h3⟩, h4⟩ := h
      subst ht
      have i1 := (sndE a _ X fb C hN h4).pe
      cases tg <;> first | exact Bool.noConfusion h0 | exact i_enum C h2 i1 h3
    · cases h
  | .zip2 st a b, e, X, fb, tg, t, C, hN, ht, h => by
    unfold mI at h
    split at h
    · simp only [Bool.and_eq_true, decide_eq_true_eq] at h
      obtain ⟨⟨⟨⟨⟨⟨⟨h0, h1⟩, rfl⟩, h2⟩, h3⟩, h4⟩, h5⟩, h6⟩ := h
      subst ht
      have e0 : st = false := cmp_not _ h1
      subst e0
      have i1 := (sndE a _ X fb C hN h5).pe
      have i2 := (sndE b _ X fb C hN h6).pe
      cases tg <;> first | exact Bool.noConfusion h0 | exact i_zip2 C h2 i1 i2 h3 h4
    · simp only [Bool.and_eq_true, decide_eq_true_eq] at h
      obtain ⟨⟨⟨⟨⟨⟨⟨⟨h0, rfl⟩, rfl⟩, rfl⟩, h2⟩, h3⟩, h4⟩, h5⟩, h6⟩ := h
      subst ht
      have i1 := (sndE a _ X fb C hN h5).pe
      have i2 := (sndE b _ X fb C hN h6).pe
      cases tg <;> first | exact Bool.noConfusion h0 | exact i_zip2K (zturn _ _) C h2 i1 i2 h3 h4
    · cases h
  | .zip3 st a b c, e, X, fb, tg, t, C, hN, ht, h => by
    unfold mI at h
    cases h
end
end Co

set_option linter.all false
/-! Co18: statements, decided and sound. -/
namespace Co
open PySem PySem.Spec PyProof.Rows L2

def isStarE : Expr → Bool
  | .Starred .. => true
  | _ => false
def nmOf (sc : Scope) (line : Nat) : Expr → Option Str
  | .Name id pos => if sc.names.lookup id == some .local && pos.line == line then some id else none
  | _ => none
/-- how a tuple's values are stored: swapped (the names), in order, or not told -/
def swq (sc : Scope) (ts vs : List Expr) : Option (Option (List Str)) :=
  if !(ts.length == 2 || ts.length == 3) || vs.length != ts.length then some none
  else if vs.any isStarE then some none
  else if (ts.filterMap (nmOf sc ((ts.head?.map (·.pos.line)).getD 0))).length != ts.length || (ts.filterMap (nmOf sc ((ts.head?.map (·.pos.line)).getD 0))).eraseDups.length != (ts.filterMap (nmOf sc ((ts.head?.map (·.pos.line)).getD 0))).length then some none
  else if vs.all (foldedForSure 8) then some none
  else if vs.all (constantsAlone 8) then none
  else some (some (ts.filterMap (nmOf sc ((ts.head?.map (·.pos.line)).getD 0))))
theorem block_fn {env : PySem.Env} (hk : env.scope.kind = .function) : env.blockKind = .function := by
  unfold PySem.Env.blockKind; rw [hk]; rfl
theorem swq_ok {env : PySem.Env} (hk : env.scope.kind = .function) {ts vs : List Expr} {k k2 : Nat} {p p2 : Pos} {r : Option (List Str)} (h : swq env.scope ts vs = some r) : swappedStores [.Tuple ts k p] (.Tuple vs k2 p2) env = pure r := by
  have hb := block_fn hk
  unfold swq at h
  unfold swappedStores
  simp only [hb]
  generalize hnm : (ts.filterMap (nmOf env.scope ((ts.head?.map (·.pos.line)).getD 0))) = nm at h
  have goal : (if (!(ts.length == 2 || ts.length == 3) || vs.length != ts.length || ScopeKind.function != ScopeKind.function) = true then (pure none : Sem (Option (List Str)))
      else if vs.any isStarE = true then pure none
      else if (nm.length != ts.length || nm.eraseDups.length != nm.length) = true then pure none
      else if vs.all (foldedForSure 8) = true then pure none
      else if vs.all (constantsAlone 8) = true then (do let _ : Unit ← unsupported "assign.tuple-of-constant-expressions:order-of-the-stores"; pure (some nm))
      else pure (some nm)) = pure r := by
    have e0 : (ScopeKind.function != ScopeKind.function) = false := by decide
    rw [e0, Bool.or_false]
    split at h
    · cases h; rw [if_pos (by assumption)]
    · rw [if_neg (by assumption)]
      split at h
      · cases h; rw [if_pos (by assumption)]
      · rw [if_neg (by assumption)]
        split at h
        · cases h; rw [if_pos (by assumption)]
        · rw [if_neg (by assumption)]
          split at h
          · cases h; rw [if_pos (by assumption)]
          · rw [if_neg (by assumption)]
            split at h
            · cases h
            · cases h; rw [if_neg (by assumption)]
  rw [← goal, ← hnm]
  rfl

theorem swap_sub {e : Expr} {o i : Expr} {p : Pos} {n : Nat} {env : PySem.Env} : swapsWith e (some (.Subscript o i p)) n env = pure false := by cases e <;> rfl
theorem swap_tup {e : Expr} {ts : List Expr} {k : Nat} {p : Pos} {n : Nat} {env : PySem.Env} : swapsWith e (some (.Tuple ts k p)) n env = pure false := by cases e <;> rfl
/-- a comprehension's list goes to the name at once -/
def swB (sc scope : Scope) (t : Str) (tp pos : Pos) : Bool := sc.names.lookup t == some .local && tp.line == pos.line && !(scope.names.any fun (n, k) => n == t && (k == .local || k == .cell))
theorem swB_ok {env : PySem.Env} (hk : env.scope.kind = .function) {elt : Expr} {gs : List Comprehension} {scope : Scope} {pos py : Pos} {y : Str} {l : Nat} : swapsWith (.ListComp elt gs scope pos) (some (.Name y py)) l env = pure (swB env.scope scope y py pos) := by
  have hb := block_fn hk
  unfold swapsWith
  simp only [hb]
  rfl
def lcScope : Expr → Option (Scope × Pos)
  | .ListComp _ _ s p => some (s, p)
  | _ => none
def notComp : Expr → Bool
  | .SetComp .. | .DictComp .. => false
  | _ => true
def mPar (sc : Scope) (is : List Nat) (ts vs : List Expr) : Bool := match swq sc ts vs with
  | none => false
  | some none => true
  | some (some names) => match ts, is with
    | [.Name x _, .Name y _], [_, _] => decide (names = [x, y]) && decide (sc.names.lookup x = some .local) && decide (sc.names.lookup y = some .local) && decide (vs.length = 2)
    | [.Name x _, .Name y _, .Name z _], [_, _, _] => decide (names = [x, y, z]) && decide (sc.names.lookup x = some .local) && decide (sc.names.lookup y = some .local) && decide (sc.names.lookup z = some .local) && decide (vs.length = 3)
    | _, _ => false
mutual
def mS (L : List (String × List Bool)) (N : List Str) (io : List Nat) (sc : Scope) (fb : Str → Bool) : S → Stmt → Bool
  | .skip, st => match st with
    | .Pass _ => true
    | .Expr (.Constant (.str _) _ _) _ => true
    | _ => false
  | .seq a b, st => false
  | .expr a, st => match st with
    | .Expr e _ => notLc e && mE L N io sc fb a e
    | _ => false
  | .asg i a, st => match st with
    | .Assign [.Name x p] e _ => mSt N sc fb i x && wfSl N.length io [i] && notComp e && mE L N io sc fb a e
    | _ => false
  | .unpack is a, st => match st with
    | .Assign [.Tuple ts _ _] e _ => notTup e && mSts N sc fb is ts && wfSl N.length io is && mE L N io sc fb a e
    | _ => false
  | .par is cs, st => match st with
    | .Assign [.Tuple ts _ _] (.Tuple vs _ _) _ => mSts N sc fb is ts && mPar sc is ts vs && wfSl N.length io is && decide is.Nodup && decide (cs.len ≤ 1000) && mEs L N io sc fb cs vs
    | _ => false
  | .put i k a, st => match st with
    | .Assign [.Subscript (.Name x _) e1 _] e2 _ => mVis N sc i x && notSlice e1 && mE L N io sc fb k e1 && mE L N io sc fb a e2
    | _ => false
  | .aug i op a, st => match st with
    | .AugAssign (.Name x _) o e _ => mSt N sc fb i x && wfSl N.length io [i] && (match op, o with | .add, .Add => true | .sub, .Sub => true | _, _ => false) && mE L N io sc fb a e
    | _ => false
  | .ifs c a b, st => match st with
    | .If e body els _ => mE L N io sc fb c e && mSs L N io sc fb a body && mSs L N io sc fb b els
    | _ => false
  | .for tg it a, st => match st with
    | .For etg iter body [] _ => mTg N sc fb tg etg && wfSl N.length io tg.slots && notSet iter && mI L N io sc fb it iter (isTupE etg) && mSs L N io sc fb a body
    | _ => false
  | .whl c a, st => match st with
    | .While e body [] _ => mE L N io sc fb c e && mSs L N io sc fb a body
    | _ => false
  | .ret a, st => match st with
    | .Return (some e) _ => mE L N io sc fb a e
    | _ => false
  | .retn, st => match st with
    | .Return none _ => true
    | _ => false
  | .brk, st => match st with
    | .Break _ => true
    | _ => false
  | .cont, st => match st with
    | .Continue _ => true
    | _ => false
def mSs (L : List (String × List Bool)) (N : List Str) (io : List Nat) (sc : Scope) (fb : Str → Bool) : S → List Stmt → Bool
  | .skip, sts => match sts with
    | [] => true
    | _ => false
  | .seq a b, sts => match sts with
    | st :: rest => mS L N io sc fb a st && mSs L N io sc fb b rest
    | _ => false
  | _, _ => false
end
theorem snd_asg {L : List (String × List Bool)} {Φ : Tbl} {N : List Str} {io : List Nat} {a : E} {e : Expr} {X : Cx} {fb : Str → Bool} {i : Nat} {x : Str} {p pos : Pos} (C : Ctx X L Φ fb) (hN : X.N = N) (h1 : mSt N X.env.scope fb i x = true) (h2 : wfSl N.length io [i] = true) (h3 : notComp e = true)
    (h : mE L N io X.env.scope fb a e = true) : PS X (.Assign [.Name x p] e pos) (tS X.K Φ io (.asg i a)) := by
  have he := (sndE a e X fb C hN h).pe
  subst hN
  by_cases n : notLc e = true
  · exact s_asg C he h1 (swap_no n _ _ _) h2
  · cases e <;> first | exact absurd rfl n | exact Bool.noConfusion h3 | skip
    rename_i eelt gens scope p2
    cases hs : swB X.env.scope scope x p p2 with
    | false => exact s_asg C he h1 (by rw [swB_ok C.kind, hs]) h2
    | true =>
      cases a with
      | lc own tg it cs elt =>
        have hx := hs
        unfold swB at hx
        simp only [Bool.and_eq_true] at hx
        have hl : X.env.scope.names.lookup x = some .local := by simpa using hx.1.1
        unfold mE at h
        split at h
        case h_2 => cases h
        case h_1 heq =>
          cases heq
          simp only [Bool.and_eq_true, decide_eq_true_eq] at h
          obtain ⟨⟨⟨⟨⟨⟨⟨g1, g2⟩, g3⟩, g4⟩, g5⟩, g6⟩, g7⟩, g8⟩ := h
          have hk := (blkOk_by g1).kind
          have CB : ∀ (s : Shared) (H : Hp) (D : Addr) (cl : List (Str × Addr)) (fp : List Addr), Ctx (X.blk s H _ (compEnvC _ cl D X.env) fp) L Φ _ := fun s H D cl fp => C.blk hk
          exact s_asgLc C (mSt_ok C h1).1 hl (by rw [swB_ok C.kind, hs]) (sndI it _ X fb _ _ C rfl rfl g5) g4 g1 (fun s H D cl fp => pg_T (CB s H D cl fp) g6) (fun s H D cl fp => sndCs cs _ _ _ (CB s H D cl fp) rfl g7)
            (fun s H D cl fp => (sndE elt _ _ _ (CB s H D cl fp) rfl g8).pe) g2 g3 h2
      | dct cs => cases cs <;> (unfold mE at h; simp at h)
      | _ => unfold mE at h; simp at h
theorem snd_par {L : List (String × List Bool)} {Φ : Tbl} {N : List Str} {io : List Nat} {cs : Es} {ts vs : List Expr} {X : Cx} {fb : Str → Bool} {is : List Nat} {k k2 : Nat} {p p2 pos : Pos} (C : Ctx X L Φ fb) (hN : X.N = N) (h1 : mSts N X.env.scope fb is ts = true) (h2 : mPar X.env.scope is ts vs = true)
    (h3 : wfSl N.length io is = true) (h4 : is.Nodup) (h5 : cs.len ≤ 1000) (h : mEs L N io X.env.scope fb cs vs = true) : PS X (.Assign [.Tuple ts k p] (.Tuple vs k2 p2) pos) (tS X.K Φ io (.par is cs)) := by
  have he := (sndEs cs vs X fb C hN h).2
  subst hN
  unfold mPar at h2
  split at h2
  · cases h2
  · exact s_parN C he h1 (swq_ok C.kind (by assumption)) h4 h3 h5
  · rename_i names hq
    split at h2
    · rename_i x px y py i j
      simp only [Bool.and_eq_true, decide_eq_true_eq] at h2
      obtain ⟨⟨⟨rfl, l1⟩, l2⟩, l3⟩ := h2
      simp only [mSts, Bool.and_eq_true] at h1
      match vs, l3 with
      | [v1, v2], _ => exact s_par2 C he h1.1 h1.2.1 l1 l2 (swq_ok C.kind hq) (by simpa using h4) h3
    · rename_i x px y py z pz i j l
      simp only [Bool.and_eq_true, decide_eq_true_eq] at h2
      obtain ⟨⟨⟨⟨rfl, l1⟩, l2⟩, l3⟩, l4⟩ := h2
      simp only [mSts, Bool.and_eq_true] at h1
      have nd : (i ≠ j ∧ i ≠ l) ∧ j ≠ l := by simpa using h4
      match vs, l4 with
      | [v1, v2, v3], _ => exact s_par3 C he h1.1 h1.2.1 h1.2.2.1 l1 l2 l3 (swq_ok C.kind hq) nd.1.1 nd.1.2 nd.2 h3
    · cases h2
mutual
theorem sndS {L : List (String × List Bool)} {Φ : Tbl} {N : List Str} {io : List Nat} {X : Cx} {fb : Str → Bool} (C : Ctx X L Φ fb) (hN : X.N = N) : ∀ (a : S) (st : Stmt), mS L N io X.env.scope fb a st = true → PS X st (tS X.K Φ io a)
  | .skip, st, h => by
    unfold mS at h
    split at h
    · exact s_pass
    · exact s_doc
    · cases h
  | .seq a b, st, h => by
    unfold mS at h
    cases h
  | .expr a, st, h => by
    unfold mS at h
    split at h
    · simp only [Bool.and_eq_true] at h
      exact s_expr (sndE a _ X fb C hN h.2).pe h.1
    · cases h
  | .asg i a, st, h => by
    unfold mS at h
    split at h
    · simp only [Bool.and_eq_true] at h
      exact snd_asg C hN h.1.1.1 h.1.1.2 h.1.2 h.2
    · cases h
  | .unpack is a, st, h => by
    unfold mS at h
    split at h
    · simp only [Bool.and_eq_true] at h
      subst hN
      exact s_unpack C (sndE a _ X fb C rfl h.2).pe h.1.1.1 h.1.1.2 h.1.2
    · cases h
  | .par is cs, st, h => by
    unfold mS at h
    split at h
    · simp only [Bool.and_eq_true, decide_eq_true_eq] at h
      obtain ⟨⟨⟨⟨⟨h1, h2⟩, h3⟩, h4⟩, h5⟩, h6⟩ := h
      exact snd_par C hN h1 h2 h3 h4 h5 h6
    · cases h
  | .put i k a, st, h => by
    unfold mS at h
    split at h
    · simp only [Bool.and_eq_true] at h
      obtain ⟨⟨⟨h1, h2⟩, h3⟩, h4⟩ := h
      exact s_put C (by rw [hN]; exact h1) (sndE k _ X fb C hN h3).pe (sndE a _ X fb C hN h4).pe h2
    · cases h
  | .aug i op a, st, h => by
    unfold mS at h
    split at h
    · simp only [Bool.and_eq_true] at h
      obtain ⟨⟨⟨h1, h2⟩, h3⟩, h4⟩ := h
      have he := (sndE a _ X fb C hN h4).pe
      subst hN
      split at h3
      · exact s_augAdd C he h1 h2
      · exact s_augSub C he h1 h2
      · cases h3
    · cases h
  | .ifs c a b, st, h => by
    unfold mS at h
    split at h
    · simp only [Bool.and_eq_true] at h
      exact s_if (sndE c _ X fb C hN h.1.1).pt (sndSs C hN a _ h.1.2) (sndSs C hN b _ h.2)
    · cases h
  | .for tg it a, st, h => by
    unfold mS at h
    split at h
    · simp only [Bool.and_eq_true] at h
      obtain ⟨⟨⟨⟨h1, h2⟩, h3⟩, h4⟩, h5⟩ := h
      have hb := sndSs C hN a _ h5
      have hi := sndI it _ X fb _ _ C hN rfl h4
      subst hN
      exact s_for C hi h3 (pg_T C h1) hb h2
    · cases h
  | .whl c a, st, h => by
    unfold mS at h
    split at h
    · simp only [Bool.and_eq_true] at h
      exact s_while C (sndE c _ X fb C hN h.1).pt (sndSs C hN a _ h.2)
    · cases h
  | .ret a, st, h => by
    unfold mS at h
    split at h
    · exact s_ret (sndE a _ X fb C hN h).pe
    · cases h
  | .retn, st, h => by
    unfold mS at h
    split at h
    · exact s_retn
    · cases h
  | .brk, st, h => by
    unfold mS at h
    split at h
    · exact s_brk
    · cases h
  | .cont, st, h => by
    unfold mS at h
    split at h
    · exact s_cont
    · cases h
theorem sndSs {L : List (String × List Bool)} {Φ : Tbl} {N : List Str} {io : List Nat} {X : Cx} {fb : Str → Bool} (C : Ctx X L Φ fb) (hN : X.N = N) : ∀ (a : S) (sts : List Stmt), mSs L N io X.env.scope fb a sts = true → PSs X sts (tS X.K Φ io a)
  | .skip, sts, h => by
    unfold mSs at h
    split at h
    · exact s_nil
    · cases h
  | .seq a b, sts, h => by
    unfold mSs at h
    split at h
    · simp only [Bool.and_eq_true] at h
      exact s_cons (sndS C hN a _ h.1) (sndSs C hN b _ h.2)
    · cases h
  | .expr .., sts, h | .asg .., sts, h | .unpack .., sts, h | .par .., sts, h | .put .., sts, h | .aug .., sts, h | .ifs .., sts, h | .for .., sts, h | .whl .., sts, h | .ret .., sts, h | .retn, sts, h | .brk, sts, h | .cont, sts, h => by
    unfold mSs at h
    cases h
end
end Co

set_option linter.all false
/-! Co19: a def of the text keeps the promise that its body's weakest precondition makes. -/
namespace Co
open PySem PySem.Spec PyProof.Rows L2

def startE (n : Nat) : List Bool → List PyData → Env
  | b :: sg, d :: ds => some (if b = true then .io d else .val d) :: startE (n - 1) sg ds
  | _, _ => List.replicate n none
def ioOf (k : Nat) : List Bool → List Nat
  | [] => []
  | true :: sg => k :: ioOf (k + 1) sg
  | false :: sg => ioOf (k + 1) sg
def newsOf (env : Env) (io : List Nat) : List PyData := io.filterMap fun i => slC (slot env i)
def endsOf (io : List Nat) (Q : Sl → List PyData → Prop) : Co.Ends := { nx := fun e => Q (.val .none) (newsOf e io), rt := fun s e => Q s (newsOf e io), bk := fun _ => False, ct := fun _ => False }
/-- a body keeps a promise, the callees keeping theirs -/
def Impl (Φ : Tbl) (sig : List Bool) (n : Nat) (body : S) (sp : Spec) : Prop := ∀ ds Q, sp ds Q → ds.length = sig.length → wpS Φ body (startE n sig ds) (endsOf (ioOf 0 sig) Q)

def insOf (k : Nat) : List Bool → List V → List (Nat × Addr)
  | true :: sg, .ref p :: vs => (k, p) :: insOf (k + 1) sg vs
  | _ :: sg, _ :: vs => insOf (k + 1) sg vs
  | _, _ => []
section
variable {K : Frag} {F H : Hp}
theorem insOf_snd : ∀ {sig : List Bool} {vs : List V} {k : Nat}, (insOf k sig vs).map (·.2) = inAddr sig vs
  | [], vs, k => rfl
  | b :: sig, [], k => by cases b <;> rfl
  | b :: sig, v :: vs, k => by
    cases b <;> cases v <;> first | exact insOf_snd (sig := sig) (vs := vs) (k := k + 1) | exact congrArg _ (insOf_snd (sig := sig) (vs := vs) (k := k + 1))
theorem insOf_fst : ∀ {sig : List Bool} {vs : List V} {ds : List PyData} {k : Nat}, argsD K F H sig vs ds → (insOf k sig vs).map (·.1) = ioOf k sig
  | [], [], [], k, h => rfl
  | [], [], d :: ds, k, h => h.elim
  | [], v :: vs, ds, k, h => by cases ds <;> exact h.elim
  | b :: sig, [], ds, k, h => by cases b <;> cases ds <;> exact h.elim
  | b :: sig, v :: vs, [], k, h => by cases b <;> exact h.elim
  | true :: sig, v :: vs, d :: ds, k, h => by
    obtain ⟨⟨p, rfl, _⟩, h⟩ := h
    exact congrArg _ (insOf_fst (k := k + 1) h)
  | false :: sig, v :: vs, d :: ds, k, h => by
    have := insOf_fst (k := k + 1) h.2
    cases v <;> exact this
theorem ins_mem : ∀ {sig : List Bool} {vs : List V} {k : Nat} {q : Nat × Addr}, q ∈ insOf k sig vs → ∃ j, q.1 = k + j ∧ sig[j]? = some true ∧ vs[j]? = some (.ref q.2)
  | [], vs, k, q, h => by cases vs <;> exact absurd h (by simp [insOf])
  | b :: sig, [], k, q, h => by cases b <;> exact absurd h (by simp [insOf])
  | b :: sig, v :: vs, k, q, h => by
    have recr : ∀ {q}, q ∈ insOf (k + 1) sig vs → ∃ j, q.1 = k + j ∧ (b :: sig)[j]? = some true ∧ (v :: vs)[j]? = some (.ref q.2) := fun {q} h => by
      obtain ⟨j, a, b', c⟩ := ins_mem h
      exact ⟨j + 1, by omega, by simpa using b', by simpa using c⟩
    cases b with
    | false => cases v <;> exact recr h
    | true =>
      cases v with
      | ref p =>
        rcases List.mem_cons.mp (show q ∈ (k, p) :: insOf (k + 1) sig vs from h) with rfl | h
        · exact ⟨0, rfl, rfl, rfl⟩
        · exact recr h
      | _ => exact recr h
theorem mem_ins : ∀ {sig : List Bool} {vs : List V} {k j : Nat} {p : Addr}, sig[j]? = some true → vs[j]? = some (.ref p) → (k + j, p) ∈ insOf k sig vs
  | [], vs, k, j, p, h, _ => by simp at h
  | b :: sig, [], k, j, p, _, h => by simp at h
  | b :: sig, v :: vs, k, 0, p, h1, h2 => by
    simp at h1 h2
    subst h1 h2
    exact List.mem_cons_self
  | b :: sig, v :: vs, k, j + 1, p, h1, h2 => by
    have := mem_ins (k := k + 1) (j := j) (p := p) (sig := sig) (vs := vs) (by simpa using h1) (by simpa using h2)
    have e : k + 1 + j = k + (j + 1) := by omega
    rw [e] at this
    cases b <;> cases v <;> first | exact this | exact List.mem_cons_of_mem _ this
theorem args_len : ∀ {sig : List Bool} {vs : List V} {ds : List PyData}, argsD K F H sig vs ds → vs.length = sig.length ∧ ds.length = sig.length
  | [], [], [], h => ⟨rfl, rfl⟩
  | [], [], d :: ds, h => h.elim
  | [], v :: vs, ds, h => by cases ds <;> exact h.elim
  | b :: sig, [], ds, h => by cases b <;> cases ds <;> exact h.elim
  | b :: sig, v :: vs, [], h => by cases b <;> exact h.elim
  | true :: sig, v :: vs, d :: ds, h => by obtain ⟨a, b⟩ := args_len h.2; simp [a, b]
  | false :: sig, v :: vs, d :: ds, h => by obtain ⟨a, b⟩ := args_len h.2; simp [a, b]
/-- what stands at a parameter -/
theorem arg_at : ∀ {sig : List Bool} {vs : List V} {ds : List PyData} {n i : Nat} {s : Sl}, argsD K F H sig vs ds → slot (startE n sig ds) i = some s →
    ∃ v d, vs[i]? = some v ∧ ((sig[i]? = some false ∧ s = .val d ∧ Den K F v d) ∨ (sig[i]? = some true ∧ s = .io d ∧ ∃ p, v = .ref p ∧ F p = none ∧ OwnAt K F H p d))
  | [], [], [], n, i, s, h, e => by
    unfold startE slot at e
    rw [List.getElem?_replicate] at e
    split at e <;> cases e
  | [], [], d :: ds, n, i, s, h, e => h.elim
  | [], v :: vs, ds, n, i, s, h, e => by cases ds <;> exact h.elim
  | b :: sig, [], ds, n, i, s, h, e => by cases b <;> cases ds <;> exact h.elim
  | b :: sig, v :: vs, [], n, i, s, h, e => by cases b <;> exact h.elim
  | b :: sig, v :: vs, d :: ds, n, 0, s, h, e => by
    cases b with
    | true =>
      cases e
      exact ⟨v, d, rfl, .inr ⟨rfl, rfl, h.1⟩⟩
    | false =>
      cases e
      exact ⟨v, d, rfl, .inl ⟨rfl, rfl, h.1⟩⟩
  | b :: sig, v :: vs, d :: ds, n, i + 1, s, h, e => by
    have h' : argsD K F H sig vs ds := by cases b <;> exact h.2
    obtain ⟨v', d', a, c⟩ := arg_at (n := n - 1) (i := i) (s := s) h' (by unfold startE slot at e; simpa [slot] using e)
    exact ⟨v', d', by simpa using a, by simpa using c⟩
theorem startE_len : ∀ {sig : List Bool} {ds : List PyData} {n : Nat}, ds.length = sig.length → sig.length ≤ n → (startE n sig ds).length = n
  | [], ds, n, h, l => by unfold startE; simp
  | b :: sig, [], n, h, l => by cases h
  | b :: sig, d :: ds, n, h, l => by
    unfold startE
    have := startE_len (sig := sig) (ds := ds) (n := n - 1) (by simpa using h) (by simp at l; omega)
    rw [List.length_cons, this]
    simp at l; omega
theorem io_at : ∀ {sig : List Bool} {ds : List PyData} {n j : Nat}, ds.length = sig.length → sig[j]? = some true → ∃ d, slot (startE n sig ds) j = some (.io d)
  | [], ds, n, j, h, e => by simp at e
  | b :: sig, [], n, j, h, e => by cases h
  | b :: sig, d :: ds, n, 0, h, e => by
    simp at e; subst e
    exact ⟨d, rfl⟩
  | b :: sig, d :: ds, n, j + 1, h, e => by
    obtain ⟨d', q⟩ := io_at (n := n - 1) (j := j) (sig := sig) (ds := ds) (by simpa using h) (by simpa using e)
    exact ⟨d', by unfold startE slot; simpa [slot] using q⟩
theorem start_at {N : List Str} {vs : List V} {i : Nat} {v : V} (h : vs[i]? = some v) : (L2.start N vs)[i]? = some (some v) := by
  unfold L2.start
  have hi : i < vs.length := (List.getElem?_eq_some_iff.mp h).1
  rw [List.getElem?_append_left (by simpa using hi), List.getElem?_map, h]; rfl
/-- the state at a def's entry -/
theorem rep_start {N : List Str} {sig : List Bool} {vs : List V} {ds : List PyData} (hN : sig.length ≤ N.length) (m : Same F H) (h : argsD K F H sig vs ds) (nd : (inAddr sig vs).Nodup) :
    Rep K (ioOf 0 sig) ⟨H, F, insOf 0 sig vs, []⟩ (startE N.length sig ds) (L2.start N vs) F H := by
  obtain ⟨l1, l2⟩ := args_len h
  refine ⟨m, Same.refl F, fun b o e _ => e, fun b o _ e => e, ?_, fun i d q => ?_, fun i d q => ?_, fun i j d e p q => ?_, fun i d q => ?_, fun q hq => ?_, insOf_fst h, by show ((insOf 0 sig vs).map (·.2)).Nodup; rw [insOf_snd]; exact nd, fun t ht => absurd ht (by simp), List.nodup_nil⟩
  · rw [startE_len l2 hN]
    unfold L2.start
    simp [l1]; omega
  · obtain ⟨v, d', a, ⟨_, e, dn⟩ | ⟨_, e, _⟩⟩ := arg_at h q
    · cases e; exact ⟨v, start_at a, dn⟩
    · cases e
  · obtain ⟨v, d', a, ⟨_, e, dn⟩ | ⟨_, e, _⟩⟩ := arg_at h q <;> cases e
  · obtain ⟨v, d', a, ⟨_, e, dn⟩ | ⟨_, e, _⟩⟩ := arg_at h q <;> cases e
  · obtain ⟨v, d', a, ⟨_, e, dn⟩ | ⟨s, e, p, rfl, n, o⟩⟩ := arg_at h q
    · cases e
    · cases e
      have := mem_ins (k := 0) s a
      rw [Nat.zero_add] at this
      exact ⟨p, this, n, o⟩
  · obtain ⟨j, e1, e2, e3⟩ := ins_mem (show q ∈ insOf 0 sig vs from hq)
    rw [Nat.zero_add] at e1
    rw [e1]
    obtain ⟨d, hd⟩ := io_at (n := N.length) l2 e2
    refine ⟨start_at e3, ⟨d, hd⟩, ?_⟩
    obtain ⟨v, d', a, ⟨_, e, dn⟩ | ⟨s, e, p, rfl, n, o⟩⟩ := arg_at h hd
    · cases e
    · rw [e3] at a
      cases a
      obtain ⟨oo, ho, _⟩ := o.there
      exact ⟨oo, ho⟩
theorem news_ok {io : List Nat} {g : Gh} {env : Env} {σ : L2.St} (R : Rep K io g env σ F H) : newsD K F H (g.ins.map (·.2)) (newsOf env io) := by
  rw [← R.insI]
  have key : ∀ l : List (Nat × Addr), (∀ q ∈ l, q ∈ g.ins) → newsD K F H (l.map (·.2)) (newsOf env (l.map (·.1))) := by
    intro l hl
    induction l with
    | nil => exact trivial
    | cons q l ih =>
      have hq := hl q List.mem_cons_self
      obtain ⟨a, ⟨d, b⟩, _⟩ := R.ins q hq
      obtain ⟨p, hp, n, o⟩ := R.ios _ _ b
      have e1 := (R.ins _ hp).1
      rw [a] at e1
      have e3 : q.2 = p := by injection (Option.some.inj (Option.some.inj e1))
      have e2 : newsOf env ((q :: l).map (·.1)) = d :: newsOf env (l.map (·.1)) := by
        show List.filterMap _ (q.1 :: l.map (·.1)) = _
        rw [List.filterMap_cons, b]; rfl
      rw [e2]
      subst e3
      exact ⟨⟨n, o⟩, ih fun q hq => hl q (List.mem_cons_of_mem _ hq)⟩
  exact key g.ins fun _ h => h
end
/-- THE RULE: a def of the text, by its body in the little language -/
theorem fn_okC {P : Program} {w : World} {K : Frag} {mg : Str → Option Value} {base : Heap} {k : Nat} {f : Addr} {x qual : Str} {st : Stmt} {fd : FuncData} {N ps : List Str} {L : List (String × List Bool)} {Φ : Tbl} {sig : List Bool} {body : S} {sp : Spec}
    (D : Fun K x qual st f fd) (Sc : FnScope N ps (defScope st)) (hps : ps.length = sig.length) (sys : ∃ m, base.Ns sysModules m) (blt : ∀ x ∈ bltNames, mg (Str.ofString x) = none)
    (fns : ∀ p ∈ L, p.2.length < 100 → ∃ a fd ps, mg (Str.ofString p.1) = some (.ref a) ∧ PySem.W.keepIn K (.ref a) = true ∧ Binds K fd ps [] ∧ FnG P w K mg base k a fd ps (spOf K p.2 (Φ p.1)))
    (cst : ∀ p ∈ L, 100 ≤ p.2.length → ∃ u, mg (Str.ofString p.1) = some u ∧ RelV (.int ((p.2.length - 100 : Nat) : Int)) u)
    (hm : mSs L N (ioOf 0 sig) (defScope st) (fun _ => true) body (defBody st) = true) (hw : Impl Φ sig N.length body sp) : FnG P w K mg base (k + 1) f fd ps (spOf K sig sp) := by
  refine fn_g D Sc (fun vs H Q E h => h.1.trans hps.symm) fun cdv A outer s H vs Q hr hg ⟨hl, F, ds, m, ha, nd, Qs, hs, hk⟩ => ?_
  have hN : sig.length ≤ N.length := by
    have := congrArg List.length Sc.pre
    rw [List.length_take] at this
    omega
  have C : Ctx (cxOf CX0 P w K mg base N qual (defScope st) f cdv A outer s H E0).nox L Φ (fun _ => true) :=
    ⟨rfl, Sc.kind, fun _ _ => rfl, Sc.nd, rfl, by have := hr.un; show (A.deeper _).units + 100 < cLine; omega, hg, sys, blt, fun p hp hl => by
      obtain ⟨a, fd, ps, h1, h2, h3, h4⟩ := fns p hp hl
      exact ⟨k, a, fd, ps, h1, h2, h3, h4, hr⟩, cst⟩
  refine ⟨_, sndSs C rfl body _ hm, ⟨H, F, insOf 0 sig vs, []⟩, F, startE N.length sig ds, endsOf (ioOf 0 sig) Qs, rep_start hN m ha nd, hw ds Qs hs (args_len ha).2, ?_⟩
  have fin : ∀ {s : Sl} {env : Env} {σ : L2.St} {F' H' : Hp} {v : V}, Rep K (ioOf 0 sig) ⟨H, F, insOf 0 sig vs, []⟩ env σ F' H' → SDen K ⟨H, F, insOf 0 sig vs, []⟩ F' H' σ env v s → (∀ d, s ≠ .io d) → Qs s (newsOf env (ioOf 0 sig)) → Q v H' := fun {s env σ F' H' v} R sd ni q => by
    have nw := news_ok R
    rw [show ((⟨H, F, insOf 0 sig vs, []⟩ : Gh).ins.map (·.2)) = inAddr sig vs from insOf_snd] at nw
    refine hk s _ q v H' F' R.sub0 R.sub (fun b o e hb => R.frame b o e fun q hq z => hb ?_) (fun b o e n => R.nof b o e n) nw ?_
    · rw [← insOf_snd (k := 0), ← z]
      exact List.mem_map_of_mem hq
    · cases s with
      | val d => exact sd
      | io d => exact absurd rfl (ni d)
      | own d =>
        obtain ⟨p, e, a, b, c, _⟩ := sd
        exact ⟨p, e, a, b, c⟩
  exact ⟨fun env σ F' H' m1 R q => fin (s := .val .none) R Den.non (fun _ z => nomatch z) q, fun s env σ F' H' v m1 R sd ni q => fin R sd ni q, fun env σ F' H' m1 R q => q.elim, fun env σ F' H' m1 R q => q.elim⟩
/-- .. a text without constants of the module -/
theorem fn_ok {P : Program} {w : World} {K : Frag} {mg : Str → Option Value} {base : Heap} {k : Nat} {f : Addr} {x qual : Str} {st : Stmt} {fd : FuncData} {N ps : List Str} {L : List (String × List Bool)} {Φ : Tbl} {sig : List Bool} {body : S} {sp : Spec}
    (D : Fun K x qual st f fd) (Sc : FnScope N ps (defScope st)) (hps : ps.length = sig.length) (sys : ∃ m, base.Ns sysModules m) (blt : ∀ x ∈ bltNames, mg (Str.ofString x) = none)
    (fns : ∀ p ∈ L, ∃ a fd ps, mg (Str.ofString p.1) = some (.ref a) ∧ PySem.W.keepIn K (.ref a) = true ∧ Binds K fd ps [] ∧ FnG P w K mg base k a fd ps (spOf K p.2 (Φ p.1)))
    (hm : mSs L N (ioOf 0 sig) (defScope st) (fun _ => true) body (defBody st) = true) (hw : Impl Φ sig N.length body sp) (hL : ∀ p ∈ L, p.2.length < 100 := by decide) : FnG P w K mg base (k + 1) f fd ps (spOf K sig sp) :=
  fn_okC D Sc hps sys blt (fun p hp _ => fns p hp) (fun p hp h => absurd (hL p hp) (by omega)) hm hw
/-- a promise that nobody asks -/
theorem FnG.none {P : Program} {w : World} {K : Frag} {mg : Str → Option Value} {base : Heap} {k : Nat} {f : Addr} {fd : FuncData} {ps : List Str} {sig : List Bool} (h : ps.length = sig.length) : FnG P w K mg base k f fd ps (spOf K sig fun _ _ => False) :=
  ⟨fun vs H Q E q => q.1.trans h.symm, fun A outer s H args us vs Q hr hg he hb hv hs => by
    obtain ⟨_, F, ds, _, _, _, Qs, z, _⟩ := hs
    exact z.elim⟩
end Co

set_option linter.all false
/-! Co20: a law, from the promise of its def. -/
namespace Co
open PySem PySem.Spec PyProof.Rows L2

/-- a law's promise: at every script it answers True -/
def lawSp : Spec := fun ds Q => (∃ ns : List Int, ds = [.list (ns.map .int)] ∧ ns.length ≤ 63) ∧ ∀ news, Q (.val (.bool true)) news

open Classical in
/-- the heap that is told of at the start: the script, if it is no object of the module's -/
noncomputable def scriptH (K : Frag) (a : Addr) (vs : List Value) (ns : List Int) : Hp := fun b =>
  if b = a ∧ K.lookup a = none then some (.frz { cls := .type "list", data := .seq vs.toArray } (.lst (ns.map V.int))) else none
section
variable {K : Frag} {a b : Addr} {vs : List Value} {ns : List Int}
theorem scriptH_some {u : HO} (h : scriptH K a vs ns b = some u) : b = a ∧ K.lookup a = none ∧ u = .frz { cls := .type "list", data := .seq vs.toArray } (.lst (ns.map V.int)) := by
  unfold scriptH at h
  split at h
  · rename_i c
    cases h
    exact ⟨c.1, c.2, rfl⟩
  · cases h
theorem scriptH_out (h : ¬ (b = a ∧ K.lookup a = none)) : scriptH K a vs ns b = none := if_neg h
theorem scriptH_in (h : K.lookup a = none) : scriptH K a vs ns a = some (.frz { cls := .type "list", data := .seq vs.toArray } (.lst (ns.map V.int))) := if_pos ⟨rfl, h⟩
end
theorem law_callG {P : Program} {w : World} {K : Frag} {mg mb : Str → Option Value} {k : Nat} {fa a : Addr} {fd : FuncData} {x : Str} {s₁ : Shared} {vs : List Value} {ns : List Int}
    (kin : K.In s₁.heap) (sy : ∃ m, s₁.heap.Ns sysModules m) (gns : s₁.heap.Ns mainGlobals mg) (bns : s₁.heap.Ns builtinsNs mb) (boot : ∀ x : Str, x ≠ "__name__" → mb x = bootBuiltins x) (nolim : s₁.heap.NoLimit) (nogen : s₁.gens = #[])
    (obj : s₁.heap.get? a = some { cls := .type "list", data := .seq vs.toArray }) (hints : IntsAre vs ns) (len : ns.length ≤ 63) (room : Room k callerA)
    (G : ∀ base : Heap, K.In base → base.Ns mainGlobals mg → (∃ m, base.Ns sysModules m) → FnG P w K mg base k fa fd [x] (spOf K [false] lawSp)) (binds : ∀ (s : Shared) (u : Value), BindsTo s fd ⟨[u], []⟩ [(x, u)]) :
    codeAny (model P w) callerA (.call (.ref fa) ⟨[.ref a], []⟩) (fun r s' => r = .ok (.ret (.bool true)) ∧ OldK s₁.heap s'.heap ∧ s'.os = s₁.os ∧ AllBare s'.gens) s₁ := by
  let H := scriptH K a vs ns
  have rv : Vals (ns.map V.int) vs := vals_ints hints
  have hlen : vs.length = ns.length := hints.length
  have small : ns.length ≤ sizeLine := by rw [sizeLine_eq]; omega
  -- what is hidden from the base is the script alone
  have seen : ∀ {b : Addr} {o : Obj}, s₁.heap.get? b = some o → H b = none → (hidT s₁.heap H).get? b = some o := fun e n => hidT_get e n
  have noDict : ∀ {b : Addr} {o : Obj} {es : Array DictEntry} {ep : Nat}, s₁.heap.get? b = some o → o.data = .dict es ep → H b = none := fun {b o es ep} e d => by
    refine scriptH_out fun ⟨z, _⟩ => ?_
    rw [z, obj] at e
    cases e
    cases d
  have nsOf : ∀ {b : Addr} {m : Str → Option Value}, s₁.heap.Ns b m → (hidT s₁.heap H).Ns b m := fun ⟨o, es, ep, e, d, r⟩ => ⟨o, es, ep, seen e (noDict e d), d, r⟩
  have kinB : K.In (hidT s₁.heap H) := fun b o e => seen (kin b o e) (scriptH_out fun ⟨z, z2⟩ => by
    rw [z] at e
    exact absurd (z2.symm.trans e) (by simp))
  have md : Mod K mg (hidT s₁.heap H) := ⟨kinB, nsOf gns, ⟨mb, nsOf bns, boot⟩, by
    obtain ⟨mc, c1, c2⟩ := nolim
    exact ⟨mc, nsOf c1, c2⟩⟩
  have hok : HOk P w H s₁.heap := fun b u e => by
    obtain ⟨rfl, _, rfl⟩ := scriptH_some e
    exact ⟨obj, by rw [List.length_map]; exact small, vs, _, rv, obj⟩
  have e0 : Env0 P w K mg (hidT s₁.heap H) callerA [] s₁ H :=
    ⟨rfl, md, fun b o e => of_hidT e, Nat.le_of_eq (hidT_size _ _), trivial, fun b hb => absurd (show b ∈ ([] : List Addr) from hb) (by simp), hok, .of_eq nogen⟩
  have sq : SqL K H a (ns.map V.int) := by
    cases q : K.lookup a with
    | none => exact .inl (.inr ⟨_, scriptH_in q⟩)
    | some o =>
      have eo := kin a o q
      rw [obj] at eo
      cases eo
      exact .inr ⟨_, vs.toArray, _, q, rfl, rfl, rfl, by rw [List.size_toArray, hlen]; exact small, by simpa using rv⟩
  have promise : spOf K [false] lawSp [.ref a] H (fun v _ => v = .bl true) E0 :=
    ⟨rfl, H, [.list (ns.map .int)], Same.refl H, ⟨.lst sq (DenAll.of_ints ns), trivial⟩, List.nodup_nil, fun res news => res = .val (.bool true), ⟨⟨ns, rfl, len⟩, fun _ => rfl⟩, fun res news e v H' F' _ _ _ _ _ rd => by
      subst e
      cases (show Den K F' v (.bool true) from rd)
      rfl⟩
  refine codeAny_mono ((G _ kinB (nsOf gns) (let ⟨m, e⟩ := sy; ⟨m, nsOf e⟩)).run callerA [] s₁ H ⟨[.ref a], []⟩ [.ref a] [.ref a] _ room rfl e0 (binds s₁ (.ref a)) (.cons rfl .nil) promise) fun r s' h => ?_
  match r, h with
  | .ok (.ret u), ⟨v, H', os, bare, un, hok', rv', (ev : v = .bl true)⟩ =>
    subst ev
    cases (show u = Value.bool true from rv')
    refine ⟨rfl, OldK.of_keep fun b o e => ?_, os, bare⟩
    by_cases z : b = a ∧ K.lookup a = none
    · obtain ⟨rfl, z2⟩ := z
      obtain ⟨e1, _⟩ := hok b _ (scriptH_in z2)
      obtain ⟨e2, _⟩ := hok' b _ (un.frzs b _ _ (scriptH_in z2))
      rw [e] at e1
      cases e1
      exact e2
    · exact un.keep b o e (scriptH_out z) (fun z => absurd (show b ∈ ([] : List Addr) from z) (by simp)) (by simp)
  | .error _, h => exact False.elim h
  | .ok .next, h => exact False.elim h
  | .ok .brk, h => exact False.elim h
  | .ok .cont, h => exact False.elim h
/-- what the head leaves, from the promise of the law's def -/
theorem walkG {l : PySem.W.OpenLaw} {k : Nat} {q : Program} {loose : List Str} {XP : (Str → Option Value) → Heap → Prop} {YP : World → Heap → Prop} {d : DefRec} {K : Params → Frag} {x : Str}
    (hn : l.most = some 63) (him : importsNone q = true) (hdf : d.params.defaults = []) (room : Room k callerA) (hY : ∀ (w : World) (h : Heap), YP w h → (K w.params).In h)
    (F : ∀ (w : World) (mg : Str → Option Value) (fa : Addr) (h : Heap), (K w.params).In h → h.Ns mainGlobals mg → mg d.name = some (.ref fa) →
      ∃ fd : FuncData, (∀ (s : Shared) (u : Value), BindsTo s fd ⟨[u], []⟩ [(x, u)]) ∧
        ∀ base : Heap, (K w.params).In base → base.Ns mainGlobals mg → (∃ m, base.Ns sysModules m) → FnG l.prog w (K w.params) mg base k fa fd [x] (spOf (K w.params) [false] lawSp)) :
    PySem.W.WalkO q loose XP YP l.row.toRowW d [] (fun f vs => PySem.call f vs) :=
  Att.attach_call hn hdf fun w s₀ s₁ mg mb fa o pm cd doc a vs ns G Y ho hd hcd hmg hobj hints hlen hg => by
    have kin := hY w _ Y
    obtain ⟨fd, hb, hF⟩ := F w mg fa _ kin G.T.g hmg
    exact law_callG kin (let ⟨m, e, _⟩ := (G.T.seer him).mods; ⟨m, e⟩) G.T.g G.T.b G.T.builtins G.T.nolimit hg hobj hints hlen room hF hb
end Co

set_option linter.all false
/-! Co21: reckoning with the weakest preconditions. -/
namespace Co
open PySem

theorem for_inv {bind : PyData → Env → (Env → Prop) → Prop} {body : Env → Ends → Prop} {items : List PyData} {env : Env} {D : Ends} (I : Nat → Env → Prop) (h0 : I 0 env)
    (hs : ∀ i x env (N : Env → Prop), items[i]? = some x → I i env → (∀ e, I (i + 1) e → N e) → bind x env fun env1 => body env1 { nx := N, rt := D.rt, bk := D.nx, ct := N })
    (hd : ∀ env, I items.length env → D.nx env) : forGo bind body items env D := by
  suffices h : ∀ n i env, items.length = i + n → I i env → forGo bind body (items.drop i) env D by
    have := h items.length 0 env (by omega) h0
    rwa [List.drop_zero] at this
  intro n
  induction n with
  | zero =>
    intro i env hi hI
    have e : i = items.length := by omega
    subst e
    rw [List.drop_length]
    exact hd env hI
  | succ n ih =>
    intro i env hi hI
    have hl : i < items.length := by omega
    rw [List.drop_eq_getElem_cons hl]
    exact hs i _ env _ (List.getElem?_eq_getElem hl) hI fun e he => ih (i + 1) e (by omega) he
theorem lc_inv {bind : PyData → Env → (Env → Prop) → Prop} {conds : Env → (Bool → Env → Prop) → Prop} {elt : Env → (PyData → Env → Prop) → Prop} {own : List Nat} {items : List PyData} {env : Env} {K : List PyData → Env → Prop}
    (I : Nat → List PyData → Env → Prop) (h0 : I 0 [] env)
    (hs : ∀ i x acc env (N : List PyData → Env → Prop), items[i]? = some x → I i acc env → (∀ acc' e, I (i + 1) acc' e → N acc' e) → bind x (wipeE env own) fun env1 => conds env1 fun b env2 =>
      if b = true then elt env2 fun y env3 => N (acc ++ [y]) env3 else N acc env2)
    (hd : ∀ acc env, I items.length acc env → K acc (wipeE env own)) : lcGo bind conds elt own items [] env K := by
  suffices h : ∀ n i acc env, items.length = i + n → I i acc env → lcGo bind conds elt own (items.drop i) acc env K by
    have := h items.length 0 [] env (by omega) h0
    rwa [List.drop_zero] at this
  intro n
  induction n with
  | zero =>
    intro i acc env hi hI
    have e : i = items.length := by omega
    subst e
    rw [List.drop_length]
    exact hd acc env hI
  | succ n ih =>
    intro i acc env hi hI
    have hl : i < items.length := by omega
    rw [List.drop_eq_getElem_cons hl]
    exact hs i _ acc env (fun acc' e => lcGo bind conds elt own (items.drop (i + 1)) acc' e K) (List.getElem?_eq_getElem hl) hI fun acc' e he => ih (i + 1) acc' e (by omega) he
/-- a comprehension whose test and element do not touch the names: f tells each item's part -/
theorem lc_pure {bind : PyData → Env → (Env → Prop) → Prop} {conds : Env → (Bool → Env → Prop) → Prop} {elt : Env → (PyData → Env → Prop) → Prop} {own : List Nat} {items : List PyData} {env : Env} {K : List PyData → Env → Prop} (f : PyData → Option PyData)
    (hs : ∀ x acc (N : List PyData → Env → Prop), x ∈ items → (∀ e, wipeE e own = wipeE env own → (match f x with | some y => N (acc ++ [y]) e | none => N acc e)) → bind x (wipeE env own) fun env1 => conds env1 fun b env2 =>
      if b = true then elt env2 fun y env3 => N (acc ++ [y]) env3 else N acc env2)
    (hd : K (items.filterMap f) (wipeE env own)) : lcGo bind conds elt own items [] env K := by
  refine lc_inv (fun i acc e => acc = (items.take i).filterMap f ∧ wipeE e own = wipeE env own) ⟨by simp, rfl⟩ ?_ ?_
  · rintro i x acc e N hx ⟨ha, he⟩ k
    rw [he]
    have hm : x ∈ items := List.mem_of_getElem? hx
    refine hs x acc N hm fun e2 h2 => ?_
    have ht : items.take (i + 1) = items.take i ++ [x] := by
      rw [List.take_succ, hx]; rfl
    cases hf : f x with
    | none => exact k acc e2 ⟨by rw [ht, List.filterMap_append, ← ha]; simp [hf], h2⟩
    | some y => exact k (acc ++ [y]) e2 ⟨by rw [ht, List.filterMap_append, ← ha]; simp [hf], h2⟩
  · rintro acc e ⟨ha, he⟩
    rw [he, ha, List.take_length]
    exact hd
/-- .. every item gives one part -/
theorem lc_map {bind : PyData → Env → (Env → Prop) → Prop} {conds : Env → (Bool → Env → Prop) → Prop} {elt : Env → (PyData → Env → Prop) → Prop} {own : List Nat} {items : List PyData} {env : Env} {K : List PyData → Env → Prop} (f : PyData → PyData)
    (hs : ∀ x acc (N : List PyData → Env → Prop), x ∈ items → (∀ e, wipeE e own = wipeE env own → N (acc ++ [f x]) e) → bind x (wipeE env own) fun env1 => conds env1 fun b env2 =>
      if b = true then elt env2 fun y env3 => N (acc ++ [y]) env3 else N acc env2)
    (hd : K (items.map f) (wipeE env own)) : lcGo bind conds elt own items [] env K :=
  lc_pure (fun x => some (f x)) hs (by rw [List.filterMap_eq_map']; exact hd)

theorem brn_true {A B : Prop} {t : Kp A} {u : Kp B} : brn true A B t u = A := if_pos rfl
theorem brn_false {A B : Prop} {t : Kp A} {u : Kp B} : brn false A B t u = B := if_neg (by decide)
theorem brn_of {b : Bool} {A B : Prop} {t : Kp A} {u : Kp B} (h1 : b = true → A) (h2 : b = false → B) : brn b A B t u := by
  cases b
  · exact h2 rfl
  · exact h1 rfl
theorem atI_ok {α : Type} {l : List α} {i : Int} (h0 : 0 ≤ i) (h1 : i < l.length) : ∃ v, L2.atI l i = some v ∧ v ∈ l ∧ l[i.toNat]? = some v := by
  have hr : i.toNat < l.length := by omega
  refine ⟨l[i.toNat], ?_, List.getElem_mem hr, by simp [hr]⟩
  unfold L2.atI L2.ixN
  rw [if_pos h0, if_pos h1]
  simp [hr]
theorem stp_at {l : List PyData} {i : Int} {K : PyData → Prop} (h0 : 0 ≤ i) (h1 : i < l.length) (k : ∀ v, v ∈ l → l[i.toNat]? = some v → K v) : stp (idxD (.list l) (.int i)) K .mk := by
  obtain ⟨v, a, b, c⟩ := atI_ok h0 h1
  exact ⟨v, a, k v b c⟩
theorem stp_atT {l : List PyData} {i : Int} {K : PyData → Prop} (h0 : 0 ≤ i) (h1 : i < l.length) (k : ∀ v, v ∈ l → l[i.toNat]? = some v → K v) : stp (idxD (.tuple l) (.int i)) K .mk := by
  obtain ⟨v, a, b, c⟩ := atI_ok h0 h1
  exact ⟨v, a, k v b c⟩
/-- at a place that is told -/
theorem stp_n {l : List PyData} {n : Nat} {v : PyData} {K : PyData → Prop} (h : l[n]? = some v) (k : K v) : stp (idxD (.list l) (.int (n : Int))) K .mk := by
  have hn : n < l.length := (List.getElem?_eq_some_iff.mp h).1
  refine stp_at (by omega) (by omega) fun w _ hw => ?_
  rw [Int.toNat_natCast, h] at hw
  cases hw; exact k
theorem stp_nT {l : List PyData} {n : Nat} {v : PyData} {K : PyData → Prop} (h : l[n]? = some v) (k : K v) : stp (idxD (.tuple l) (.int (n : Int))) K .mk := by
  have hn : n < l.length := (List.getElem?_eq_some_iff.mp h).1
  refine stp_atT (by omega) (by omega) fun w _ hw => ?_
  rw [Int.toNat_natCast, h] at hw
  cases hw; exact k
theorem cut_map {α : Type} (f : α → PyData) (l : List α) (lo hi : Option Int) : cut (l.map f) lo hi = ((l.drop (HT.sIx l.length 0 lo)).take (HT.sIx l.length l.length hi - HT.sIx l.length 0 lo)).map f := by
  unfold cut
  rw [List.length_map, ← List.map_drop, ← List.map_take]
theorem pairs2_some {xs ys : List PyData} {i : Nat} {p : PyData} (h : (pairs2 xs ys)[i]? = some p) : ∃ x y, p = .tuple [x, y] ∧ xs[i]? = some x ∧ ys[i]? = some y := by
  unfold pairs2 at h
  rw [List.getElem?_map] at h
  cases q : (xs.zip ys)[i]? with
  | none => rw [q] at h; cases h
  | some z =>
    rw [q] at h
    cases h
    obtain ⟨a, b⟩ := (List.getElem?_zip_eq_some (z := z)).mp q
    exact ⟨z.1, z.2, rfl, a, b⟩
theorem range_some {lo : Int} {n i : Nat} {p : PyData} (h : (rangeL lo n)[i]? = some p) : p = .int (lo + (i : Int)) ∧ i < n := by
  have hi : i < n := by
    have := (List.getElem?_eq_some_iff.mp h).1
    rwa [rangeL_length] at this
  rw [rangeL_get hi] at h
  cases h
  exact ⟨rfl, hi⟩
theorem enum_some {xs : List PyData} {i : Nat} {p : PyData} (h : (enumL xs)[i]? = some p) : ∃ x, p = .tuple [.int (i : Int), x] ∧ xs[i]? = some x := by
  obtain ⟨a, x, e, h1, h2⟩ := pairs2_some h
  obtain ⟨rfl, _⟩ := range_some h1
  rw [Int.zero_add] at e
  exact ⟨x, e, h2⟩
theorem map_some {α : Type} {f : α → PyData} {l : List α} {i : Nat} {p : PyData} (h : (l.map f)[i]? = some p) : ∃ x, p = f x ∧ l[i]? = some x := by
  rw [List.getElem?_map] at h
  cases q : l[i]? with
  | none => rw [q] at h; cases h
  | some z => rw [q] at h; cases h; exact ⟨z, rfl, rfl⟩
theorem ix_ok {n : Nat} {i : Int} (h0 : 0 ≤ i) (h1 : i < n) : L2.ixN n i = some i.toNat := by
  unfold L2.ixN
  rw [if_pos h0, if_pos h1]
/-- what holds between two statements -/
theorem wps_seq {Φ : Tbl} {a b : S} {env : Env} {D : Ends} (I : Env → Prop) (h1 : ∀ N : Env → Prop, (∀ e, I e → N e) → wpS Φ a env { D with nx := N }) (h2 : ∀ e, I e → wpS Φ b e D) : wpS Φ (.seq a b) env D :=
  h1 (fun e => wpS Φ b e D) h2
theorem sh_int {i : Int} : SeqAt.shaped (.int i) = true := rfl
theorem sh_bool {i : Bool} : SeqAt.shaped (.bool i) = true := rfl
theorem sh_none : SeqAt.shaped .none = true := rfl
theorem eqv_ii {a b : Int} : PyData.eqv (.int a) (.int b) = decide (a = b) := by simp only [PyData.eqv]; exact Bool.beq_eq_decide_eq _ _
theorem eqv_bb {a b : Bool} : PyData.eqv (.bool a) (.bool b) = decide (a = b) := by simp only [PyData.eqv]; cases a <;> cases b <;> rfl
theorem eqv_ss {a b : Str} : PyData.eqv (.str a) (.str b) = decide (a = b) := by simp only [PyData.eqv]; exact Bool.beq_eq_decide_eq _ _
theorem canLayAll_of : ∀ {l : List PyData}, (∀ x ∈ l, x.canLay0 = true) → PyData.canLayAll0 l = true
  | [], _ => by simp [PyData.canLayAll0]
  | x :: l, h => by
    simp only [PyData.canLayAll0, Bool.and_eq_true]
    exact ⟨h x List.mem_cons_self, canLayAll_of fun y hy => h y (List.mem_cons_of_mem _ hy)⟩
theorem depthAll_of {k : Nat} : ∀ {l : List PyData}, (∀ x ∈ l, x.depth ≤ k) → PyData.depthAll l ≤ k
  | [], _ => by simp [PyData.depthAll]
  | x :: l, h => by
    simp only [PyData.depthAll]
    have h1 := h x List.mem_cons_self
    have h2 := depthAll_of (k := k) (l := l) fun y hy => h y (List.mem_cons_of_mem _ hy)
    omega
/-- data that may be compared: of depth at most k -/
def ok (k : Nat) (d : PyData) : Prop := d.canLay0 = true ∧ d.depth ≤ k
theorem ok_list {k : Nat} {l : List PyData} (h : ∀ x ∈ l, ok k x) : ok (k + 1) (.list l) :=
  ⟨by rw [PyData.canLay0]; exact canLayAll_of fun x hx => (h x hx).1, by have := depthAll_of fun x hx => (h x hx).2; rw [PyData.depth]; omega⟩
theorem ok_tuple {k : Nat} {l : List PyData} (h : ∀ x ∈ l, ok k x) : ok (k + 1) (.tuple l) :=
  ⟨by rw [PyData.canLay0]; exact canLayAll_of fun x hx => (h x hx).1, by have := depthAll_of fun x hx => (h x hx).2; rw [PyData.depth]; omega⟩
theorem ok_int {k : Nat} {i : Int} : ok k (.int i) := ⟨rfl, Nat.zero_le _⟩
theorem ok_bool {k : Nat} {i : Bool} : ok k (.bool i) := ⟨rfl, Nat.zero_le _⟩
theorem ok.sh {k : Nat} {d : PyData} (h : ok k d) (hk : k ≤ 64) : SeqAt.shaped d = true := by
  unfold SeqAt.shaped
  rw [h.1, Bool.true_and, decide_eq_true_eq]
  exact Nat.le_trans h.2 hk
theorem ix_last {n : Nat} (h : 0 < n) : L2.ixN n (-1) = some (n - 1) := by
  unfold L2.ixN
  rw [if_neg (by decide), if_pos (by omega)]
  congr 1
  omega
theorem mem_t {x : PyData} {l : List PyData} {K : Bool → Prop} (hx : SeqAt.shaped x = true) (hl : SeqAt.shaped (.tuple l) = true) (h1 : (l.any fun z => PyData.eqv z x) = true → K true) (h2 : (l.any fun z => PyData.eqv z x) = false → K false) : memD x (.tuple l) K := by
  refine ⟨hx, hl, ?_⟩
  cases h : (l.any fun z => PyData.eqv z x)
  · exact h2 h
  · exact h1 h
theorem mem_l {x : PyData} {l : List PyData} {K : Bool → Prop} (hx : SeqAt.shaped x = true) (hl : SeqAt.shaped (.list l) = true) (h1 : (l.any fun z => PyData.eqv z x) = true → K true) (h2 : (l.any fun z => PyData.eqv z x) = false → K false) : memD x (.list l) K := by
  refine ⟨hx, hl, ?_⟩
  cases h : (l.any fun z => PyData.eqv z x)
  · exact h2 h
  · exact h1 h
/-! ### data that may be told: ints below 10^12, none, bools, tuples and lists of such; m bounds the weight, k the depth -/
structure Tame (m k : Nat) (d : PyData) : Prop where
  lv : d.leavesShort 13 = true
  sh : d.showable = true
  wt : d.weight ≤ m
  dp : d.depth ≤ k
theorem log2_small {n : Nat} (h : n < 10 ^ 12) : n.log2 ≤ 40 := by
  by_cases h0 : n = 0
  · subst h0; decide
  · have := (Nat.log2_lt h0 (k := 41)).mpr (Nat.lt_trans h (by decide))
    omega
theorem tame_int {m k : Nat} {i : Int} (h : i.natAbs < 10 ^ 12) (hm : 41 ≤ m) : Tame m k (.int i) := by
  have hl := log2_small h
  refine ⟨?_, ?_, ?_, Nat.zero_le _⟩
  · simp only [PyData.leavesShort, decide_eq_true_eq]; exact PyData.shown_int_le h
  · simp only [PyData.showable, decide_eq_true_eq]; omega
  · simp only [PyData.weight]
    split <;> omega
theorem tame_all {m k : Nat} : ∀ {l : List PyData}, (∀ x ∈ l, Tame m k x) → PyData.leavesShortAll 13 l = true ∧ PyData.showableAll l = true ∧ PyData.weightAll l ≤ (m + 1) * l.length
  | [], _ => ⟨rfl, rfl, by simp [PyData.weightAll]⟩
  | x :: l, h => by
    obtain ⟨a, b, c⟩ := tame_all (l := l) fun y hy => h y (List.mem_cons_of_mem _ hy)
    have hx := h x List.mem_cons_self
    refine ⟨?_, ?_, ?_⟩
    · simp only [PyData.leavesShortAll, hx.lv, a, Bool.and_self]
    · simp only [PyData.showableAll, hx.sh, b, Bool.and_self]
    · have hw := hx.wt
      simp only [PyData.weightAll, List.length_cons, Nat.mul_succ]
      omega
theorem tame_tuple {m k c w : Nat} {l : List PyData} (h : ∀ x ∈ l, Tame m k x) (hl : l.length ≤ c) (hw : (m + 1) * c ≤ w) : Tame w (k + 1) (.tuple l) := by
  obtain ⟨a, b, e⟩ := tame_all h
  have h2 := Nat.mul_le_mul_left (m + 1) hl
  refine ⟨by simpa only [PyData.leavesShort] using a, by simpa only [PyData.showable] using b, by simp only [PyData.weight]; omega, ?_⟩
  have := depthAll_of fun x hx => (h x hx).dp
  rw [PyData.depth]; omega
theorem tame_list {m k c w : Nat} {l : List PyData} (h : ∀ x ∈ l, Tame m k x) (hl : l.length ≤ c) (hw : (m + 1) * c ≤ w) : Tame w (k + 1) (.list l) := by
  obtain ⟨a, b, e⟩ := tame_all h
  have h2 := Nat.mul_le_mul_left (m + 1) hl
  refine ⟨by simpa only [PyData.leavesShort] using a, by simpa only [PyData.showable] using b, by simp only [PyData.weight]; omega, ?_⟩
  have := depthAll_of fun x hx => (h x hx).dp
  rw [PyData.depth]; omega
theorem Tame.fits {m k : Nat} {d : PyData} (h : Tame m k d) (hm : m ≤ 2 ^ 20) (hk : k ≤ 64) : fits d :=
  ⟨h.sh, Nat.le_trans h.dp hk, le_line (PyData.shown_fits (by decide) (by decide) h.lv (Nat.le_trans h.wt hm))⟩

end Co

set_option linter.all false
/-! Co25: data of any kind that are small. -/
namespace Co
open PySem
def B12 : Nat := 10 ^ 12
def B30 : Nat := 10 ^ 30
theorem shown_int40 {i : Int} (h : i.natAbs < 10 ^ 38) : (PyData.shown (.int i)).length ≤ 40 := by
  have e := int_text_length_le10 (k := 38) (by decide) h
  show (Str.ofString (toString i)).length ≤ 40
  rw [ofString_length]; omega
mutual
/-- leaves below B, lists and tuples of at most c, k deep; no dict but the empty one -/
def gd (B c : Nat) : Nat → PyData → Bool
  | _, .none => true
  | _, .int i => decide (i.natAbs < B)
  | _, .bool _ => true
  | _, .str x => decide (x = Str.ofString "" ∨ x = Str.ofString "a")
  | _, .dict [] => true
  | k + 1, .tuple l => decide (l.length ≤ c) && gds B c k l
  | k + 1, .list l => decide (l.length ≤ c) && gds B c k l
  | _, _ => false
def gds (B c : Nat) : Nat → List PyData → Bool
  | _, [] => true
  | k, x :: l => gd B c k x && gds B c k l
end
theorem gds_iff {B c k : Nat} : ∀ {l : List PyData}, gds B c k l = true ↔ ∀ x ∈ l, gd B c k x = true
  | [] => by simp [gds]
  | x :: l => by simp [gds, gds_iff (l := l)]
theorem gd_tuple {B c k : Nat} {l : List PyData} : gd B c (k + 1) (.tuple l) = true ↔ l.length ≤ c ∧ ∀ x ∈ l, gd B c k x = true := by
  rw [gd, Bool.and_eq_true, decide_eq_true_eq, gds_iff]
theorem gd_list {B c k : Nat} {l : List PyData} : gd B c (k + 1) (.list l) = true ↔ l.length ≤ c ∧ ∀ x ∈ l, gd B c k x = true := by
  rw [gd, Bool.and_eq_true, decide_eq_true_eq, gds_iff]
theorem gd_int {B c k : Nat} {i : Int} : gd B c k (.int i) = true ↔ i.natAbs < B := by cases k <;> simp [gd]
theorem gd_bool {B c k : Nat} {b : Bool} : gd B c k (.bool b) = true := by cases k <;> simp [gd]
theorem gd_none {B c k : Nat} : gd B c k .none = true := by cases k <;> simp [gd]
theorem gd_dict0 {B c k : Nat} : gd B c k (.dict []) = true := by cases k <;> simp [gd]
theorem gd_e {B c k : Nat} : gd B c k (.str (Str.ofString "")) = true := by cases k <;> simp [gd]
theorem gd_a {B c k : Nat} : gd B c k (.str (Str.ofString "a")) = true := by cases k <;> simp [gd]
mutual
theorem gd_mono {B c B' c' : Nat} (hB : B ≤ B') (hc : c ≤ c') : ∀ {k k' : Nat} {d : PyData}, k ≤ k' → gd B c k d = true → gd B' c' k' d = true
  | k, k', .none, _, _ => gd_none
  | k, k', .bool _, _, _ => gd_bool
  | k, k', .int i, _, h => by rw [gd_int] at h ⊢; omega
  | k, k', .str x, _, h => by
    have : x = Str.ofString "" ∨ x = Str.ofString "a" := by cases k <;> simpa [gd] using h
    rcases this with rfl | rfl
    · exact gd_e
    · exact gd_a
  | k, k', .dict [], _, _ => gd_dict0
  | k, k', .dict (_ :: _), _, h => by cases k <;> simp [gd] at h
  | 0, k', .tuple l, _, h => by simp [gd] at h
  | 0, k', .list l, _, h => by simp [gd] at h
  | k + 1, 0, .tuple l, q, h => by omega
  | k + 1, 0, .list l, q, h => by omega
  | k + 1, k' + 1, .tuple l, q, h => by
    rw [gd, Bool.and_eq_true, decide_eq_true_eq] at h ⊢
    exact ⟨by omega, gds_mono hB hc (by omega) h.2⟩
  | k + 1, k' + 1, .list l, q, h => by
    rw [gd, Bool.and_eq_true, decide_eq_true_eq] at h ⊢
    exact ⟨by omega, gds_mono hB hc (by omega) h.2⟩
theorem gds_mono {B c B' c' : Nat} (hB : B ≤ B') (hc : c ≤ c') : ∀ {k k' : Nat} {l : List PyData}, k ≤ k' → gds B c k l = true → gds B' c' k' l = true
  | k, k', [], _, _ => by simp [gds]
  | k, k', x :: l, q, h => by
    rw [gds, Bool.and_eq_true] at h ⊢
    exact ⟨gd_mono hB hc q h.1, gds_mono hB hc q h.2⟩
end
/-- what may be told -/
structure Tm (m k : Nat) (d : PyData) : Prop where
  lv : d.leavesShort 40 = true
  sh : d.showable = true
  bk : d.bulk ≤ m
  dp : d.depth ≤ k
theorem Tm.fits {m k : Nat} {d : PyData} (h : Tm m k d) (hm : m ≤ 100000) (hk : k ≤ 64) : fits d := by
  refine ⟨h.sh, Nat.le_trans h.dp hk, ?_⟩
  have := PyData.shown_le_bulk 40 (by decide) d h.lv
  have := h.bk
  show _ ≤ 16777216
  omega
theorem leaves_all {l : List PyData} (h : ∀ x ∈ l, PyData.leavesShort 40 x = true) : PyData.leavesShortAll 40 l = true := by
  induction l with
  | nil => rfl
  | cons x l ih =>
    simp only [PyData.leavesShortAll, Bool.and_eq_true]
    exact ⟨h x List.mem_cons_self, ih fun y hy => h y (List.mem_cons_of_mem _ hy)⟩
theorem show_all {l : List PyData} (h : ∀ x ∈ l, PyData.showable x = true) : PyData.showableAll l = true := by
  induction l with
  | nil => rfl
  | cons x l ih =>
    simp only [PyData.showableAll, Bool.and_eq_true]
    exact ⟨h x List.mem_cons_self, ih fun y hy => h y (List.mem_cons_of_mem _ hy)⟩
theorem tm_int {m k : Nat} {i : Int} (h : i.natAbs < 10 ^ 38) : Tm m k (.int i) := by
  refine ⟨?_, ?_, Nat.zero_le _, Nat.zero_le _⟩
  · simp only [PyData.leavesShort, decide_eq_true_eq]; exact shown_int40 h
  · simp only [PyData.showable, decide_eq_true_eq]
    by_cases h0 : i.natAbs = 0
    · rw [h0]; decide
    · have := (Nat.log2_lt h0 (k := 130)).mpr (Nat.lt_trans h (by decide))
      omega
theorem gd_tm {B c : Nat} (hB : B ≤ 10 ^ 38) : ∀ {k : Nat} {d : PyData}, gd B c k d = true → Tm d.bulk (k + 1) d
  | k, .none, _ => ⟨rfl, rfl, Nat.le_refl _, Nat.zero_le _⟩
  | k, .bool _, _ => ⟨rfl, rfl, Nat.le_refl _, Nat.zero_le _⟩
  | k, .int i, h => tm_int (by rw [gd_int] at h; omega)
  | k, .str x, h => by
    have : x = Str.ofString "" ∨ x = Str.ofString "a" := by cases k <;> simpa [gd] using h
    rcases this with rfl | rfl
    · exact ⟨by decide +kernel, rfl, Nat.le_refl _, Nat.zero_le _⟩
    · exact ⟨by decide +kernel, rfl, Nat.le_refl _, Nat.zero_le _⟩
  | k, .dict [], _ => ⟨rfl, rfl, Nat.le_refl _, by rw [PyData.depth, PyData.depthKv]; omega⟩
  | k, .dict (_ :: _), h => by cases k <;> simp [gd] at h
  | 0, .tuple l, h => by simp [gd] at h
  | 0, .list l, h => by simp [gd] at h
  | k + 1, .tuple l, h => by
    rw [gd_tuple] at h
    have := fun x hx => gd_tm hB (h.2 x hx)
    refine ⟨?_, ?_, Nat.le_refl _, ?_⟩
    · rw [PyData.leavesShort]; exact leaves_all fun x hx => (this x hx).lv
    · rw [PyData.showable]; exact show_all fun x hx => (this x hx).sh
    · have := depthAll_of fun x hx => (this x hx).dp
      rw [PyData.depth]; omega
  | k + 1, .list l, h => by
    rw [gd_list] at h
    have := fun x hx => gd_tm hB (h.2 x hx)
    refine ⟨?_, ?_, Nat.le_refl _, ?_⟩
    · rw [PyData.leavesShort]; exact leaves_all fun x hx => (this x hx).lv
    · rw [PyData.showable]; exact show_all fun x hx => (this x hx).sh
    · have := depthAll_of fun x hx => (this x hx).dp
      rw [PyData.depth]; omega
/-! ### bulk -/
theorem bulk_app (a b : List PyData) : PyData.bulkAll (a ++ b) = PyData.bulkAll a + PyData.bulkAll b := by
  induction a with
  | nil => simp [PyData.bulkAll]
  | cons x a ih => simp only [List.cons_append, PyData.bulkAll, ih]; omega
theorem bulk_rev (a : List PyData) : PyData.bulkAll a.reverse = PyData.bulkAll a := by
  induction a with
  | nil => rfl
  | cons x a ih => rw [List.reverse_cons, bulk_app, ih]; simp only [PyData.bulkAll]; omega
theorem bulk_set : ∀ (l : List PyData) (i : Nat) (x y : PyData), l[i]? = some y → PyData.bulkAll (l.set i x) + y.bulk = PyData.bulkAll l + x.bulk
  | [], i, x, y, h => by simp at h
  | z :: l, 0, x, y, h => by
    simp at h; subst h
    simp only [List.set_cons_zero, PyData.bulkAll]; omega
  | z :: l, i + 1, x, y, h => by
    have := bulk_set l i x y (by simpa using h)
    simp only [List.set_cons_succ, PyData.bulkAll]; omega
theorem bulk_split (l : List PyData) (n : Nat) : PyData.bulkAll (l.take n) + PyData.bulkAll (l.drop n) = PyData.bulkAll l := by
  rw [← bulk_app, List.take_append_drop]
theorem bulk_take (l : List PyData) (n : Nat) : PyData.bulkAll (l.take n) ≤ PyData.bulkAll l := by have := bulk_split l n; omega
theorem bulk_drop (l : List PyData) (n : Nat) : PyData.bulkAll (l.drop n) ≤ PyData.bulkAll l := by have := bulk_split l n; omega
theorem bulk_cut (l : List PyData) (lo hi : Option Int) : PyData.bulkAll (cut l lo hi) ≤ PyData.bulkAll l := by
  unfold cut
  exact Nat.le_trans (bulk_take _ _) (bulk_drop _ _)
theorem bulk_len (l : List PyData) : l.length ≤ PyData.bulkAll l := by
  induction l with
  | nil => simp
  | cons x l ih => simp only [List.length_cons, PyData.bulkAll]; omega
theorem cut_len (l : List PyData) (lo hi : Option Int) : (cut l lo hi).length ≤ l.length := by
  unfold cut
  rw [List.length_take, List.length_drop]; omega
theorem cut_mem {l : List PyData} {lo hi : Option Int} {x : PyData} (h : x ∈ cut l lo hi) : x ∈ l := by
  unfold cut at h
  exact List.mem_of_mem_drop (List.mem_of_mem_take h)
theorem bulk_ge {l : List PyData} {x : PyData} (h : x ∈ l) : x.bulk + 1 ≤ PyData.bulkAll l := by
  induction l with
  | nil => simp at h
  | cons y l ih =>
    simp only [PyData.bulkAll]
    rcases List.mem_cons.mp h with rfl | h
    · omega
    · have := ih h; omega
theorem bulk_le {m : Nat} : ∀ {l : List PyData}, (∀ x ∈ l, x.bulk ≤ m) → PyData.bulkAll l ≤ (m + 1) * l.length
  | [], _ => by simp [PyData.bulkAll]
  | x :: l, h => by
    have h1 := h x List.mem_cons_self
    have h2 := bulk_le (l := l) fun y hy => h y (List.mem_cons_of_mem _ hy)
    simp only [PyData.bulkAll, List.length_cons, Nat.mul_succ]; omega
theorem sIx_in {n d : Nat} {i : Int} (h0 : 0 ≤ i) (h1 : i ≤ n) : HT.sIx n d (some i) = i.toNat := by
  show (if i < 0 then (i + (n : Int)).toNat else min i.toNat n) = i.toNat
  rw [if_neg (by omega)]; omega
theorem sIx_no {n d : Nat} : HT.sIx n d none = d := rfl
theorem cut_take {l : List PyData} {i : Int} (h0 : 0 ≤ i) (h1 : i ≤ l.length) : cut l none (some i) = l.take i.toNat := by
  unfold cut
  rw [sIx_in h0 h1, sIx_no]; simp
theorem cut_drop {l : List PyData} {i : Int} (h0 : 0 ≤ i) (h1 : i ≤ l.length) : cut l (some i) none = l.drop i.toNat := by
  unfold cut
  rw [sIx_in h0 h1, sIx_no]
  exact List.take_of_length_le (by rw [List.length_drop]; omega)
theorem cut_one {l : List PyData} {i : Int} (h0 : 0 ≤ i) (h1 : i < l.length) : cut l (some i) (some (i + 1)) = (l.drop i.toNat).take 1 := by
  unfold cut
  rw [sIx_in h0 (by omega), sIx_in (by omega) (by omega)]
  congr 1; omega
end Co

namespace Co
open PySem PySem.Spec PyProof.Rows L2
def f_law_open_b1 : S := (.seq (.put 1 (.bin .mod (.b1 .int (.var 2)) (.cst (.int 12))) (.bin .add (.idx (.var 1) (.bin .mod (.b1 .int (.var 2)) (.cst (.int 12)))) (.var 3)))
    .skip)
def f_law_open : S := (.seq (.asg 1 (.b1 .list (.shi (.var 0) (.cst (.int 12)))))
    (.seq (.for (.tp [2, 3]) (.enum (.slh (.var 0) (.cst (.int 12)) (.cst (.int 63)))) f_law_open_b1)
    (.seq (.ret (.lst (.cons (.var 1) (.cons (.cst (.int 0)) (.cons (.cst (.int 0)) .nil)))))
    .skip)))
def N_law_open : List Str := [Str.ofString "script", Str.ofString "cells", Str.ofString "k", Str.ofString "cell"]
def L_law_open : List (String × List Bool) := []
def f_law_spread : S := (.seq (.ifs (.cmp .ge (.var 0) (.bin .pow (.cst (.int 10)) (.cst (.int 18))))
    (.seq (.ret (.var 0))
    .skip)
    .skip)
    (.seq (.asg 2 (.lst (.cons (.cst (.int 2147483629)) (.cons (.cst (.int 2147483587)) (.cons (.cst (.int 2147483579)) (.cons (.cst (.int 2147483563)) (.cons (.cst (.int 2147483549)) (.cons (.cst (.int 2147483543)) (.cons (.cst (.int 2147483497)) (.cons (.cst (.int 2147483489)) .nil))))))))))
    (.seq (.asg 2 (.bin .add (.var 2) (.lst (.cons (.cst (.int 2147483477)) (.cons (.cst (.int 2147483423)) (.cons (.cst (.int 2147483399)) (.cons (.cst (.int 2147483353)) (.cons (.cst (.int 2147483323)) .nil))))))))
    (.seq (.asg 3 (.bin .add (.bin .add (.bin .mul (.bin .mod (.b1 .int (.var 0)) (.cst (.int 1000000007))) (.bin .add (.bin .mul (.cst (.int 2)) (.var 1)) (.cst (.int 69069)))) (.bin .mul (.var 1) (.cst (.int 40503)))) (.cst (.int 977))))
    (.seq (.asg 3 (.bin .mod (.b1 .int (.bin .pow (.var 3) (.cst (.int 3)))) (.idx (.var 2) (.bin .mod (.b1 .int (.var 1)) (.cst (.int 13))))))
    (.seq (.asg 4 (.bin .mod (.b1 .int (.bin .pow (.bin .add (.bin .add (.bin .mul (.var 3) (.bin .add (.var 1) (.cst (.int 3)))) (.bin .mod (.b1 .int (.var 0)) (.cst (.int 65537)))) (.cst (.int 5))) (.cst (.int 5)))) (.idx (.var 2) (.bin .mod (.b1 .int (.bin .add (.var 1) (.cst (.int 5)))) (.cst (.int 13))))))
    (.seq (.asg 5 (.bin .mod (.b1 .int (.bin .pow (.bin .add (.bin .add (.var 4) (.bin .mod (.b1 .int (.var 3)) (.cst (.int 1009)))) (.var 1)) (.cst (.int 3)))) (.idx (.var 2) (.bin .mod (.b1 .int (.bin .add (.var 1) (.cst (.int 7)))) (.cst (.int 13))))))
    (.seq (.ret (.bin .add (.bin .mul (.bin .add (.bin .mul (.var 3) (.cst (.int 2147483647))) (.var 4)) (.cst (.int 2147483647))) (.var 5)))
    .skip))))))))
def N_law_spread : List Str := [Str.ofString "cell", Str.ofString "at", Str.ofString "primes", Str.ofString "one", Str.ofString "two", Str.ofString "three"]
def L_law_spread : List (String × List Bool) := []
def f_law_take : S := (.seq (.ifs (.cmp .lt (.idx (.var 0) (.cst (.int 2))) (.var 1))
    (.seq (.asg 3 (.idx (.var 0) (.cst (.int 1))))
    (.seq (.asg 4 (.cst (.int 0)))
    (.seq (.ifs (.cmp .lt (.var 3) (.b1 .len (.idx (.var 0) (.cst (.int 0)))))
    (.seq (.asg 4 (.idx (.idx (.var 0) (.cst (.int 0))) (.var 3)))
    .skip)
    (.seq (.ifs (.cmp .gt (.b1 .len (.idx (.var 0) (.cst (.int 0)))) (.cst (.int 0)))
    (.seq (.asg 4 (.bin .mod (.b1 .int (.idx (.idx (.var 0) (.cst (.int 0))) (.bin .mod (.b1 .int (.bin .add (.bin .mul (.var 3) (.cst (.int 5))) (.cst (.int 3)))) (.b1 .len (.idx (.var 0) (.cst (.int 0))))))) (.bin .add (.bin .pow (.cst (.int 10)) (.cst (.int 17))) (.var 3))))
    .skip)
    .skip)
    .skip))
    (.seq (.put 0 (.cst (.int 1)) (.bin .add (.var 3) (.cst (.int 1))))
    (.seq (.put 0 (.cst (.int 2)) (.call "_law_spread" [false, false] (.cons (.var 4) (.cons (.var 3) .nil))))
    .skip)))))
    .skip)
    (.seq (.asg 2 (.bin .mod (.b1 .int (.idx (.var 0) (.cst (.int 2)))) (.var 1)))
    (.seq (.put 0 (.cst (.int 2)) (.bin .fdiv (.idx (.var 0) (.cst (.int 2))) (.var 1)))
    (.seq (.ret (.var 2))
    .skip))))
def N_law_take : List Str := [Str.ofString "pen", Str.ofString "amount", Str.ofString "found", Str.ofString "at", Str.ofString "cell"]
def L_law_take : List (String × List Bool) := [("_law_spread", [false, false])]
def f_law_draw_house_c1 : Es := (.cons (.or (.cmp .gt (.call "_law_take" [true, false] (.cons (.var 0) (.cons (.var 3) .nil))) (.cst (.int 0))) (.cmp .eq (.call "_law_take" [true, false] (.cons (.var 0) (.cons (.cst (.int 3)) .nil))) (.cst (.int 0)))) .nil)
def f_law_draw_house_e1 : E := (.var 7)
def f_law_draw_house_b1 : S := (.seq (.expr (.append 6 (.b1 .tuple (.lc [7] (.nm 7) (.range1 (.var 5)) f_law_draw_house_c1 f_law_draw_house_e1))))
    .skip)
def f_law_draw_house : S := (.seq (.par [5, 6] (.cons (.bin .add (.cst (.int 1)) (.call "_law_take" [true, false] (.cons (.var 0) (.cons (.var 1) .nil)))) (.cons (.lst .nil) .nil)))
    (.seq (.for (.nm 4) (.range1 (.call "_law_take" [true, false] (.cons (.var 0) (.cons (.bin .add (.var 2) (.cst (.int 1))) .nil)))) f_law_draw_house_b1)
    (.seq (.ifs (.and (.cmp .gt (.b1 .len (.var 6)) (.cst (.int 1))) (.cmp .eq (.call "_law_take" [true, false] (.cons (.var 0) (.cons (.cst (.int 4)) .nil))) (.cst (.int 0))))
    (.seq (.put 6 (.neg (.cst (.int 1))) (.shi (.idx (.var 6) (.cst (.int 0))) (.cst (.int 2))))
    .skip)
    .skip)
    (.seq (.ret (.tup (.cons (.var 5) (.cons (.b1 .tuple (.var 6)) .nil))))
    .skip))))
def N_law_draw_house : List Str := [Str.ofString "pen", Str.ofString "people", Str.ofString "posts", Str.ofString "rare", Str.ofString "post", Str.ofString "n", Str.ofString "found", Str.ofString "x"]
def L_law_draw_house : List (String × List Bool) := [("_law_take", [true, false])]
def f_law_one_of : S := (.seq (.ret (.idx (.var 1) (.call "_law_take" [true, false] (.cons (.var 0) (.cons (.b1 .len (.var 1)) .nil)))))
    .skip)
def N_law_one_of : List Str := [Str.ofString "pen", Str.ofString "some"]
def L_law_one_of : List (String × List Bool) := [("_law_take", [true, false])]
def f_law_odd : S := (.seq (.ret (.call "_law_one_of" [true, false] (.cons (.var 0) (.cons (.lst (.cons (.cst .none) (.cons (.cst (.bool true)) (.cons (.cst (.bool false)) (.cons (.cst (.int 0)) (.cons (.cst (.int 1)) (.cons (.neg (.cst (.int 1))) (.cons (.cst (.str (Str.ofString ""))) (.cons (.cst (.str (Str.ofString "a"))) (.cons (.tup .nil) (.cons (.lst .nil) (.cons (.dct .nil) (.cons (.tup (.cons (.cst (.int 0)) .nil)) (.cons (.tup (.cons (.cst (.int 0)) (.cons (.cst (.int 0)) .nil))) (.cons (.lst (.cons (.tup .nil) .nil)) (.cons (.tup (.cons (.tup .nil) .nil)) (.cons (.cst (.int 99)) (.cons (.bin .pow (.cst (.int 10)) (.cst (.int 20))) .nil)))))))))))))))))) .nil))))
    .skip)
def N_law_odd : List Str := [Str.ofString "pen"]
def L_law_odd : List (String × List Bool) := [("_law_one_of", [true, false])]
def f_law_bent : S := (.seq (.ifs (.and (.isi (.var 1) [.int]) (.cmp .gt (.call "_law_take" [true, false] (.cons (.var 0) (.cons (.cst (.int 4)) .nil))) (.cst (.int 0))))
    (.seq (.ret (.call "_law_one_of" [true, false] (.cons (.var 0) (.cons (.lst (.cons (.bin .add (.var 1) (.cst (.int 1))) (.cons (.bin .sub (.var 1) (.cst (.int 1))) (.cons (.ite (.chain .le .lt (.cst (.int 0)) (.var 1) (.cst (.int 2))) (.cmp .eq (.var 1) (.cst (.int 1))) (.neg (.var 1))) (.cons (.bin .mul (.var 1) (.cst (.int 1000))) .nil))))) .nil))))
    .skip)
    .skip)
    (.seq (.ifs (.or (.not (.isi (.var 1) [.tuple, .list])) (.or (.cmp .eq (.b1 .len (.var 1)) (.cst (.int 0))) (.cmp .eq (.call "_law_take" [true, false] (.cons (.var 0) (.cons (.cst (.int 8)) .nil))) (.cst (.int 0)))))
    (.seq (.ret (.call "_law_odd" [true] (.cons (.var 0) .nil)))
    .skip)
    .skip)
    (.seq (.par [2, 3, 4] (.cons (.b1 .list (.var 1)) (.cons (.call "_law_take" [true, false] (.cons (.var 0) (.cons (.cst (.int 10)) .nil))) (.cons (.call "_law_take" [true, false] (.cons (.var 0) (.cons (.b1 .len (.var 1)) .nil))) .nil))))
    (.seq (.ifs (.cmp .lt (.var 3) (.cst (.int 7)))
    (.seq (.put 2 (.var 4) (.call "_law_bent" [true, false] (.cons (.var 0) (.cons (.idx (.var 2) (.var 4)) .nil))))
    .skip)
    (.seq (.asg 2 (.idx (.lst (.cons (.bin .add (.shi (.var 2) (.var 4)) (.slo (.var 2) (.bin .add (.var 4) (.cst (.int 1))))) (.cons (.bin .add (.var 2) (.slh (.var 2) (.var 4) (.bin .add (.var 4) (.cst (.int 1))))) (.cons (.rev (.var 2)) .nil)))) (.bin .sub (.var 3) (.cst (.int 7)))))
    .skip))
    (.seq (.ret (.ite (.cmp .eq (.isi (.var 1) [.tuple]) (.cmp .gt (.call "_law_take" [true, false] (.cons (.var 0) (.cons (.cst (.int 12)) .nil))) (.cst (.int 0)))) (.b1 .tuple (.var 2)) (.var 2)))
    .skip)))))
def N_law_bent : List Str := [Str.ofString "pen", Str.ofString "value", Str.ofString "found", Str.ofString "way", Str.ofString "k"]
def L_law_bent : List (String × List Bool) := [("_law_one_of", [true, false]), ("_law_odd", [true]), ("_law_take", [true, false]), ("_law_bent", [true, false])]
def f_law_shuffled_t1 : E := (.cmp .ne (.var 2) (.lst .nil))
def f_law_shuffled_b1 : S := (.seq (.expr (.append 3 (.popat 2 (.call "_law_take" [true, false] (.cons (.var 0) (.cons (.b1 .len (.var 2)) .nil))))))
    .skip)
def f_law_shuffled : S := (.seq (.par [2, 3] (.cons (.b1 .list (.var 1)) (.cons (.lst .nil) .nil)))
    (.seq (.whl f_law_shuffled_t1 f_law_shuffled_b1)
    (.seq (.ret (.b1 .tuple (.var 3)))
    .skip)))
def N_law_shuffled : List Str := [Str.ofString "pen", Str.ofString "some", Str.ofString "left", Str.ofString "found"]
def L_law_shuffled : List (String × List Bool) := [("_law_take", [true, false])]
def f_law_near : S := (.seq (.unpack [3, 4] (.var 1))
    (.seq (.asg 2 (.call "_law_take" [true, false] (.cons (.var 0) (.cons (.cst (.int 7)) .nil))))
    (.seq (.ifs (.cmp .eq (.var 2) (.cst (.int 0)))
    (.seq (.ret (.tup (.cons (.call "_law_one_of" [true, false] (.cons (.var 0) (.cons (.lst (.cons (.cst (.int 10)) (.cons (.cst (.int 11)) (.cons (.cst (.int 0)) (.cons (.cst (.int 1)) (.cons (.bin .add (.var 3) (.cst (.int 1))) (.cons (.cst (.bool true)) (.cons (.neg (.cst (.int 1))) .nil)))))))) .nil))) (.cons (.var 4) .nil))))
    .skip)
    .skip)
    (.seq (.ifs (.cmp .eq (.var 2) (.cst (.int 1)))
    (.seq (.ret (.tup (.cons (.cst (.int 10)) (.cons (.bin .add (.var 4) (.shi (.tup (.cons (.tup (.cons (.cst (.int 9)) .nil)) (.cons (.tup (.cons (.cst (.int 10)) .nil)) (.cons (.tup (.cons (.cst (.int 0)) (.cons (.cst (.int 9)) .nil))) .nil)))) (.call "_law_take" [true, false] (.cons (.var 0) (.cons (.cst (.int 4)) .nil))))) .nil))))
    .skip)
    .skip)
    (.seq (.ifs (.cmp .eq (.var 2) (.cst (.int 2)))
    (.seq (.ret (.tup (.cons (.var 3) (.cons (.call "_law_one_of" [true, false] (.cons (.var 0) (.cons (.lst (.cons (.bin .mul (.tup (.cons (.tup (.cons (.cst (.int 0)) .nil)) .nil)) (.cst (.int 6))) (.cons (.bin .mul (.tup (.cons (.tup (.cons (.cst (.int 0)) .nil)) .nil)) (.cst (.int 7))) (.cons (.bin .mul (.tup (.cons (.tup .nil) .nil)) (.cst (.int 6))) (.cons (.b1 .list (.var 4)) (.cons (.cst .none) .nil)))))) .nil))) .nil))))
    .skip)
    .skip)
    (.seq (.ifs (.and (.cmp .eq (.var 2) (.cst (.int 3))) (.cmp .ne (.var 4) (.tup .nil)))
    (.seq (.asg 5 (.call "_law_take" [true, false] (.cons (.var 0) (.cons (.b1 .len (.var 4)) .nil))))
    (.seq (.asg 6 (.lst (.cons (.call "_law_shuffled" [true, false] (.cons (.var 0) (.cons (.idx (.var 4) (.var 5)) .nil))) (.cons (.rev (.idx (.var 4) (.var 5))) (.cons (.bin .add (.idx (.var 4) (.var 5)) (.idx (.var 4) (.var 5))) (.cons (.b1 .list (.idx (.var 4) (.var 5))) .nil))))))
    (.seq (.asg 6 (.bin .add (.var 6) (.lst (.cons (.tup (.cons (.cst (.int 0)) (.cons (.cst (.int 0)) .nil))) (.cons (.tup (.cons (.cst (.int 0)) (.cons (.cst (.bool true)) .nil))) (.cons (.tup (.cons (.cst (.bool false)) .nil)) (.cons (.tup (.cons (.var 3) .nil)) .nil)))))))
    (.seq (.ret (.tup (.cons (.var 3) (.cons (.bin .add (.bin .add (.shi (.var 4) (.var 5)) (.tup (.cons (.call "_law_one_of" [true, false] (.cons (.var 0) (.cons (.bin .add (.var 6) (.lst (.cons (.tup (.cons (.neg (.cst (.int 1))) .nil)) (.cons (.cst .none) .nil)))) .nil))) .nil))) (.slo (.var 4) (.bin .add (.var 5) (.cst (.int 1))))) .nil))))
    .skip))))
    .skip)
    (.seq (.ret (.call "_law_bent" [true, false] (.cons (.var 0) (.cons (.var 1) .nil))))
    .skip)))))))
def N_law_near : List Str := [Str.ofString "pen", Str.ofString "house", Str.ofString "way", Str.ofString "people", Str.ofString "posts", Str.ofString "k", Str.ofString "some"]
def L_law_near : List (String × List Bool) := [("_law_take", [true, false]), ("_law_bent", [true, false]), ("_law_one_of", [true, false]), ("_law_shuffled", [true, false])]
def f_law_same_e1 : E := (.call "_law_same" [false, false] (.cons (.var 2) (.cons (.var 3) .nil)))
def f_law_same : S := (.seq (.ifs (.or (.isn (.var 1)) (.isn (.var 0)))
    (.seq (.ret (.and (.isn (.var 1)) (.isn (.var 0))))
    .skip)
    .skip)
    (.seq (.ifs (.or (.isi (.var 1) [.bool]) (.isi (.var 0) [.bool]))
    (.seq (.ret (.and (.isi (.var 1) [.bool]) (.and (.isi (.var 0) [.bool]) (.cmp .eq (.var 0) (.var 1)))))
    .skip)
    .skip)
    (.seq (.ifs (.isi (.var 1) [.int, .str])
    (.seq (.ifs (.cmp .ne (.isi (.var 0) [.int]) (.isi (.var 1) [.int]))
    (.seq (.ret (.cst (.bool false)))
    .skip)
    .skip)
    (.seq (.ret (.and (.isi (.var 0) [.int, .str]) (.cmp .eq (.var 0) (.var 1))))
    .skip))
    .skip)
    (.seq (.ifs (.or (.cmp .ne (.isi (.var 1) [.tuple]) (.isi (.var 0) [.tuple])) (.cmp .ne (.isi (.var 1) [.list]) (.isi (.var 0) [.list])))
    (.seq (.ret (.cst (.bool false)))
    .skip)
    .skip)
    (.seq (.ifs (.cmp .ne (.b1 .len (.var 0)) (.b1 .len (.var 1)))
    (.seq (.ret (.cst (.bool false)))
    .skip)
    .skip)
    (.seq (.ret (.cmp .notin (.cst (.bool false)) (.lc [2, 3] (.tp [2, 3]) (.zip2 false (.var 0) (.var 1)) .nil f_law_same_e1)))
    .skip))))))
def N_law_same : List Str := [Str.ofString "found", Str.ofString "due", Str.ofString "one", Str.ofString "other"]
def L_law_same : List (String × List Bool) := [("_law_same", [false, false])]
def f_is_integer : S := (.seq (.ret (.and (.isi (.var 0) [.int]) (.not (.isi (.var 0) [.bool]))))
    .skip)
def N_is_integer : List Str := [Str.ofString "value"]
def L_is_integer : List (String × List Bool) := []
def f_is_within : S := (.seq (.ret (.and (.call "is_integer" [false] (.cons (.var 0) .nil)) (.chain .le .le (.var 1) (.var 0) (.var 2))))
    .skip)
def N_is_within : List Str := [Str.ofString "value", Str.ofString "low", Str.ofString "high"]
def L_is_within : List (String × List Bool) := [("is_integer", [false])]
def f_is_ascending_e1 : E := (.cmp .lt (.var 2) (.var 3))
def f_is_ascending_e2 : E := (.call "is_within" [false, false, false] (.cons (.var 2) (.cons (.cst (.int 0)) (.cons (.bin .sub (.var 1) (.cst (.int 1))) .nil))))
def f_is_ascending : S := (.seq (.ifs (.or (.not (.isi (.var 0) [.tuple])) (.not (.b1 .all (.lc [2] (.nm 2) (.of (.var 0)) .nil f_is_ascending_e2))))
    (.seq (.ret (.cst (.bool false)))
    .skip)
    .skip)
    (.seq (.ret (.b1 .all (.lc [2, 3] (.tp [2, 3]) (.zip2 false (.var 0) (.slo (.var 0) (.cst (.int 1)))) .nil f_is_ascending_e1)))
    .skip))
def N_is_ascending : List Str := [Str.ofString "value", Str.ofString "many", Str.ofString "one", Str.ofString "other"]
def L_is_ascending : List (String × List Bool) := [("is_within", [false, false, false])]
def f_is_house_e1 : E := (.call "is_ascending" [false, false] (.cons (.var 1) (.cons (.idx (.var 0) (.cst (.int 0))) .nil)))
def f_is_house : S := (.seq (.ifs (.or (.not (.isi (.var 0) [.tuple])) (.or (.cmp .ne (.b1 .len (.var 0)) (.cst (.int 2))) (.not (.call "is_within" [false, false, false] (.cons (.idx (.var 0) (.cst (.int 0))) (.cons (.cst (.int 1)) (.cons (.glb "MOST_PEOPLE" 10) .nil)))))))
    (.seq (.ret (.cst (.bool false)))
    .skip)
    .skip)
    (.seq (.ifs (.or (.not (.isi (.idx (.var 0) (.cst (.int 1))) [.tuple])) (.cmp .gt (.b1 .len (.idx (.var 0) (.cst (.int 1)))) (.glb "MOST_POSTS" 6)))
    (.seq (.ret (.cst (.bool false)))
    .skip)
    .skip)
    (.seq (.ret (.b1 .all (.lc [1] (.nm 1) (.of (.idx (.var 0) (.cst (.int 1)))) .nil f_is_house_e1)))
    .skip)))
def N_is_house : List Str := [Str.ofString "value", Str.ofString "post"]
def L_is_house : List (String × List Bool) := [("is_within", [false, false, false]), ("is_ascending", [false, false]), ("MOST_POSTS", List.replicate 106 false), ("MOST_PEOPLE", List.replicate 110 false)]
def f_law_is_integer : S := (.seq (.ret (.and (.isi (.var 0) [.int]) (.and (.not (.isi (.var 0) [.bool])) (.chain .le .le (.var 1) (.var 0) (.var 2)))))
    .skip)
def N_law_is_integer : List Str := [Str.ofString "value", Str.ofString "low", Str.ofString "high"]
def L_law_is_integer : List (String × List Bool) := []
def f_law_is_tuple_e1 : E := (.call "_law_is_integer" [false, false, false] (.cons (.var 2) (.cons (.cst (.int 0)) (.cons (.bin .sub (.var 1) (.cst (.int 1))) .nil))))
def f_law_is_tuple : S := (.seq (.ifs (.or (.not (.isi (.var 0) [.tuple])) (.cmp .isin (.cst (.bool false)) (.lc [2] (.nm 2) (.of (.var 0)) .nil f_law_is_tuple_e1)))
    (.seq (.ret (.cst (.bool false)))
    .skip)
    .skip)
    (.seq (.ret (.cmp .eq (.b1 .list (.var 0)) (.b1 .sortset (.var 0))))
    .skip))
def N_law_is_tuple : List Str := [Str.ofString "value", Str.ofString "many", Str.ofString "one"]
def L_law_is_tuple : List (String × List Bool) := [("_law_is_integer", [false, false, false])]
def f_law_is_house_e1 : E := (.call "_law_is_tuple" [false, false] (.cons (.var 1) (.cons (.idx (.var 0) (.cst (.int 0))) .nil)))
def f_law_is_house : S := (.seq (.ifs (.or (.not (.isi (.var 0) [.tuple])) (.or (.cmp .ne (.b1 .len (.var 0)) (.cst (.int 2))) (.not (.call "_law_is_integer" [false, false, false] (.cons (.idx (.var 0) (.cst (.int 0))) (.cons (.cst (.int 1)) (.cons (.cst (.int 10)) .nil)))))))
    (.seq (.ret (.cst (.bool false)))
    .skip)
    .skip)
    (.seq (.ifs (.or (.not (.isi (.idx (.var 0) (.cst (.int 1))) [.tuple])) (.cmp .gt (.b1 .len (.idx (.var 0) (.cst (.int 1)))) (.cst (.int 6))))
    (.seq (.ret (.cst (.bool false)))
    .skip)
    .skip)
    (.seq (.ret (.cmp .notin (.cst (.bool false)) (.lc [1] (.nm 1) (.of (.idx (.var 0) (.cst (.int 1)))) .nil f_law_is_house_e1)))
    .skip)))
def N_law_is_house : List Str := [Str.ofString "value", Str.ofString "post"]
def L_law_is_house : List (String × List Bool) := [("_law_is_integer", [false, false, false]), ("_law_is_tuple", [false, false])]
def f_law_e1 : E := (.call "_law_near" [true, false] (.cons (.var 1) (.cons (.var 3) .nil)))
def f_law_b1 : S := (.seq (.asg 6 (.b1 .repr (.var 5)))
    (.seq (.ifs (.or (.not (.call "_law_same" [false, false] (.cons (.call "is_house" [false] (.cons (.var 5) .nil)) (.cons (.call "_law_is_house" [false] (.cons (.var 5) .nil)) .nil)))) (.cmp .ne (.b1 .repr (.var 5)) (.var 6)))
    (.seq (.ret (.cst (.bool false)))
    .skip)
    .skip)
    .skip))
def f_law_b2 : S := (.seq (.asg 3 (.call "_law_draw_house" [true, false, false, false] (.cons (.var 1) (.cons (.cst (.int 10)) (.cons (.cst (.int 6)) (.cons (.cst (.int 3)) .nil))))))
    (.seq (.asg 4 (.lst (.cons (.var 3) (.cons (.tup (.cons (.cst (.int 1)) (.cons (.tup .nil) .nil))) (.cons (.tup (.cons (.cst (.int 0)) (.cons (.tup .nil) .nil))) (.cons (.cst .none) (.cons (.tup .nil) (.cons (.lst .nil) (.cons (.dct (.cons (.cst (.int 0)) (.cons (.idx (.var 3) (.cst (.int 0))) (.cons (.cst (.int 1)) (.cons (.idx (.var 3) (.cst (.int 1))) .nil))))) .nil)))))))))
    (.seq (.asg 4 (.bin .add (.var 4) (.lst (.cons (.tup (.cons (.cst (.int 2)) (.cons (.tup (.cons (.tup (.cons (.cst (.int 0)) (.cons (.cst (.int 1)) .nil))) .nil)) .nil))) (.cons (.tup (.cons (.cst (.int 2)) (.cons (.tup (.cons (.tup (.cons (.cst (.int 1)) (.cons (.cst (.int 0)) .nil))) .nil)) .nil))) (.cons (.tup (.cons (.cst (.int 2)) (.cons (.tup (.cons (.tup (.cons (.cst (.int 0)) (.cons (.cst (.int 2)) .nil))) .nil)) .nil))) (.cons (.cst (.int 7)) .nil)))))))
    (.seq (.for (.nm 5) (.of (.bin .add (.var 4) (.lc [7] (.nm 7) (.range1 (.cst (.int 14))) .nil f_law_e1))) f_law_b1)
    .skip))))
def f_law : S := (.seq (.asg 1 (.call "_law_open" [false] (.cons (.var 0) .nil)))
    (.seq (.for (.nm 2) (.range1 (.cst (.int 2))) f_law_b2)
    (.seq (.ret (.cst (.bool true)))
    .skip)))
def N_law : List Str := [Str.ofString "script", Str.ofString "pen", Str.ofString "turn", Str.ofString "house", Str.ofString "values", Str.ofString "value", Str.ofString "text", Str.ofString "again"]
def L_law : List (String × List Bool) := [("_law_open", [false]), ("_law_draw_house", [true, false, false, false]), ("_law_near", [true, false]), ("_law_same", [false, false]), ("is_house", [false]), ("_law_is_house", [false])]
def tops (i : Nat) : Stmt := PySem.Challenge.pw_sparehands_k01_houses_recognized.main.body.getD i (.Pass ⟨0, 0, 0, 0⟩)
theorem m_law_open : mSs L_law_open N_law_open (ioOf 0 [false]) (defScope (tops 8)) (fun _ => true) f_law_open (defBody (tops 8)) = true := by decide +kernel
theorem sc_law_open : FnScope N_law_open [Str.ofString "script"] (defScope (tops 8)) := ⟨rfl, rfl, rfl, by decide +kernel, rfl, by decide +kernel, by decide +kernel⟩
theorem m_law_spread : mSs L_law_spread N_law_spread (ioOf 0 [false, false]) (defScope (tops 9)) (fun _ => true) f_law_spread (defBody (tops 9)) = true := by decide +kernel
theorem sc_law_spread : FnScope N_law_spread [Str.ofString "cell", Str.ofString "at"] (defScope (tops 9)) := ⟨rfl, rfl, rfl, by decide +kernel, rfl, by decide +kernel, by decide +kernel⟩
theorem m_law_take : mSs L_law_take N_law_take (ioOf 0 [true, false]) (defScope (tops 10)) (fun _ => true) f_law_take (defBody (tops 10)) = true := by decide +kernel
theorem sc_law_take : FnScope N_law_take [Str.ofString "pen", Str.ofString "amount"] (defScope (tops 10)) := ⟨rfl, rfl, rfl, by decide +kernel, rfl, by decide +kernel, by decide +kernel⟩
theorem m_law_draw_house : mSs L_law_draw_house N_law_draw_house (ioOf 0 [true, false, false, false]) (defScope (tops 16)) (fun _ => true) f_law_draw_house (defBody (tops 16)) = true := by decide +kernel
theorem sc_law_draw_house : FnScope N_law_draw_house [Str.ofString "pen", Str.ofString "people", Str.ofString "posts", Str.ofString "rare"] (defScope (tops 16)) := ⟨rfl, rfl, rfl, by decide +kernel, rfl, by decide +kernel, by decide +kernel⟩
theorem m_law_one_of : mSs L_law_one_of N_law_one_of (ioOf 0 [true, false]) (defScope (tops 12)) (fun _ => true) f_law_one_of (defBody (tops 12)) = true := by decide +kernel
theorem sc_law_one_of : FnScope N_law_one_of [Str.ofString "pen", Str.ofString "some"] (defScope (tops 12)) := ⟨rfl, rfl, rfl, by decide +kernel, rfl, by decide +kernel, by decide +kernel⟩
theorem m_law_odd : mSs L_law_odd N_law_odd (ioOf 0 [true]) (defScope (tops 14)) (fun _ => true) f_law_odd (defBody (tops 14)) = true := by decide +kernel
theorem sc_law_odd : FnScope N_law_odd [Str.ofString "pen"] (defScope (tops 14)) := ⟨rfl, rfl, rfl, by decide +kernel, rfl, by decide +kernel, by decide +kernel⟩
theorem m_law_bent : mSs L_law_bent N_law_bent (ioOf 0 [true, false]) (defScope (tops 15)) (fun _ => true) f_law_bent (defBody (tops 15)) = true := by decide +kernel
theorem sc_law_bent : FnScope N_law_bent [Str.ofString "pen", Str.ofString "value"] (defScope (tops 15)) := ⟨rfl, rfl, rfl, by decide +kernel, rfl, by decide +kernel, by decide +kernel⟩
theorem m_law_shuffled : mSs L_law_shuffled N_law_shuffled (ioOf 0 [true, false]) (defScope (tops 20)) (fun _ => true) f_law_shuffled (defBody (tops 20)) = true := by decide +kernel
theorem sc_law_shuffled : FnScope N_law_shuffled [Str.ofString "pen", Str.ofString "some"] (defScope (tops 20)) := ⟨rfl, rfl, rfl, by decide +kernel, rfl, by decide +kernel, by decide +kernel⟩
theorem m_law_near : mSs L_law_near N_law_near (ioOf 0 [true, false]) (defScope (tops 19)) (fun _ => true) f_law_near (defBody (tops 19)) = true := by decide +kernel
theorem sc_law_near : FnScope N_law_near [Str.ofString "pen", Str.ofString "house"] (defScope (tops 19)) := ⟨rfl, rfl, rfl, by decide +kernel, rfl, by decide +kernel, by decide +kernel⟩
theorem m_law_same : mSs L_law_same N_law_same (ioOf 0 [false, false]) (defScope (tops 11)) (fun _ => true) f_law_same (defBody (tops 11)) = true := by decide +kernel
theorem sc_law_same : FnScope N_law_same [Str.ofString "found", Str.ofString "due"] (defScope (tops 11)) := ⟨rfl, rfl, rfl, by decide +kernel, rfl, by decide +kernel, by decide +kernel⟩
theorem m_is_integer : mSs L_is_integer N_is_integer (ioOf 0 [false]) (defScope (tops 3)) (fun _ => true) f_is_integer (defBody (tops 3)) = true := by decide +kernel
theorem sc_is_integer : FnScope N_is_integer [Str.ofString "value"] (defScope (tops 3)) := ⟨rfl, rfl, rfl, by decide +kernel, rfl, by decide +kernel, by decide +kernel⟩
theorem m_is_within : mSs L_is_within N_is_within (ioOf 0 [false, false, false]) (defScope (tops 4)) (fun _ => true) f_is_within (defBody (tops 4)) = true := by decide +kernel
theorem sc_is_within : FnScope N_is_within [Str.ofString "value", Str.ofString "low", Str.ofString "high"] (defScope (tops 4)) := ⟨rfl, rfl, rfl, by decide +kernel, rfl, by decide +kernel, by decide +kernel⟩
theorem m_is_ascending : mSs L_is_ascending N_is_ascending (ioOf 0 [false, false]) (defScope (tops 5)) (fun _ => true) f_is_ascending (defBody (tops 5)) = true := by decide +kernel
theorem sc_is_ascending : FnScope N_is_ascending [Str.ofString "value", Str.ofString "many"] (defScope (tops 5)) := ⟨rfl, rfl, rfl, by decide +kernel, rfl, by decide +kernel, by decide +kernel⟩
theorem m_is_house : mSs L_is_house N_is_house (ioOf 0 [false]) (defScope (tops 6)) (fun _ => true) f_is_house (defBody (tops 6)) = true := by decide +kernel
theorem sc_is_house : FnScope N_is_house [Str.ofString "value"] (defScope (tops 6)) := ⟨rfl, rfl, rfl, by decide +kernel, rfl, by decide +kernel, by decide +kernel⟩
theorem m_law_is_integer : mSs L_law_is_integer N_law_is_integer (ioOf 0 [false, false, false]) (defScope (tops 13)) (fun _ => true) f_law_is_integer (defBody (tops 13)) = true := by decide +kernel
theorem sc_law_is_integer : FnScope N_law_is_integer [Str.ofString "value", Str.ofString "low", Str.ofString "high"] (defScope (tops 13)) := ⟨rfl, rfl, rfl, by decide +kernel, rfl, by decide +kernel, by decide +kernel⟩
theorem m_law_is_tuple : mSs L_law_is_tuple N_law_is_tuple (ioOf 0 [false, false]) (defScope (tops 17)) (fun _ => true) f_law_is_tuple (defBody (tops 17)) = true := by decide +kernel
theorem sc_law_is_tuple : FnScope N_law_is_tuple [Str.ofString "value", Str.ofString "many"] (defScope (tops 17)) := ⟨rfl, rfl, rfl, by decide +kernel, rfl, by decide +kernel, by decide +kernel⟩
theorem m_law_is_house : mSs L_law_is_house N_law_is_house (ioOf 0 [false]) (defScope (tops 18)) (fun _ => true) f_law_is_house (defBody (tops 18)) = true := by decide +kernel
theorem sc_law_is_house : FnScope N_law_is_house [Str.ofString "value"] (defScope (tops 18)) := ⟨rfl, rfl, rfl, by decide +kernel, rfl, by decide +kernel, by decide +kernel⟩
theorem m_law : mSs L_law N_law (ioOf 0 [false]) (defScope (tops 21)) (fun _ => true) f_law (defBody (tops 21)) = true := by decide +kernel
theorem sc_law : FnScope N_law [Str.ofString "script"] (defScope (tops 21)) := ⟨rfl, rfl, rfl, by decide +kernel, rfl, by decide +kernel, by decide +kernel⟩
end Co

set_option linter.all false
namespace Co
open PySem
def Pen (t : Nat) (d : PyData) : Prop := ∃ (cells : List Int) (k num : Int), d = .list [.list (cells.map .int), .int k, .int num] ∧ 0 ≤ k ∧ k ≤ t ∧ 0 ≤ num
def takeSp : Spec := fun ds Q => ∃ t pen n, ds = [pen, .int n] ∧ Pen t pen ∧ t < 1000000 ∧ 0 < n ∧ n < 1000000 ∧ ∀ r pen', 0 ≤ r → r < n → Pen (t + 1) pen' → Q (.val (.int r)) [pen']
def oneOfSp : Spec := fun ds Q => ∃ t pen xs, ds = [pen, xs] ∧ Pen t pen ∧ t < 1000000 ∧ (∃ l, itemsOf xs = some l ∧ 0 < l.length ∧ l.length < 1000000 ∧ ∀ x pen', x ∈ l → Pen (t + 1) pen' → Q (.val x) [pen'])
theorem one_of_ok (Φ : Tbl) (h : Φ "_law_take" = takeSp) : Impl Φ [true, false] 2 f_law_one_of oneOfSp := by
  rintro ds Q ⟨t, pen, xs, rfl, hp, ht, l, hl, h1, h2, k⟩ _
  have atR : ∀ {l : List PyData} {r : Int}, 0 ≤ r → r < l.length → ∃ v, L2.atI l r = some v ∧ v ∈ l := fun {l r} a b => by
    have hr : r.toNat < l.length := by omega
    refine ⟨l[r.toNat], ?_, List.getElem_mem hr⟩
    unfold L2.atI L2.ixN
    rw [if_pos a, if_pos b]
    simp [hr]
  cases xs <;> simp [itemsOf] at hl <;> subst hl
  all_goals
    unfold f_law_one_of
    simp -dsimp only [↓wpS, ↓wpE, ↓wpEs, ↓wpEs', ↓wpCs, ↓wpI, ↓callW, ↓okArgs, ↓sigOk, ↓inouts, ↓lents, ↓peeks, ↓peek, ↓pk, ↓slot, ↓setOwn, ↓setC, ↓freeze, ↓isOwn, ↓isIo, ↓slC, ↓isLst, ↓asV, ↓asS, ↓asVs, ↓asSs, ↓isT, ↓R.still, ↓setMany, ↓bindT, ↓wipeE, ↓unwipe, ↓binD, ↓intBin, ↓cmpD, ↓eqD, ↓ordD, ↓ordI, ↓startE, ↓endsOf, ↓ioOf, ↓newsOf, ↓Sl.r, ↓itemsOf, ↓slcD, ↓revD, ↓b1D, ↓b2D, ↓isNoneD, ↓noRefR, ↓noRef, ↓noRefs, ite_self, ↓isTy, ↓List.getElem?_cons_zero, ↓List.getElem?_cons_succ, ↓List.getElem?_nil, ↓Option.join_some, ↓Option.join_none, ↓Option.isSome_some, ↓Option.isSome_none, ↓List.set_cons_zero, ↓List.set_cons_succ, ↓List.replicate, ↓List.length_cons, ↓List.length_nil, ↓List.isEmpty_cons, ↓List.isEmpty_nil, ↓List.all_cons, ↓List.all_nil, ↓List.filterMap_cons, ↓List.filterMap_nil, ↓List.contains_cons, ↓List.contains_nil, ↓Bool.and_true, ↓Bool.true_and, ↓Bool.and_false, ↓Bool.false_and, ↓Bool.not_true, ↓Bool.not_false, ↓if_true, ↓sh_int, ↓sh_bool, ↓sh_none, ↓eqv_ii, ↓eqv_bb, ↓eqv_ss, ↓brn_true, ↓brn_false, brn_true, brn_false, ↓List.any_cons, ↓List.any_nil, ↓if_false, ↓ite_true, ↓ite_false, ↓true_and, ↓and_true, ↓Bool.false_eq_true, ↓reduceCtorEq, ↓decide_true, ↓decide_false, ↓List.map_cons, ↓List.map_nil, ↓Tg.slots, ↓List.nodup_cons, ↓List.nodup_nil, ↓List.not_mem_nil, ↓not_false_eq_true, ↓forall_const, ↓true_implies, ↓bI, Nat.reduceAdd, Nat.reduceSub, Nat.reduceEqDiff, Int.reduceLT, Int.reduceLE, Nat.reduceLT, Nat.reduceLeDiff, Int.reduceNeg, Nat.reduceBEq, ↓BEq.rfl, ↓beq_self_eq_true, ↓Bool.or_false, ↓Bool.or_true]
    simp only [h]
    refine ⟨_, rfl, t, pen, _, rfl, hp, ht, by omega, by omega, fun r pen' a b c _ => ?_⟩
    simp -dsimp only [↓wpS, ↓wpE, ↓wpEs, ↓wpEs', ↓wpCs, ↓wpI, ↓callW, ↓okArgs, ↓sigOk, ↓inouts, ↓lents, ↓peeks, ↓peek, ↓pk, ↓slot, ↓setOwn, ↓setC, ↓freeze, ↓isOwn, ↓isIo, ↓slC, ↓isLst, ↓asV, ↓asS, ↓asVs, ↓asSs, ↓isT, ↓R.still, ↓setMany, ↓bindT, ↓wipeE, ↓unwipe, ↓binD, ↓intBin, ↓cmpD, ↓eqD, ↓ordD, ↓ordI, ↓startE, ↓endsOf, ↓ioOf, ↓newsOf, ↓Sl.r, ↓itemsOf, ↓slcD, ↓revD, ↓b1D, ↓b2D, ↓isNoneD, ↓noRefR, ↓noRef, ↓noRefs, ite_self, ↓isTy, ↓List.getElem?_cons_zero, ↓List.getElem?_cons_succ, ↓List.getElem?_nil, ↓Option.join_some, ↓Option.join_none, ↓Option.isSome_some, ↓Option.isSome_none, ↓List.set_cons_zero, ↓List.set_cons_succ, ↓List.replicate, ↓List.length_cons, ↓List.length_nil, ↓List.isEmpty_cons, ↓List.isEmpty_nil, ↓List.all_cons, ↓List.all_nil, ↓List.filterMap_cons, ↓List.filterMap_nil, ↓List.contains_cons, ↓List.contains_nil, ↓Bool.and_true, ↓Bool.true_and, ↓Bool.and_false, ↓Bool.false_and, ↓Bool.not_true, ↓Bool.not_false, ↓if_true, ↓sh_int, ↓sh_bool, ↓sh_none, ↓eqv_ii, ↓eqv_bb, ↓eqv_ss, ↓brn_true, ↓brn_false, brn_true, brn_false, ↓List.any_cons, ↓List.any_nil, ↓if_false, ↓ite_true, ↓ite_false, ↓true_and, ↓and_true, ↓Bool.false_eq_true, ↓reduceCtorEq, ↓decide_true, ↓decide_false, ↓List.map_cons, ↓List.map_nil, ↓Tg.slots, ↓List.nodup_cons, ↓List.nodup_nil, ↓List.not_mem_nil, ↓not_false_eq_true, ↓forall_const, ↓true_implies, ↓bI, Nat.reduceAdd, Nat.reduceSub, Nat.reduceEqDiff, Int.reduceLT, Int.reduceLE, Nat.reduceLT, Nat.reduceLeDiff, Int.reduceNeg, Nat.reduceBEq, ↓BEq.rfl, ↓beq_self_eq_true, ↓Bool.or_false, ↓Bool.or_true]
    obtain ⟨v, hv, hm⟩ := atR a (by simpa using b)
    exact ⟨v, hv, k v pen' hm c⟩

def openSp : Spec := fun ds Q => ∃ ns : List Int, ds = [.list (ns.map .int)] ∧ ns.length ≤ 63 ∧ ∀ p, Pen 0 p → Q (.own p) []
theorem open_ok (Φ : Tbl) : Impl Φ [false] 4 f_law_open openSp := by
  rintro ds Q ⟨ns, rfl, hl, k⟩ _
  unfold f_law_open
  simp -dsimp only [↓wpS, ↓wpE, ↓wpEs, ↓wpEs', ↓wpCs, ↓wpI, ↓callW, ↓okArgs, ↓sigOk, ↓inouts, ↓lents, ↓peeks, ↓peek, ↓pk, ↓slot, ↓setOwn, ↓setC, ↓freeze, ↓isOwn, ↓isIo, ↓slC, ↓isLst, ↓asV, ↓asS, ↓asVs, ↓asSs, ↓isT, ↓R.still, ↓setMany, ↓bindT, ↓wipeE, ↓unwipe, ↓binD, ↓intBin, ↓cmpD, ↓eqD, ↓ordD, ↓ordI, ↓startE, ↓endsOf, ↓ioOf, ↓newsOf, ↓Sl.r, ↓itemsOf, ↓slcD, ↓revD, ↓b1D, ↓b2D, ↓isNoneD, ↓noRefR, ↓noRef, ↓noRefs, ite_self, ↓isTy, ↓List.getElem?_cons_zero, ↓List.getElem?_cons_succ, ↓List.getElem?_nil, ↓Option.join_some, ↓Option.join_none, ↓Option.isSome_some, ↓Option.isSome_none, ↓List.set_cons_zero, ↓List.set_cons_succ, ↓List.replicate, ↓List.length_cons, ↓List.length_nil, ↓List.isEmpty_cons, ↓List.isEmpty_nil, ↓List.all_cons, ↓List.all_nil, ↓List.filterMap_cons, ↓List.filterMap_nil, ↓List.contains_cons, ↓List.contains_nil, ↓Bool.and_true, ↓Bool.true_and, ↓Bool.and_false, ↓Bool.false_and, ↓Bool.not_true, ↓Bool.not_false, ↓if_true, ↓sh_int, ↓sh_bool, ↓sh_none, ↓eqv_ii, ↓eqv_bb, ↓eqv_ss, ↓brn_true, ↓brn_false, brn_true, brn_false, ↓List.any_cons, ↓List.any_nil, ↓if_false, ↓ite_true, ↓ite_false, ↓true_and, ↓and_true, ↓Bool.false_eq_true, ↓reduceCtorEq, ↓decide_true, ↓decide_false, ↓List.map_cons, ↓List.map_nil, ↓Tg.slots, ↓List.nodup_cons, ↓List.nodup_nil, ↓List.not_mem_nil, ↓not_false_eq_true, ↓forall_const, ↓true_implies, ↓bI, Nat.reduceAdd, Nat.reduceSub, Nat.reduceEqDiff, Int.reduceLT, Int.reduceLE, Nat.reduceLT, Nat.reduceLeDiff, Int.reduceNeg, Nat.reduceBEq, ↓BEq.rfl, ↓beq_self_eq_true, ↓Bool.or_false, ↓Bool.or_true]
  have hc : ∃ cs : List Int, cut (ns.map PyData.int) none (some 12) = cs.map .int ∧ (cs.length = 12 ∨ ns.length < 12) := by
    refine ⟨_, cut_map _ _ _ _, ?_⟩
    simp [HT.sIx]
    omega
  obtain ⟨cs, hcs, hlen⟩ := hc
  rw [hcs]
  refine for_inv (fun i e => ∃ (cs : List Int) (a b : Option Sl), e = [some (.val (.list (ns.map .int))), some (.own (.list (cs.map .int))), a, b] ∧ (cs.length = 12 ∨ ns.length < 12)) ⟨cs, none, none, rfl, hlen⟩ ?_ ?_
  · rintro i x e N hx ⟨cs, a, b, rfl, hlen⟩ next
    obtain ⟨c, rfl, hc⟩ := enum_some hx
    rw [cut_map] at hc
    obtain ⟨c, rfl, hc⟩ := map_some hc
    have h12 : cs.length = 12 := by
      rcases hlen with h | h
      · exact h
      · exfalso
        have hl := (List.getElem?_eq_some_iff.mp hc).1
        simp [HT.sIx] at hl
        omega
    have hlt : (i : Int) % 12 < ((cs.map PyData.int).length : Nat) := by rw [List.length_map, h12]; omega
    have h0 : 0 ≤ (i : Int) % 12 := by omega
    unfold f_law_open_b1
    simp -dsimp only [↓wpS, ↓wpE, ↓wpEs, ↓wpEs', ↓wpCs, ↓wpI, ↓callW, ↓okArgs, ↓sigOk, ↓inouts, ↓lents, ↓peeks, ↓peek, ↓pk, ↓slot, ↓setOwn, ↓setC, ↓freeze, ↓isOwn, ↓isIo, ↓slC, ↓isLst, ↓asV, ↓asS, ↓asVs, ↓asSs, ↓isT, ↓R.still, ↓setMany, ↓bindT, ↓wipeE, ↓unwipe, ↓binD, ↓intBin, ↓cmpD, ↓eqD, ↓ordD, ↓ordI, ↓startE, ↓endsOf, ↓ioOf, ↓newsOf, ↓Sl.r, ↓itemsOf, ↓slcD, ↓revD, ↓b1D, ↓b2D, ↓isNoneD, ↓noRefR, ↓noRef, ↓noRefs, ite_self, ↓isTy, ↓List.getElem?_cons_zero, ↓List.getElem?_cons_succ, ↓List.getElem?_nil, ↓Option.join_some, ↓Option.join_none, ↓Option.isSome_some, ↓Option.isSome_none, ↓List.set_cons_zero, ↓List.set_cons_succ, ↓List.replicate, ↓List.length_cons, ↓List.length_nil, ↓List.isEmpty_cons, ↓List.isEmpty_nil, ↓List.all_cons, ↓List.all_nil, ↓List.filterMap_cons, ↓List.filterMap_nil, ↓List.contains_cons, ↓List.contains_nil, ↓Bool.and_true, ↓Bool.true_and, ↓Bool.and_false, ↓Bool.false_and, ↓Bool.not_true, ↓Bool.not_false, ↓if_true, ↓sh_int, ↓sh_bool, ↓sh_none, ↓eqv_ii, ↓eqv_bb, ↓eqv_ss, ↓brn_true, ↓brn_false, brn_true, brn_false, ↓List.any_cons, ↓List.any_nil, ↓if_false, ↓ite_true, ↓ite_false, ↓true_and, ↓and_true, ↓Bool.false_eq_true, ↓reduceCtorEq, ↓decide_true, ↓decide_false, ↓List.map_cons, ↓List.map_nil, ↓Tg.slots, ↓List.nodup_cons, ↓List.nodup_nil, ↓List.not_mem_nil, ↓not_false_eq_true, ↓forall_const, ↓true_implies, ↓bI, Nat.reduceAdd, Nat.reduceSub, Nat.reduceEqDiff, Int.reduceLT, Int.reduceLE, Nat.reduceLT, Nat.reduceLeDiff, Int.reduceNeg, Nat.reduceBEq, ↓BEq.rfl, ↓beq_self_eq_true, ↓Bool.or_false, ↓Bool.or_true]
    refine stp_at h0 hlt fun v hv _ => ?_
    obtain ⟨y, hy, rfl⟩ := List.mem_map.mp hv
    simp -dsimp only [↓wpS, ↓wpE, ↓wpEs, ↓wpEs', ↓wpCs, ↓wpI, ↓callW, ↓okArgs, ↓sigOk, ↓inouts, ↓lents, ↓peeks, ↓peek, ↓pk, ↓slot, ↓setOwn, ↓setC, ↓freeze, ↓isOwn, ↓isIo, ↓slC, ↓isLst, ↓asV, ↓asS, ↓asVs, ↓asSs, ↓isT, ↓R.still, ↓setMany, ↓bindT, ↓wipeE, ↓unwipe, ↓binD, ↓intBin, ↓cmpD, ↓eqD, ↓ordD, ↓ordI, ↓startE, ↓endsOf, ↓ioOf, ↓newsOf, ↓Sl.r, ↓itemsOf, ↓slcD, ↓revD, ↓b1D, ↓b2D, ↓isNoneD, ↓noRefR, ↓noRef, ↓noRefs, ite_self, ↓isTy, ↓List.getElem?_cons_zero, ↓List.getElem?_cons_succ, ↓List.getElem?_nil, ↓Option.join_some, ↓Option.join_none, ↓Option.isSome_some, ↓Option.isSome_none, ↓List.set_cons_zero, ↓List.set_cons_succ, ↓List.replicate, ↓List.length_cons, ↓List.length_nil, ↓List.isEmpty_cons, ↓List.isEmpty_nil, ↓List.all_cons, ↓List.all_nil, ↓List.filterMap_cons, ↓List.filterMap_nil, ↓List.contains_cons, ↓List.contains_nil, ↓Bool.and_true, ↓Bool.true_and, ↓Bool.and_false, ↓Bool.false_and, ↓Bool.not_true, ↓Bool.not_false, ↓if_true, ↓sh_int, ↓sh_bool, ↓sh_none, ↓eqv_ii, ↓eqv_bb, ↓eqv_ss, ↓brn_true, ↓brn_false, brn_true, brn_false, ↓List.any_cons, ↓List.any_nil, ↓if_false, ↓ite_true, ↓ite_false, ↓true_and, ↓and_true, ↓Bool.false_eq_true, ↓reduceCtorEq, ↓decide_true, ↓decide_false, ↓List.map_cons, ↓List.map_nil, ↓Tg.slots, ↓List.nodup_cons, ↓List.nodup_nil, ↓List.not_mem_nil, ↓not_false_eq_true, ↓forall_const, ↓true_implies, ↓bI, Nat.reduceAdd, Nat.reduceSub, Nat.reduceEqDiff, Int.reduceLT, Int.reduceLE, Nat.reduceLT, Nat.reduceLeDiff, Int.reduceNeg, Nat.reduceBEq, ↓BEq.rfl, ↓beq_self_eq_true, ↓Bool.or_false, ↓Bool.or_true]
    refine ⟨_, ix_ok h0 hlt, next _ ⟨cs.set ((i : Int) % 12).toNat (y + c), some (.val (.int (i : Int))), some (.val (.int c)), by rw [List.map_set], .inl (by simp [h12])⟩⟩
  · rintro e ⟨cs, a, b, rfl, _⟩
    simp -dsimp only [↓wpS, ↓wpE, ↓wpEs, ↓wpEs', ↓wpCs, ↓wpI, ↓callW, ↓okArgs, ↓sigOk, ↓inouts, ↓lents, ↓peeks, ↓peek, ↓pk, ↓slot, ↓setOwn, ↓setC, ↓freeze, ↓isOwn, ↓isIo, ↓slC, ↓isLst, ↓asV, ↓asS, ↓asVs, ↓asSs, ↓isT, ↓R.still, ↓setMany, ↓bindT, ↓wipeE, ↓unwipe, ↓binD, ↓intBin, ↓cmpD, ↓eqD, ↓ordD, ↓ordI, ↓startE, ↓endsOf, ↓ioOf, ↓newsOf, ↓Sl.r, ↓itemsOf, ↓slcD, ↓revD, ↓b1D, ↓b2D, ↓isNoneD, ↓noRefR, ↓noRef, ↓noRefs, ite_self, ↓isTy, ↓List.getElem?_cons_zero, ↓List.getElem?_cons_succ, ↓List.getElem?_nil, ↓Option.join_some, ↓Option.join_none, ↓Option.isSome_some, ↓Option.isSome_none, ↓List.set_cons_zero, ↓List.set_cons_succ, ↓List.replicate, ↓List.length_cons, ↓List.length_nil, ↓List.isEmpty_cons, ↓List.isEmpty_nil, ↓List.all_cons, ↓List.all_nil, ↓List.filterMap_cons, ↓List.filterMap_nil, ↓List.contains_cons, ↓List.contains_nil, ↓Bool.and_true, ↓Bool.true_and, ↓Bool.and_false, ↓Bool.false_and, ↓Bool.not_true, ↓Bool.not_false, ↓if_true, ↓sh_int, ↓sh_bool, ↓sh_none, ↓eqv_ii, ↓eqv_bb, ↓eqv_ss, ↓brn_true, ↓brn_false, brn_true, brn_false, ↓List.any_cons, ↓List.any_nil, ↓if_false, ↓ite_true, ↓ite_false, ↓true_and, ↓and_true, ↓Bool.false_eq_true, ↓reduceCtorEq, ↓decide_true, ↓decide_false, ↓List.map_cons, ↓List.map_nil, ↓Tg.slots, ↓List.nodup_cons, ↓List.nodup_nil, ↓List.not_mem_nil, ↓not_false_eq_true, ↓forall_const, ↓true_implies, ↓bI, Nat.reduceAdd, Nat.reduceSub, Nat.reduceEqDiff, Int.reduceLT, Int.reduceLE, Nat.reduceLT, Nat.reduceLeDiff, Int.reduceNeg, Nat.reduceBEq, ↓BEq.rfl, ↓beq_self_eq_true, ↓Bool.or_false, ↓Bool.or_true]
    exact k _ ⟨cs, 0, 0, rfl, by decide, by decide, by decide⟩
def spreadSp : Spec := fun ds Q => ∃ c a : Int, ds = [.int c, .int a] ∧ 0 ≤ a ∧ a < 1000000 ∧ ∀ r, 0 ≤ r → Q (.val (.int r)) []
theorem spread_ok (Φ : Tbl) : Impl Φ [false, false] 6 f_law_spread spreadSp := by
  rintro ds Q ⟨c, a, rfl, h1, h2, k⟩ _
  unfold f_law_spread
  simp -dsimp only [↓wpS, ↓wpE, ↓wpEs, ↓wpEs', ↓wpCs, ↓wpI, ↓callW, ↓okArgs, ↓sigOk, ↓inouts, ↓lents, ↓peeks, ↓peek, ↓pk, ↓slot, ↓setOwn, ↓setC, ↓freeze, ↓isOwn, ↓isIo, ↓slC, ↓isLst, ↓asV, ↓asS, ↓asVs, ↓asSs, ↓isT, ↓R.still, ↓setMany, ↓bindT, ↓wipeE, ↓unwipe, ↓binD, ↓intBin, ↓cmpD, ↓eqD, ↓ordD, ↓ordI, ↓startE, ↓endsOf, ↓ioOf, ↓newsOf, ↓Sl.r, ↓itemsOf, ↓slcD, ↓revD, ↓b1D, ↓b2D, ↓isNoneD, ↓noRefR, ↓noRef, ↓noRefs, ite_self, ↓isTy, ↓List.getElem?_cons_zero, ↓List.getElem?_cons_succ, ↓List.getElem?_nil, ↓Option.join_some, ↓Option.join_none, ↓Option.isSome_some, ↓Option.isSome_none, ↓List.set_cons_zero, ↓List.set_cons_succ, ↓List.replicate, ↓List.length_cons, ↓List.length_nil, ↓List.isEmpty_cons, ↓List.isEmpty_nil, ↓List.all_cons, ↓List.all_nil, ↓List.filterMap_cons, ↓List.filterMap_nil, ↓List.contains_cons, ↓List.contains_nil, ↓Bool.and_true, ↓Bool.true_and, ↓Bool.and_false, ↓Bool.false_and, ↓Bool.not_true, ↓Bool.not_false, ↓if_true, ↓sh_int, ↓sh_bool, ↓sh_none, ↓eqv_ii, ↓eqv_bb, ↓eqv_ss, ↓brn_true, ↓brn_false, brn_true, brn_false, ↓List.any_cons, ↓List.any_nil, ↓if_false, ↓ite_true, ↓ite_false, ↓true_and, ↓and_true, ↓Bool.false_eq_true, ↓reduceCtorEq, ↓decide_true, ↓decide_false, ↓List.map_cons, ↓List.map_nil, ↓Tg.slots, ↓List.nodup_cons, ↓List.nodup_nil, ↓List.not_mem_nil, ↓not_false_eq_true, ↓forall_const, ↓true_implies, ↓bI, Nat.reduceAdd, Nat.reduceSub, Nat.reduceEqDiff, Int.reduceLT, Int.reduceLE, Nat.reduceLT, Nat.reduceLeDiff, Int.reduceNeg, Nat.reduceBEq, ↓BEq.rfl, ↓beq_self_eq_true, ↓Bool.or_false, ↓Bool.or_true]
  refine ⟨⟨by decide, by decide, by decide⟩, brn_of (fun hb => ?_) (fun hb => ?_)⟩
  · simp -dsimp only [↓wpS, ↓wpE, ↓wpEs, ↓wpEs', ↓wpCs, ↓wpI, ↓callW, ↓okArgs, ↓sigOk, ↓inouts, ↓lents, ↓peeks, ↓peek, ↓pk, ↓slot, ↓setOwn, ↓setC, ↓freeze, ↓isOwn, ↓isIo, ↓slC, ↓isLst, ↓asV, ↓asS, ↓asVs, ↓asSs, ↓isT, ↓R.still, ↓setMany, ↓bindT, ↓wipeE, ↓unwipe, ↓binD, ↓intBin, ↓cmpD, ↓eqD, ↓ordD, ↓ordI, ↓startE, ↓endsOf, ↓ioOf, ↓newsOf, ↓Sl.r, ↓itemsOf, ↓slcD, ↓revD, ↓b1D, ↓b2D, ↓isNoneD, ↓noRefR, ↓noRef, ↓noRefs, ite_self, ↓isTy, ↓List.getElem?_cons_zero, ↓List.getElem?_cons_succ, ↓List.getElem?_nil, ↓Option.join_some, ↓Option.join_none, ↓Option.isSome_some, ↓Option.isSome_none, ↓List.set_cons_zero, ↓List.set_cons_succ, ↓List.replicate, ↓List.length_cons, ↓List.length_nil, ↓List.isEmpty_cons, ↓List.isEmpty_nil, ↓List.all_cons, ↓List.all_nil, ↓List.filterMap_cons, ↓List.filterMap_nil, ↓List.contains_cons, ↓List.contains_nil, ↓Bool.and_true, ↓Bool.true_and, ↓Bool.and_false, ↓Bool.false_and, ↓Bool.not_true, ↓Bool.not_false, ↓if_true, ↓sh_int, ↓sh_bool, ↓sh_none, ↓eqv_ii, ↓eqv_bb, ↓eqv_ss, ↓brn_true, ↓brn_false, brn_true, brn_false, ↓List.any_cons, ↓List.any_nil, ↓if_false, ↓ite_true, ↓ite_false, ↓true_and, ↓and_true, ↓Bool.false_eq_true, ↓reduceCtorEq, ↓decide_true, ↓decide_false, ↓List.map_cons, ↓List.map_nil, ↓Tg.slots, ↓List.nodup_cons, ↓List.nodup_nil, ↓List.not_mem_nil, ↓not_false_eq_true, ↓forall_const, ↓true_implies, ↓bI, Nat.reduceAdd, Nat.reduceSub, Nat.reduceEqDiff, Int.reduceLT, Int.reduceLE, Nat.reduceLT, Nat.reduceLeDiff, Int.reduceNeg, Nat.reduceBEq, ↓BEq.rfl, ↓beq_self_eq_true, ↓Bool.or_false, ↓Bool.or_true]
    exact k c (by simp at hb; omega)
  · have hpr : ∀ v ∈ [2147483629, 2147483587, 2147483579, 2147483563, 2147483549, 2147483543, 2147483497, 2147483489, 2147483477, 2147483423, 2147483399, 2147483353, 2147483323].map PyData.int, ∃ p : Int, v = .int p ∧ 2147483323 ≤ p ∧ p ≤ 2147483629 := by
      intro v hv
      obtain ⟨p, hp, rfl⟩ := List.mem_map.mp hv
      refine ⟨p, rfl, ?_⟩
      clear hv
      revert p
      decide
    have hc : 0 ≤ c % 1000000007 ∧ c % 1000000007 < 1000000007 := by omega
    have hone : 0 ≤ c % 1000000007 * (2 * a + 69069) + a * 40503 + 977 ∧ c % 1000000007 * (2 * a + 69069) + a * 40503 + 977 < 2 ^ 63 := by
      have h3 := Int.mul_nonneg hc.1 (show 0 ≤ 2 * a + 69069 by omega)
      have h4 : c % 1000000007 * (2 * a + 69069) ≤ 1000000007 * 2069069 := Int.mul_le_mul (by omega) (by omega) (by omega) (by omega)
      omega
    generalize hog : c % 1000000007 * (2 * a + 69069) + a * 40503 + 977 = one at hone
    simp -dsimp only [↓wpS, ↓wpE, ↓wpEs, ↓wpEs', ↓wpCs, ↓wpI, ↓callW, ↓okArgs, ↓sigOk, ↓inouts, ↓lents, ↓peeks, ↓peek, ↓pk, ↓slot, ↓setOwn, ↓setC, ↓freeze, ↓isOwn, ↓isIo, ↓slC, ↓isLst, ↓asV, ↓asS, ↓asVs, ↓asSs, ↓isT, ↓R.still, ↓setMany, ↓bindT, ↓wipeE, ↓unwipe, ↓binD, ↓intBin, ↓cmpD, ↓eqD, ↓ordD, ↓ordI, ↓startE, ↓endsOf, ↓ioOf, ↓newsOf, ↓Sl.r, ↓itemsOf, ↓slcD, ↓revD, ↓b1D, ↓b2D, ↓isNoneD, ↓noRefR, ↓noRef, ↓noRefs, ite_self, ↓isTy, ↓List.getElem?_cons_zero, ↓List.getElem?_cons_succ, ↓List.getElem?_nil, ↓Option.join_some, ↓Option.join_none, ↓Option.isSome_some, ↓Option.isSome_none, ↓List.set_cons_zero, ↓List.set_cons_succ, ↓List.replicate, ↓List.length_cons, ↓List.length_nil, ↓List.isEmpty_cons, ↓List.isEmpty_nil, ↓List.all_cons, ↓List.all_nil, ↓List.filterMap_cons, ↓List.filterMap_nil, ↓List.contains_cons, ↓List.contains_nil, ↓Bool.and_true, ↓Bool.true_and, ↓Bool.and_false, ↓Bool.false_and, ↓Bool.not_true, ↓Bool.not_false, ↓if_true, ↓sh_int, ↓sh_bool, ↓sh_none, ↓eqv_ii, ↓eqv_bb, ↓eqv_ss, ↓brn_true, ↓brn_false, brn_true, brn_false, ↓List.any_cons, ↓List.any_nil, ↓if_false, ↓ite_true, ↓ite_false, ↓true_and, ↓and_true, ↓Bool.false_eq_true, ↓reduceCtorEq, ↓decide_true, ↓decide_false, ↓List.map_cons, ↓List.map_nil, ↓Tg.slots, ↓List.nodup_cons, ↓List.nodup_nil, ↓List.not_mem_nil, ↓not_false_eq_true, ↓forall_const, ↓true_implies, ↓bI, Nat.reduceAdd, Nat.reduceSub, Nat.reduceEqDiff, Int.reduceLT, Int.reduceLE, Nat.reduceLT, Nat.reduceLeDiff, Int.reduceNeg, Nat.reduceBEq, ↓BEq.rfl, ↓beq_self_eq_true, ↓Bool.or_false, ↓Bool.or_true]
    refine ⟨by decide, .inl (by omega), .inl (by omega), .inr (by omega), ?_⟩
    rw [hog]
    refine ⟨⟨by decide, by decide, by omega⟩, stp_at (by omega) (by simp; omega) fun v hv _ => ?_⟩
    obtain ⟨p, rfl, p1, p2⟩ := hpr v (by simpa using hv)
    clear hv
    have ho1 : 0 ≤ one ^ Int.toNat 3 % p ∧ one ^ Int.toNat 3 % p < p := ⟨Int.emod_nonneg _ (by omega), Int.emod_lt_of_pos _ (by omega)⟩
    simp -dsimp only [↓wpS, ↓wpE, ↓wpEs, ↓wpEs', ↓wpCs, ↓wpI, ↓callW, ↓okArgs, ↓sigOk, ↓inouts, ↓lents, ↓peeks, ↓peek, ↓pk, ↓slot, ↓setOwn, ↓setC, ↓freeze, ↓isOwn, ↓isIo, ↓slC, ↓isLst, ↓asV, ↓asS, ↓asVs, ↓asSs, ↓isT, ↓R.still, ↓setMany, ↓bindT, ↓wipeE, ↓unwipe, ↓binD, ↓intBin, ↓cmpD, ↓eqD, ↓ordD, ↓ordI, ↓startE, ↓endsOf, ↓ioOf, ↓newsOf, ↓Sl.r, ↓itemsOf, ↓slcD, ↓revD, ↓b1D, ↓b2D, ↓isNoneD, ↓noRefR, ↓noRef, ↓noRefs, ite_self, ↓isTy, ↓List.getElem?_cons_zero, ↓List.getElem?_cons_succ, ↓List.getElem?_nil, ↓Option.join_some, ↓Option.join_none, ↓Option.isSome_some, ↓Option.isSome_none, ↓List.set_cons_zero, ↓List.set_cons_succ, ↓List.replicate, ↓List.length_cons, ↓List.length_nil, ↓List.isEmpty_cons, ↓List.isEmpty_nil, ↓List.all_cons, ↓List.all_nil, ↓List.filterMap_cons, ↓List.filterMap_nil, ↓List.contains_cons, ↓List.contains_nil, ↓Bool.and_true, ↓Bool.true_and, ↓Bool.and_false, ↓Bool.false_and, ↓Bool.not_true, ↓Bool.not_false, ↓if_true, ↓sh_int, ↓sh_bool, ↓sh_none, ↓eqv_ii, ↓eqv_bb, ↓eqv_ss, ↓brn_true, ↓brn_false, brn_true, brn_false, ↓List.any_cons, ↓List.any_nil, ↓if_false, ↓ite_true, ↓ite_false, ↓true_and, ↓and_true, ↓Bool.false_eq_true, ↓reduceCtorEq, ↓decide_true, ↓decide_false, ↓List.map_cons, ↓List.map_nil, ↓Tg.slots, ↓List.nodup_cons, ↓List.nodup_nil, ↓List.not_mem_nil, ↓not_false_eq_true, ↓forall_const, ↓true_implies, ↓bI, Nat.reduceAdd, Nat.reduceSub, Nat.reduceEqDiff, Int.reduceLT, Int.reduceLE, Nat.reduceLT, Nat.reduceLeDiff, Int.reduceNeg, Nat.reduceBEq, ↓BEq.rfl, ↓beq_self_eq_true, ↓Bool.or_false, ↓Bool.or_true]
    generalize one ^ Int.toNat 3 % p = o1 at ho1 ⊢
    have ht2 : 0 ≤ o1 * (a + 3) + c % 65537 + 5 ∧ o1 * (a + 3) + c % 65537 + 5 < 2 ^ 63 := by
      have h3 := Int.mul_nonneg ho1.1 (show 0 ≤ a + 3 by omega)
      have h4 : o1 * (a + 3) ≤ 2147483629 * 1000003 := Int.mul_le_mul (by omega) (by omega) (by omega) (by omega)
      omega
    refine ⟨by omega, .inl (by omega), ⟨by decide, by decide, by omega⟩, stp_at (by omega) (by simp; omega) fun v hv _ => ?_⟩
    obtain ⟨p', rfl, p1', p2'⟩ := hpr v (by simpa using hv)
    clear hv
    have ho2 : 0 ≤ (o1 * (a + 3) + c % 65537 + 5) ^ Int.toNat 5 % p' ∧ (o1 * (a + 3) + c % 65537 + 5) ^ Int.toNat 5 % p' < p' := ⟨Int.emod_nonneg _ (by omega), Int.emod_lt_of_pos _ (by omega)⟩
    simp -dsimp only [↓wpS, ↓wpE, ↓wpEs, ↓wpEs', ↓wpCs, ↓wpI, ↓callW, ↓okArgs, ↓sigOk, ↓inouts, ↓lents, ↓peeks, ↓peek, ↓pk, ↓slot, ↓setOwn, ↓setC, ↓freeze, ↓isOwn, ↓isIo, ↓slC, ↓isLst, ↓asV, ↓asS, ↓asVs, ↓asSs, ↓isT, ↓R.still, ↓setMany, ↓bindT, ↓wipeE, ↓unwipe, ↓binD, ↓intBin, ↓cmpD, ↓eqD, ↓ordD, ↓ordI, ↓startE, ↓endsOf, ↓ioOf, ↓newsOf, ↓Sl.r, ↓itemsOf, ↓slcD, ↓revD, ↓b1D, ↓b2D, ↓isNoneD, ↓noRefR, ↓noRef, ↓noRefs, ite_self, ↓isTy, ↓List.getElem?_cons_zero, ↓List.getElem?_cons_succ, ↓List.getElem?_nil, ↓Option.join_some, ↓Option.join_none, ↓Option.isSome_some, ↓Option.isSome_none, ↓List.set_cons_zero, ↓List.set_cons_succ, ↓List.replicate, ↓List.length_cons, ↓List.length_nil, ↓List.isEmpty_cons, ↓List.isEmpty_nil, ↓List.all_cons, ↓List.all_nil, ↓List.filterMap_cons, ↓List.filterMap_nil, ↓List.contains_cons, ↓List.contains_nil, ↓Bool.and_true, ↓Bool.true_and, ↓Bool.and_false, ↓Bool.false_and, ↓Bool.not_true, ↓Bool.not_false, ↓if_true, ↓sh_int, ↓sh_bool, ↓sh_none, ↓eqv_ii, ↓eqv_bb, ↓eqv_ss, ↓brn_true, ↓brn_false, brn_true, brn_false, ↓List.any_cons, ↓List.any_nil, ↓if_false, ↓ite_true, ↓ite_false, ↓true_and, ↓and_true, ↓Bool.false_eq_true, ↓reduceCtorEq, ↓decide_true, ↓decide_false, ↓List.map_cons, ↓List.map_nil, ↓Tg.slots, ↓List.nodup_cons, ↓List.nodup_nil, ↓List.not_mem_nil, ↓not_false_eq_true, ↓forall_const, ↓true_implies, ↓bI, Nat.reduceAdd, Nat.reduceSub, Nat.reduceEqDiff, Int.reduceLT, Int.reduceLE, Nat.reduceLT, Nat.reduceLeDiff, Int.reduceNeg, Nat.reduceBEq, ↓BEq.rfl, ↓beq_self_eq_true, ↓Bool.or_false, ↓Bool.or_true]
    generalize (o1 * (a + 3) + c % 65537 + 5) ^ Int.toNat 5 % p' = o2 at ho2 ⊢
    refine ⟨by omega, ⟨by decide, by decide, by omega⟩, stp_at (by omega) (by simp; omega) fun v hv _ => ?_⟩
    obtain ⟨p'', rfl, p1'', p2''⟩ := hpr v (by simpa using hv)
    clear hv
    have ho3 : 0 ≤ (o2 + o1 % 1009 + a) ^ Int.toNat 3 % p'' ∧ (o2 + o1 % 1009 + a) ^ Int.toNat 3 % p'' < p'' := ⟨Int.emod_nonneg _ (by omega), Int.emod_lt_of_pos _ (by omega)⟩
    simp -dsimp only [↓wpS, ↓wpE, ↓wpEs, ↓wpEs', ↓wpCs, ↓wpI, ↓callW, ↓okArgs, ↓sigOk, ↓inouts, ↓lents, ↓peeks, ↓peek, ↓pk, ↓slot, ↓setOwn, ↓setC, ↓freeze, ↓isOwn, ↓isIo, ↓slC, ↓isLst, ↓asV, ↓asS, ↓asVs, ↓asSs, ↓isT, ↓R.still, ↓setMany, ↓bindT, ↓wipeE, ↓unwipe, ↓binD, ↓intBin, ↓cmpD, ↓eqD, ↓ordD, ↓ordI, ↓startE, ↓endsOf, ↓ioOf, ↓newsOf, ↓Sl.r, ↓itemsOf, ↓slcD, ↓revD, ↓b1D, ↓b2D, ↓isNoneD, ↓noRefR, ↓noRef, ↓noRefs, ite_self, ↓isTy, ↓List.getElem?_cons_zero, ↓List.getElem?_cons_succ, ↓List.getElem?_nil, ↓Option.join_some, ↓Option.join_none, ↓Option.isSome_some, ↓Option.isSome_none, ↓List.set_cons_zero, ↓List.set_cons_succ, ↓List.replicate, ↓List.length_cons, ↓List.length_nil, ↓List.isEmpty_cons, ↓List.isEmpty_nil, ↓List.all_cons, ↓List.all_nil, ↓List.filterMap_cons, ↓List.filterMap_nil, ↓List.contains_cons, ↓List.contains_nil, ↓Bool.and_true, ↓Bool.true_and, ↓Bool.and_false, ↓Bool.false_and, ↓Bool.not_true, ↓Bool.not_false, ↓if_true, ↓sh_int, ↓sh_bool, ↓sh_none, ↓eqv_ii, ↓eqv_bb, ↓eqv_ss, ↓brn_true, ↓brn_false, brn_true, brn_false, ↓List.any_cons, ↓List.any_nil, ↓if_false, ↓ite_true, ↓ite_false, ↓true_and, ↓and_true, ↓Bool.false_eq_true, ↓reduceCtorEq, ↓decide_true, ↓decide_false, ↓List.map_cons, ↓List.map_nil, ↓Tg.slots, ↓List.nodup_cons, ↓List.nodup_nil, ↓List.not_mem_nil, ↓not_false_eq_true, ↓forall_const, ↓true_implies, ↓bI, Nat.reduceAdd, Nat.reduceSub, Nat.reduceEqDiff, Int.reduceLT, Int.reduceLE, Nat.reduceLT, Nat.reduceLeDiff, Int.reduceNeg, Nat.reduceBEq, ↓BEq.rfl, ↓beq_self_eq_true, ↓Bool.or_false, ↓Bool.or_true]
    generalize (o2 + o1 % 1009 + a) ^ Int.toNat 3 % p'' = o3 at ho3 ⊢
    refine ⟨by omega, .inr (by omega), .inr (by omega), k _ (by omega)⟩
theorem take_ok (Φ : Tbl) (h : Φ "_law_spread" = spreadSp) : Impl Φ [true, false] 5 f_law_take takeSp := by
  rintro ds Q ⟨t, pen, n, rfl, ⟨cells, at_, num, rfl, h1, h2, h3⟩, ht, hn, hn2, k⟩ _
  unfold f_law_take
  refine wps_seq (fun e => ∃ (a num' : Int) (e2 e3 e4 : Option Sl), e = [some (.io (.list [.list (cells.map .int), .int a, .int num'])), some (.val (.int n)), e2, e3, e4] ∧ 0 ≤ a ∧ a ≤ ((t + 1 : Nat) : Int) ∧ 0 ≤ num') (fun N next => ?_) ?_
  · simp -dsimp only [↓wpS, ↓wpE, ↓wpEs, ↓wpEs', ↓wpCs, ↓wpI, ↓callW, ↓okArgs, ↓sigOk, ↓inouts, ↓lents, ↓peeks, ↓peek, ↓pk, ↓slot, ↓setOwn, ↓setC, ↓freeze, ↓isOwn, ↓isIo, ↓slC, ↓isLst, ↓asV, ↓asS, ↓asVs, ↓asSs, ↓isT, ↓R.still, ↓setMany, ↓bindT, ↓wipeE, ↓unwipe, ↓binD, ↓intBin, ↓cmpD, ↓eqD, ↓ordD, ↓ordI, ↓startE, ↓endsOf, ↓ioOf, ↓newsOf, ↓Sl.r, ↓itemsOf, ↓slcD, ↓revD, ↓b1D, ↓b2D, ↓isNoneD, ↓noRefR, ↓noRef, ↓noRefs, ite_self, ↓isTy, ↓List.getElem?_cons_zero, ↓List.getElem?_cons_succ, ↓List.getElem?_nil, ↓Option.join_some, ↓Option.join_none, ↓Option.isSome_some, ↓Option.isSome_none, ↓List.set_cons_zero, ↓List.set_cons_succ, ↓List.replicate, ↓List.length_cons, ↓List.length_nil, ↓List.isEmpty_cons, ↓List.isEmpty_nil, ↓List.all_cons, ↓List.all_nil, ↓List.filterMap_cons, ↓List.filterMap_nil, ↓List.contains_cons, ↓List.contains_nil, ↓Bool.and_true, ↓Bool.true_and, ↓Bool.and_false, ↓Bool.false_and, ↓Bool.not_true, ↓Bool.not_false, ↓if_true, ↓sh_int, ↓sh_bool, ↓sh_none, ↓eqv_ii, ↓eqv_bb, ↓eqv_ss, ↓brn_true, ↓brn_false, brn_true, brn_false, ↓List.any_cons, ↓List.any_nil, ↓if_false, ↓ite_true, ↓ite_false, ↓true_and, ↓and_true, ↓Bool.false_eq_true, ↓reduceCtorEq, ↓decide_true, ↓decide_false, ↓List.map_cons, ↓List.map_nil, ↓Tg.slots, ↓List.nodup_cons, ↓List.nodup_nil, ↓List.not_mem_nil, ↓not_false_eq_true, ↓forall_const, ↓true_implies, ↓bI, Nat.reduceAdd, Nat.reduceSub, Nat.reduceEqDiff, Int.reduceLT, Int.reduceLE, Nat.reduceLT, Nat.reduceLeDiff, Int.reduceNeg, Nat.reduceBEq, ↓BEq.rfl, ↓beq_self_eq_true, ↓Bool.or_false, ↓Bool.or_true]
    refine stp_n (n := 2) rfl ?_
    simp -dsimp only [↓wpS, ↓wpE, ↓wpEs, ↓wpEs', ↓wpCs, ↓wpI, ↓callW, ↓okArgs, ↓sigOk, ↓inouts, ↓lents, ↓peeks, ↓peek, ↓pk, ↓slot, ↓setOwn, ↓setC, ↓freeze, ↓isOwn, ↓isIo, ↓slC, ↓isLst, ↓asV, ↓asS, ↓asVs, ↓asSs, ↓isT, ↓R.still, ↓setMany, ↓bindT, ↓wipeE, ↓unwipe, ↓binD, ↓intBin, ↓cmpD, ↓eqD, ↓ordD, ↓ordI, ↓startE, ↓endsOf, ↓ioOf, ↓newsOf, ↓Sl.r, ↓itemsOf, ↓slcD, ↓revD, ↓b1D, ↓b2D, ↓isNoneD, ↓noRefR, ↓noRef, ↓noRefs, ite_self, ↓isTy, ↓List.getElem?_cons_zero, ↓List.getElem?_cons_succ, ↓List.getElem?_nil, ↓Option.join_some, ↓Option.join_none, ↓Option.isSome_some, ↓Option.isSome_none, ↓List.set_cons_zero, ↓List.set_cons_succ, ↓List.replicate, ↓List.length_cons, ↓List.length_nil, ↓List.isEmpty_cons, ↓List.isEmpty_nil, ↓List.all_cons, ↓List.all_nil, ↓List.filterMap_cons, ↓List.filterMap_nil, ↓List.contains_cons, ↓List.contains_nil, ↓Bool.and_true, ↓Bool.true_and, ↓Bool.and_false, ↓Bool.false_and, ↓Bool.not_true, ↓Bool.not_false, ↓if_true, ↓sh_int, ↓sh_bool, ↓sh_none, ↓eqv_ii, ↓eqv_bb, ↓eqv_ss, ↓brn_true, ↓brn_false, brn_true, brn_false, ↓List.any_cons, ↓List.any_nil, ↓if_false, ↓ite_true, ↓ite_false, ↓true_and, ↓and_true, ↓Bool.false_eq_true, ↓reduceCtorEq, ↓decide_true, ↓decide_false, ↓List.map_cons, ↓List.map_nil, ↓Tg.slots, ↓List.nodup_cons, ↓List.nodup_nil, ↓List.not_mem_nil, ↓not_false_eq_true, ↓forall_const, ↓true_implies, ↓bI, Nat.reduceAdd, Nat.reduceSub, Nat.reduceEqDiff, Int.reduceLT, Int.reduceLE, Nat.reduceLT, Nat.reduceLeDiff, Int.reduceNeg, Nat.reduceBEq, ↓BEq.rfl, ↓beq_self_eq_true, ↓Bool.or_false, ↓Bool.or_true]
    refine brn_of (fun hb => ?_) (fun hb => ?_)
    · simp -dsimp only [↓wpS, ↓wpE, ↓wpEs, ↓wpEs', ↓wpCs, ↓wpI, ↓callW, ↓okArgs, ↓sigOk, ↓inouts, ↓lents, ↓peeks, ↓peek, ↓pk, ↓slot, ↓setOwn, ↓setC, ↓freeze, ↓isOwn, ↓isIo, ↓slC, ↓isLst, ↓asV, ↓asS, ↓asVs, ↓asSs, ↓isT, ↓R.still, ↓setMany, ↓bindT, ↓wipeE, ↓unwipe, ↓binD, ↓intBin, ↓cmpD, ↓eqD, ↓ordD, ↓ordI, ↓startE, ↓endsOf, ↓ioOf, ↓newsOf, ↓Sl.r, ↓itemsOf, ↓slcD, ↓revD, ↓b1D, ↓b2D, ↓isNoneD, ↓noRefR, ↓noRef, ↓noRefs, ite_self, ↓isTy, ↓List.getElem?_cons_zero, ↓List.getElem?_cons_succ, ↓List.getElem?_nil, ↓Option.join_some, ↓Option.join_none, ↓Option.isSome_some, ↓Option.isSome_none, ↓List.set_cons_zero, ↓List.set_cons_succ, ↓List.replicate, ↓List.length_cons, ↓List.length_nil, ↓List.isEmpty_cons, ↓List.isEmpty_nil, ↓List.all_cons, ↓List.all_nil, ↓List.filterMap_cons, ↓List.filterMap_nil, ↓List.contains_cons, ↓List.contains_nil, ↓Bool.and_true, ↓Bool.true_and, ↓Bool.and_false, ↓Bool.false_and, ↓Bool.not_true, ↓Bool.not_false, ↓if_true, ↓sh_int, ↓sh_bool, ↓sh_none, ↓eqv_ii, ↓eqv_bb, ↓eqv_ss, ↓brn_true, ↓brn_false, brn_true, brn_false, ↓List.any_cons, ↓List.any_nil, ↓if_false, ↓ite_true, ↓ite_false, ↓true_and, ↓and_true, ↓Bool.false_eq_true, ↓reduceCtorEq, ↓decide_true, ↓decide_false, ↓List.map_cons, ↓List.map_nil, ↓Tg.slots, ↓List.nodup_cons, ↓List.nodup_nil, ↓List.not_mem_nil, ↓not_false_eq_true, ↓forall_const, ↓true_implies, ↓bI, Nat.reduceAdd, Nat.reduceSub, Nat.reduceEqDiff, Int.reduceLT, Int.reduceLE, Nat.reduceLT, Nat.reduceLeDiff, Int.reduceNeg, Nat.reduceBEq, ↓BEq.rfl, ↓beq_self_eq_true, ↓Bool.or_false, ↓Bool.or_true]
      refine stp_n (n := 1) rfl ?_
      simp -dsimp only [↓wpS, ↓wpE, ↓wpEs, ↓wpEs', ↓wpCs, ↓wpI, ↓callW, ↓okArgs, ↓sigOk, ↓inouts, ↓lents, ↓peeks, ↓peek, ↓pk, ↓slot, ↓setOwn, ↓setC, ↓freeze, ↓isOwn, ↓isIo, ↓slC, ↓isLst, ↓asV, ↓asS, ↓asVs, ↓asSs, ↓isT, ↓R.still, ↓setMany, ↓bindT, ↓wipeE, ↓unwipe, ↓binD, ↓intBin, ↓cmpD, ↓eqD, ↓ordD, ↓ordI, ↓startE, ↓endsOf, ↓ioOf, ↓newsOf, ↓Sl.r, ↓itemsOf, ↓slcD, ↓revD, ↓b1D, ↓b2D, ↓isNoneD, ↓noRefR, ↓noRef, ↓noRefs, ite_self, ↓isTy, ↓List.getElem?_cons_zero, ↓List.getElem?_cons_succ, ↓List.getElem?_nil, ↓Option.join_some, ↓Option.join_none, ↓Option.isSome_some, ↓Option.isSome_none, ↓List.set_cons_zero, ↓List.set_cons_succ, ↓List.replicate, ↓List.length_cons, ↓List.length_nil, ↓List.isEmpty_cons, ↓List.isEmpty_nil, ↓List.all_cons, ↓List.all_nil, ↓List.filterMap_cons, ↓List.filterMap_nil, ↓List.contains_cons, ↓List.contains_nil, ↓Bool.and_true, ↓Bool.true_and, ↓Bool.and_false, ↓Bool.false_and, ↓Bool.not_true, ↓Bool.not_false, ↓if_true, ↓sh_int, ↓sh_bool, ↓sh_none, ↓eqv_ii, ↓eqv_bb, ↓eqv_ss, ↓brn_true, ↓brn_false, brn_true, brn_false, ↓List.any_cons, ↓List.any_nil, ↓if_false, ↓ite_true, ↓ite_false, ↓true_and, ↓and_true, ↓Bool.false_eq_true, ↓reduceCtorEq, ↓decide_true, ↓decide_false, ↓List.map_cons, ↓List.map_nil, ↓Tg.slots, ↓List.nodup_cons, ↓List.nodup_nil, ↓List.not_mem_nil, ↓not_false_eq_true, ↓forall_const, ↓true_implies, ↓bI, Nat.reduceAdd, Nat.reduceSub, Nat.reduceEqDiff, Int.reduceLT, Int.reduceLE, Nat.reduceLT, Nat.reduceLeDiff, Int.reduceNeg, Nat.reduceBEq, ↓BEq.rfl, ↓beq_self_eq_true, ↓Bool.or_false, ↓Bool.or_true]
      refine stp_n (n := 0) rfl ?_
      simp -dsimp only [↓wpS, ↓wpE, ↓wpEs, ↓wpEs', ↓wpCs, ↓wpI, ↓callW, ↓okArgs, ↓sigOk, ↓inouts, ↓lents, ↓peeks, ↓peek, ↓pk, ↓slot, ↓setOwn, ↓setC, ↓freeze, ↓isOwn, ↓isIo, ↓slC, ↓isLst, ↓asV, ↓asS, ↓asVs, ↓asSs, ↓isT, ↓R.still, ↓setMany, ↓bindT, ↓wipeE, ↓unwipe, ↓binD, ↓intBin, ↓cmpD, ↓eqD, ↓ordD, ↓ordI, ↓startE, ↓endsOf, ↓ioOf, ↓newsOf, ↓Sl.r, ↓itemsOf, ↓slcD, ↓revD, ↓b1D, ↓b2D, ↓isNoneD, ↓noRefR, ↓noRef, ↓noRefs, ite_self, ↓isTy, ↓List.getElem?_cons_zero, ↓List.getElem?_cons_succ, ↓List.getElem?_nil, ↓Option.join_some, ↓Option.join_none, ↓Option.isSome_some, ↓Option.isSome_none, ↓List.set_cons_zero, ↓List.set_cons_succ, ↓List.replicate, ↓List.length_cons, ↓List.length_nil, ↓List.isEmpty_cons, ↓List.isEmpty_nil, ↓List.all_cons, ↓List.all_nil, ↓List.filterMap_cons, ↓List.filterMap_nil, ↓List.contains_cons, ↓List.contains_nil, ↓Bool.and_true, ↓Bool.true_and, ↓Bool.and_false, ↓Bool.false_and, ↓Bool.not_true, ↓Bool.not_false, ↓if_true, ↓sh_int, ↓sh_bool, ↓sh_none, ↓eqv_ii, ↓eqv_bb, ↓eqv_ss, ↓brn_true, ↓brn_false, brn_true, brn_false, ↓List.any_cons, ↓List.any_nil, ↓if_false, ↓ite_true, ↓ite_false, ↓true_and, ↓and_true, ↓Bool.false_eq_true, ↓reduceCtorEq, ↓decide_true, ↓decide_false, ↓List.map_cons, ↓List.map_nil, ↓Tg.slots, ↓List.nodup_cons, ↓List.nodup_nil, ↓List.not_mem_nil, ↓not_false_eq_true, ↓forall_const, ↓true_implies, ↓bI, Nat.reduceAdd, Nat.reduceSub, Nat.reduceEqDiff, Int.reduceLT, Int.reduceLE, Nat.reduceLT, Nat.reduceLeDiff, Int.reduceNeg, Nat.reduceBEq, ↓BEq.rfl, ↓beq_self_eq_true, ↓Bool.or_false, ↓Bool.or_true]
      refine brn_of (fun hb => ?_) (fun hb => ?_)
      · simp -dsimp only [↓wpS, ↓wpE, ↓wpEs, ↓wpEs', ↓wpCs, ↓wpI, ↓callW, ↓okArgs, ↓sigOk, ↓inouts, ↓lents, ↓peeks, ↓peek, ↓pk, ↓slot, ↓setOwn, ↓setC, ↓freeze, ↓isOwn, ↓isIo, ↓slC, ↓isLst, ↓asV, ↓asS, ↓asVs, ↓asSs, ↓isT, ↓R.still, ↓setMany, ↓bindT, ↓wipeE, ↓unwipe, ↓binD, ↓intBin, ↓cmpD, ↓eqD, ↓ordD, ↓ordI, ↓startE, ↓endsOf, ↓ioOf, ↓newsOf, ↓Sl.r, ↓itemsOf, ↓slcD, ↓revD, ↓b1D, ↓b2D, ↓isNoneD, ↓noRefR, ↓noRef, ↓noRefs, ite_self, ↓isTy, ↓List.getElem?_cons_zero, ↓List.getElem?_cons_succ, ↓List.getElem?_nil, ↓Option.join_some, ↓Option.join_none, ↓Option.isSome_some, ↓Option.isSome_none, ↓List.set_cons_zero, ↓List.set_cons_succ, ↓List.replicate, ↓List.length_cons, ↓List.length_nil, ↓List.isEmpty_cons, ↓List.isEmpty_nil, ↓List.all_cons, ↓List.all_nil, ↓List.filterMap_cons, ↓List.filterMap_nil, ↓List.contains_cons, ↓List.contains_nil, ↓Bool.and_true, ↓Bool.true_and, ↓Bool.and_false, ↓Bool.false_and, ↓Bool.not_true, ↓Bool.not_false, ↓if_true, ↓sh_int, ↓sh_bool, ↓sh_none, ↓eqv_ii, ↓eqv_bb, ↓eqv_ss, ↓brn_true, ↓brn_false, brn_true, brn_false, ↓List.any_cons, ↓List.any_nil, ↓if_false, ↓ite_true, ↓ite_false, ↓true_and, ↓and_true, ↓Bool.false_eq_true, ↓reduceCtorEq, ↓decide_true, ↓decide_false, ↓List.map_cons, ↓List.map_nil, ↓Tg.slots, ↓List.nodup_cons, ↓List.nodup_nil, ↓List.not_mem_nil, ↓not_false_eq_true, ↓forall_const, ↓true_implies, ↓bI, Nat.reduceAdd, Nat.reduceSub, Nat.reduceEqDiff, Int.reduceLT, Int.reduceLE, Nat.reduceLT, Nat.reduceLeDiff, Int.reduceNeg, Nat.reduceBEq, ↓BEq.rfl, ↓beq_self_eq_true, ↓Bool.or_false, ↓Bool.or_true]
        refine stp_n (n := 0) rfl ?_
        simp -dsimp only [↓wpS, ↓wpE, ↓wpEs, ↓wpEs', ↓wpCs, ↓wpI, ↓callW, ↓okArgs, ↓sigOk, ↓inouts, ↓lents, ↓peeks, ↓peek, ↓pk, ↓slot, ↓setOwn, ↓setC, ↓freeze, ↓isOwn, ↓isIo, ↓slC, ↓isLst, ↓asV, ↓asS, ↓asVs, ↓asSs, ↓isT, ↓R.still, ↓setMany, ↓bindT, ↓wipeE, ↓unwipe, ↓binD, ↓intBin, ↓cmpD, ↓eqD, ↓ordD, ↓ordI, ↓startE, ↓endsOf, ↓ioOf, ↓newsOf, ↓Sl.r, ↓itemsOf, ↓slcD, ↓revD, ↓b1D, ↓b2D, ↓isNoneD, ↓noRefR, ↓noRef, ↓noRefs, ite_self, ↓isTy, ↓List.getElem?_cons_zero, ↓List.getElem?_cons_succ, ↓List.getElem?_nil, ↓Option.join_some, ↓Option.join_none, ↓Option.isSome_some, ↓Option.isSome_none, ↓List.set_cons_zero, ↓List.set_cons_succ, ↓List.replicate, ↓List.length_cons, ↓List.length_nil, ↓List.isEmpty_cons, ↓List.isEmpty_nil, ↓List.all_cons, ↓List.all_nil, ↓List.filterMap_cons, ↓List.filterMap_nil, ↓List.contains_cons, ↓List.contains_nil, ↓Bool.and_true, ↓Bool.true_and, ↓Bool.and_false, ↓Bool.false_and, ↓Bool.not_true, ↓Bool.not_false, ↓if_true, ↓sh_int, ↓sh_bool, ↓sh_none, ↓eqv_ii, ↓eqv_bb, ↓eqv_ss, ↓brn_true, ↓brn_false, brn_true, brn_false, ↓List.any_cons, ↓List.any_nil, ↓if_false, ↓ite_true, ↓ite_false, ↓true_and, ↓and_true, ↓Bool.false_eq_true, ↓reduceCtorEq, ↓decide_true, ↓decide_false, ↓List.map_cons, ↓List.map_nil, ↓Tg.slots, ↓List.nodup_cons, ↓List.nodup_nil, ↓List.not_mem_nil, ↓not_false_eq_true, ↓forall_const, ↓true_implies, ↓bI, Nat.reduceAdd, Nat.reduceSub, Nat.reduceEqDiff, Int.reduceLT, Int.reduceLE, Nat.reduceLT, Nat.reduceLeDiff, Int.reduceNeg, Nat.reduceBEq, ↓BEq.rfl, ↓beq_self_eq_true, ↓Bool.or_false, ↓Bool.or_true]
        simp only [decide_eq_true_eq] at hb
        refine stp_at h1 hb fun v hv _ => ?_
        obtain ⟨c, _, rfl⟩ := List.mem_map.mp hv
        simp -dsimp only [↓wpS, ↓wpE, ↓wpEs, ↓wpEs', ↓wpCs, ↓wpI, ↓callW, ↓okArgs, ↓sigOk, ↓inouts, ↓lents, ↓peeks, ↓peek, ↓pk, ↓slot, ↓setOwn, ↓setC, ↓freeze, ↓isOwn, ↓isIo, ↓slC, ↓isLst, ↓asV, ↓asS, ↓asVs, ↓asSs, ↓isT, ↓R.still, ↓setMany, ↓bindT, ↓wipeE, ↓unwipe, ↓binD, ↓intBin, ↓cmpD, ↓eqD, ↓ordD, ↓ordI, ↓startE, ↓endsOf, ↓ioOf, ↓newsOf, ↓Sl.r, ↓itemsOf, ↓slcD, ↓revD, ↓b1D, ↓b2D, ↓isNoneD, ↓noRefR, ↓noRef, ↓noRefs, ite_self, ↓isTy, ↓List.getElem?_cons_zero, ↓List.getElem?_cons_succ, ↓List.getElem?_nil, ↓Option.join_some, ↓Option.join_none, ↓Option.isSome_some, ↓Option.isSome_none, ↓List.set_cons_zero, ↓List.set_cons_succ, ↓List.replicate, ↓List.length_cons, ↓List.length_nil, ↓List.isEmpty_cons, ↓List.isEmpty_nil, ↓List.all_cons, ↓List.all_nil, ↓List.filterMap_cons, ↓List.filterMap_nil, ↓List.contains_cons, ↓List.contains_nil, ↓Bool.and_true, ↓Bool.true_and, ↓Bool.and_false, ↓Bool.false_and, ↓Bool.not_true, ↓Bool.not_false, ↓if_true, ↓sh_int, ↓sh_bool, ↓sh_none, ↓eqv_ii, ↓eqv_bb, ↓eqv_ss, ↓brn_true, ↓brn_false, brn_true, brn_false, ↓List.any_cons, ↓List.any_nil, ↓if_false, ↓ite_true, ↓ite_false, ↓true_and, ↓and_true, ↓Bool.false_eq_true, ↓reduceCtorEq, ↓decide_true, ↓decide_false, ↓List.map_cons, ↓List.map_nil, ↓Tg.slots, ↓List.nodup_cons, ↓List.nodup_nil, ↓List.not_mem_nil, ↓not_false_eq_true, ↓forall_const, ↓true_implies, ↓bI, Nat.reduceAdd, Nat.reduceSub, Nat.reduceEqDiff, Int.reduceLT, Int.reduceLE, Nat.reduceLT, Nat.reduceLeDiff, Int.reduceNeg, Nat.reduceBEq, ↓BEq.rfl, ↓beq_self_eq_true, ↓Bool.or_false, ↓Bool.or_true]
        refine ⟨1, rfl, _, rfl, ?_⟩
        rw [h]
        refine ⟨_, at_, rfl, h1, by omega, fun r hr _ => ?_⟩
        simp -dsimp only [↓wpS, ↓wpE, ↓wpEs, ↓wpEs', ↓wpCs, ↓wpI, ↓callW, ↓okArgs, ↓sigOk, ↓inouts, ↓lents, ↓peeks, ↓peek, ↓pk, ↓slot, ↓setOwn, ↓setC, ↓freeze, ↓isOwn, ↓isIo, ↓slC, ↓isLst, ↓asV, ↓asS, ↓asVs, ↓asSs, ↓isT, ↓R.still, ↓setMany, ↓bindT, ↓wipeE, ↓unwipe, ↓binD, ↓intBin, ↓cmpD, ↓eqD, ↓ordD, ↓ordI, ↓startE, ↓endsOf, ↓ioOf, ↓newsOf, ↓Sl.r, ↓itemsOf, ↓slcD, ↓revD, ↓b1D, ↓b2D, ↓isNoneD, ↓noRefR, ↓noRef, ↓noRefs, ite_self, ↓isTy, ↓List.getElem?_cons_zero, ↓List.getElem?_cons_succ, ↓List.getElem?_nil, ↓Option.join_some, ↓Option.join_none, ↓Option.isSome_some, ↓Option.isSome_none, ↓List.set_cons_zero, ↓List.set_cons_succ, ↓List.replicate, ↓List.length_cons, ↓List.length_nil, ↓List.isEmpty_cons, ↓List.isEmpty_nil, ↓List.all_cons, ↓List.all_nil, ↓List.filterMap_cons, ↓List.filterMap_nil, ↓List.contains_cons, ↓List.contains_nil, ↓Bool.and_true, ↓Bool.true_and, ↓Bool.and_false, ↓Bool.false_and, ↓Bool.not_true, ↓Bool.not_false, ↓if_true, ↓sh_int, ↓sh_bool, ↓sh_none, ↓eqv_ii, ↓eqv_bb, ↓eqv_ss, ↓brn_true, ↓brn_false, brn_true, brn_false, ↓List.any_cons, ↓List.any_nil, ↓if_false, ↓ite_true, ↓ite_false, ↓true_and, ↓and_true, ↓Bool.false_eq_true, ↓reduceCtorEq, ↓decide_true, ↓decide_false, ↓List.map_cons, ↓List.map_nil, ↓Tg.slots, ↓List.nodup_cons, ↓List.nodup_nil, ↓List.not_mem_nil, ↓not_false_eq_true, ↓forall_const, ↓true_implies, ↓bI, Nat.reduceAdd, Nat.reduceSub, Nat.reduceEqDiff, Int.reduceLT, Int.reduceLE, Nat.reduceLT, Nat.reduceLeDiff, Int.reduceNeg, Nat.reduceBEq, ↓BEq.rfl, ↓beq_self_eq_true, ↓Bool.or_false, ↓Bool.or_true]
        refine ⟨2, rfl, next _ ⟨at_ + 1, r, none, _, _, rfl, by omega, by omega, hr⟩⟩
      · simp -dsimp only [↓wpS, ↓wpE, ↓wpEs, ↓wpEs', ↓wpCs, ↓wpI, ↓callW, ↓okArgs, ↓sigOk, ↓inouts, ↓lents, ↓peeks, ↓peek, ↓pk, ↓slot, ↓setOwn, ↓setC, ↓freeze, ↓isOwn, ↓isIo, ↓slC, ↓isLst, ↓asV, ↓asS, ↓asVs, ↓asSs, ↓isT, ↓R.still, ↓setMany, ↓bindT, ↓wipeE, ↓unwipe, ↓binD, ↓intBin, ↓cmpD, ↓eqD, ↓ordD, ↓ordI, ↓startE, ↓endsOf, ↓ioOf, ↓newsOf, ↓Sl.r, ↓itemsOf, ↓slcD, ↓revD, ↓b1D, ↓b2D, ↓isNoneD, ↓noRefR, ↓noRef, ↓noRefs, ite_self, ↓isTy, ↓List.getElem?_cons_zero, ↓List.getElem?_cons_succ, ↓List.getElem?_nil, ↓Option.join_some, ↓Option.join_none, ↓Option.isSome_some, ↓Option.isSome_none, ↓List.set_cons_zero, ↓List.set_cons_succ, ↓List.replicate, ↓List.length_cons, ↓List.length_nil, ↓List.isEmpty_cons, ↓List.isEmpty_nil, ↓List.all_cons, ↓List.all_nil, ↓List.filterMap_cons, ↓List.filterMap_nil, ↓List.contains_cons, ↓List.contains_nil, ↓Bool.and_true, ↓Bool.true_and, ↓Bool.and_false, ↓Bool.false_and, ↓Bool.not_true, ↓Bool.not_false, ↓if_true, ↓sh_int, ↓sh_bool, ↓sh_none, ↓eqv_ii, ↓eqv_bb, ↓eqv_ss, ↓brn_true, ↓brn_false, brn_true, brn_false, ↓List.any_cons, ↓List.any_nil, ↓if_false, ↓ite_true, ↓ite_false, ↓true_and, ↓and_true, ↓Bool.false_eq_true, ↓reduceCtorEq, ↓decide_true, ↓decide_false, ↓List.map_cons, ↓List.map_nil, ↓Tg.slots, ↓List.nodup_cons, ↓List.nodup_nil, ↓List.not_mem_nil, ↓not_false_eq_true, ↓forall_const, ↓true_implies, ↓bI, Nat.reduceAdd, Nat.reduceSub, Nat.reduceEqDiff, Int.reduceLT, Int.reduceLE, Nat.reduceLT, Nat.reduceLeDiff, Int.reduceNeg, Nat.reduceBEq, ↓BEq.rfl, ↓beq_self_eq_true, ↓Bool.or_false, ↓Bool.or_true]
        refine stp_n (n := 0) rfl ?_
        simp -dsimp only [↓wpS, ↓wpE, ↓wpEs, ↓wpEs', ↓wpCs, ↓wpI, ↓callW, ↓okArgs, ↓sigOk, ↓inouts, ↓lents, ↓peeks, ↓peek, ↓pk, ↓slot, ↓setOwn, ↓setC, ↓freeze, ↓isOwn, ↓isIo, ↓slC, ↓isLst, ↓asV, ↓asS, ↓asVs, ↓asSs, ↓isT, ↓R.still, ↓setMany, ↓bindT, ↓wipeE, ↓unwipe, ↓binD, ↓intBin, ↓cmpD, ↓eqD, ↓ordD, ↓ordI, ↓startE, ↓endsOf, ↓ioOf, ↓newsOf, ↓Sl.r, ↓itemsOf, ↓slcD, ↓revD, ↓b1D, ↓b2D, ↓isNoneD, ↓noRefR, ↓noRef, ↓noRefs, ite_self, ↓isTy, ↓List.getElem?_cons_zero, ↓List.getElem?_cons_succ, ↓List.getElem?_nil, ↓Option.join_some, ↓Option.join_none, ↓Option.isSome_some, ↓Option.isSome_none, ↓List.set_cons_zero, ↓List.set_cons_succ, ↓List.replicate, ↓List.length_cons, ↓List.length_nil, ↓List.isEmpty_cons, ↓List.isEmpty_nil, ↓List.all_cons, ↓List.all_nil, ↓List.filterMap_cons, ↓List.filterMap_nil, ↓List.contains_cons, ↓List.contains_nil, ↓Bool.and_true, ↓Bool.true_and, ↓Bool.and_false, ↓Bool.false_and, ↓Bool.not_true, ↓Bool.not_false, ↓if_true, ↓sh_int, ↓sh_bool, ↓sh_none, ↓eqv_ii, ↓eqv_bb, ↓eqv_ss, ↓brn_true, ↓brn_false, brn_true, brn_false, ↓List.any_cons, ↓List.any_nil, ↓if_false, ↓ite_true, ↓ite_false, ↓true_and, ↓and_true, ↓Bool.false_eq_true, ↓reduceCtorEq, ↓decide_true, ↓decide_false, ↓List.map_cons, ↓List.map_nil, ↓Tg.slots, ↓List.nodup_cons, ↓List.nodup_nil, ↓List.not_mem_nil, ↓not_false_eq_true, ↓forall_const, ↓true_implies, ↓bI, Nat.reduceAdd, Nat.reduceSub, Nat.reduceEqDiff, Int.reduceLT, Int.reduceLE, Nat.reduceLT, Nat.reduceLeDiff, Int.reduceNeg, Nat.reduceBEq, ↓BEq.rfl, ↓beq_self_eq_true, ↓Bool.or_false, ↓Bool.or_true]
        refine brn_of (fun hb2 => ?_) (fun hb2 => ?_)
        · simp only [decide_eq_true_eq] at hb2
          simp -dsimp only [↓wpS, ↓wpE, ↓wpEs, ↓wpEs', ↓wpCs, ↓wpI, ↓callW, ↓okArgs, ↓sigOk, ↓inouts, ↓lents, ↓peeks, ↓peek, ↓pk, ↓slot, ↓setOwn, ↓setC, ↓freeze, ↓isOwn, ↓isIo, ↓slC, ↓isLst, ↓asV, ↓asS, ↓asVs, ↓asSs, ↓isT, ↓R.still, ↓setMany, ↓bindT, ↓wipeE, ↓unwipe, ↓binD, ↓intBin, ↓cmpD, ↓eqD, ↓ordD, ↓ordI, ↓startE, ↓endsOf, ↓ioOf, ↓newsOf, ↓Sl.r, ↓itemsOf, ↓slcD, ↓revD, ↓b1D, ↓b2D, ↓isNoneD, ↓noRefR, ↓noRef, ↓noRefs, ite_self, ↓isTy, ↓List.getElem?_cons_zero, ↓List.getElem?_cons_succ, ↓List.getElem?_nil, ↓Option.join_some, ↓Option.join_none, ↓Option.isSome_some, ↓Option.isSome_none, ↓List.set_cons_zero, ↓List.set_cons_succ, ↓List.replicate, ↓List.length_cons, ↓List.length_nil, ↓List.isEmpty_cons, ↓List.isEmpty_nil, ↓List.all_cons, ↓List.all_nil, ↓List.filterMap_cons, ↓List.filterMap_nil, ↓List.contains_cons, ↓List.contains_nil, ↓Bool.and_true, ↓Bool.true_and, ↓Bool.and_false, ↓Bool.false_and, ↓Bool.not_true, ↓Bool.not_false, ↓if_true, ↓sh_int, ↓sh_bool, ↓sh_none, ↓eqv_ii, ↓eqv_bb, ↓eqv_ss, ↓brn_true, ↓brn_false, brn_true, brn_false, ↓List.any_cons, ↓List.any_nil, ↓if_false, ↓ite_true, ↓ite_false, ↓true_and, ↓and_true, ↓Bool.false_eq_true, ↓reduceCtorEq, ↓decide_true, ↓decide_false, ↓List.map_cons, ↓List.map_nil, ↓Tg.slots, ↓List.nodup_cons, ↓List.nodup_nil, ↓List.not_mem_nil, ↓not_false_eq_true, ↓forall_const, ↓true_implies, ↓bI, Nat.reduceAdd, Nat.reduceSub, Nat.reduceEqDiff, Int.reduceLT, Int.reduceLE, Nat.reduceLT, Nat.reduceLeDiff, Int.reduceNeg, Nat.reduceBEq, ↓BEq.rfl, ↓beq_self_eq_true, ↓Bool.or_false, ↓Bool.or_true]
          refine stp_n (n := 0) rfl ?_
          simp -dsimp only [↓wpS, ↓wpE, ↓wpEs, ↓wpEs', ↓wpCs, ↓wpI, ↓callW, ↓okArgs, ↓sigOk, ↓inouts, ↓lents, ↓peeks, ↓peek, ↓pk, ↓slot, ↓setOwn, ↓setC, ↓freeze, ↓isOwn, ↓isIo, ↓slC, ↓isLst, ↓asV, ↓asS, ↓asVs, ↓asSs, ↓isT, ↓R.still, ↓setMany, ↓bindT, ↓wipeE, ↓unwipe, ↓binD, ↓intBin, ↓cmpD, ↓eqD, ↓ordD, ↓ordI, ↓startE, ↓endsOf, ↓ioOf, ↓newsOf, ↓Sl.r, ↓itemsOf, ↓slcD, ↓revD, ↓b1D, ↓b2D, ↓isNoneD, ↓noRefR, ↓noRef, ↓noRefs, ite_self, ↓isTy, ↓List.getElem?_cons_zero, ↓List.getElem?_cons_succ, ↓List.getElem?_nil, ↓Option.join_some, ↓Option.join_none, ↓Option.isSome_some, ↓Option.isSome_none, ↓List.set_cons_zero, ↓List.set_cons_succ, ↓List.replicate, ↓List.length_cons, ↓List.length_nil, ↓List.isEmpty_cons, ↓List.isEmpty_nil, ↓List.all_cons, ↓List.all_nil, ↓List.filterMap_cons, ↓List.filterMap_nil, ↓List.contains_cons, ↓List.contains_nil, ↓Bool.and_true, ↓Bool.true_and, ↓Bool.and_false, ↓Bool.false_and, ↓Bool.not_true, ↓Bool.not_false, ↓if_true, ↓sh_int, ↓sh_bool, ↓sh_none, ↓eqv_ii, ↓eqv_bb, ↓eqv_ss, ↓brn_true, ↓brn_false, brn_true, brn_false, ↓List.any_cons, ↓List.any_nil, ↓if_false, ↓ite_true, ↓ite_false, ↓true_and, ↓and_true, ↓Bool.false_eq_true, ↓reduceCtorEq, ↓decide_true, ↓decide_false, ↓List.map_cons, ↓List.map_nil, ↓Tg.slots, ↓List.nodup_cons, ↓List.nodup_nil, ↓List.not_mem_nil, ↓not_false_eq_true, ↓forall_const, ↓true_implies, ↓bI, Nat.reduceAdd, Nat.reduceSub, Nat.reduceEqDiff, Int.reduceLT, Int.reduceLE, Nat.reduceLT, Nat.reduceLeDiff, Int.reduceNeg, Nat.reduceBEq, ↓BEq.rfl, ↓beq_self_eq_true, ↓Bool.or_false, ↓Bool.or_true]
          refine ⟨.inr (by omega), stp_n (n := 0) rfl ?_⟩
          simp -dsimp only [↓wpS, ↓wpE, ↓wpEs, ↓wpEs', ↓wpCs, ↓wpI, ↓callW, ↓okArgs, ↓sigOk, ↓inouts, ↓lents, ↓peeks, ↓peek, ↓pk, ↓slot, ↓setOwn, ↓setC, ↓freeze, ↓isOwn, ↓isIo, ↓slC, ↓isLst, ↓asV, ↓asS, ↓asVs, ↓asSs, ↓isT, ↓R.still, ↓setMany, ↓bindT, ↓wipeE, ↓unwipe, ↓binD, ↓intBin, ↓cmpD, ↓eqD, ↓ordD, ↓ordI, ↓startE, ↓endsOf, ↓ioOf, ↓newsOf, ↓Sl.r, ↓itemsOf, ↓slcD, ↓revD, ↓b1D, ↓b2D, ↓isNoneD, ↓noRefR, ↓noRef, ↓noRefs, ite_self, ↓isTy, ↓List.getElem?_cons_zero, ↓List.getElem?_cons_succ, ↓List.getElem?_nil, ↓Option.join_some, ↓Option.join_none, ↓Option.isSome_some, ↓Option.isSome_none, ↓List.set_cons_zero, ↓List.set_cons_succ, ↓List.replicate, ↓List.length_cons, ↓List.length_nil, ↓List.isEmpty_cons, ↓List.isEmpty_nil, ↓List.all_cons, ↓List.all_nil, ↓List.filterMap_cons, ↓List.filterMap_nil, ↓List.contains_cons, ↓List.contains_nil, ↓Bool.and_true, ↓Bool.true_and, ↓Bool.and_false, ↓Bool.false_and, ↓Bool.not_true, ↓Bool.not_false, ↓if_true, ↓sh_int, ↓sh_bool, ↓sh_none, ↓eqv_ii, ↓eqv_bb, ↓eqv_ss, ↓brn_true, ↓brn_false, brn_true, brn_false, ↓List.any_cons, ↓List.any_nil, ↓if_false, ↓ite_true, ↓ite_false, ↓true_and, ↓and_true, ↓Bool.false_eq_true, ↓reduceCtorEq, ↓decide_true, ↓decide_false, ↓List.map_cons, ↓List.map_nil, ↓Tg.slots, ↓List.nodup_cons, ↓List.nodup_nil, ↓List.not_mem_nil, ↓not_false_eq_true, ↓forall_const, ↓true_implies, ↓bI, Nat.reduceAdd, Nat.reduceSub, Nat.reduceEqDiff, Int.reduceLT, Int.reduceLE, Nat.reduceLT, Nat.reduceLeDiff, Int.reduceNeg, Nat.reduceBEq, ↓BEq.rfl, ↓beq_self_eq_true, ↓Bool.or_false, ↓Bool.or_true]
          refine ⟨hb2, stp_at (Int.emod_nonneg _ (by omega)) (Int.emod_lt_of_pos _ hb2) fun v hv _ => ?_⟩
          obtain ⟨c, _, rfl⟩ := List.mem_map.mp hv
          simp -dsimp only [↓wpS, ↓wpE, ↓wpEs, ↓wpEs', ↓wpCs, ↓wpI, ↓callW, ↓okArgs, ↓sigOk, ↓inouts, ↓lents, ↓peeks, ↓peek, ↓pk, ↓slot, ↓setOwn, ↓setC, ↓freeze, ↓isOwn, ↓isIo, ↓slC, ↓isLst, ↓asV, ↓asS, ↓asVs, ↓asSs, ↓isT, ↓R.still, ↓setMany, ↓bindT, ↓wipeE, ↓unwipe, ↓binD, ↓intBin, ↓cmpD, ↓eqD, ↓ordD, ↓ordI, ↓startE, ↓endsOf, ↓ioOf, ↓newsOf, ↓Sl.r, ↓itemsOf, ↓slcD, ↓revD, ↓b1D, ↓b2D, ↓isNoneD, ↓noRefR, ↓noRef, ↓noRefs, ite_self, ↓isTy, ↓List.getElem?_cons_zero, ↓List.getElem?_cons_succ, ↓List.getElem?_nil, ↓Option.join_some, ↓Option.join_none, ↓Option.isSome_some, ↓Option.isSome_none, ↓List.set_cons_zero, ↓List.set_cons_succ, ↓List.replicate, ↓List.length_cons, ↓List.length_nil, ↓List.isEmpty_cons, ↓List.isEmpty_nil, ↓List.all_cons, ↓List.all_nil, ↓List.filterMap_cons, ↓List.filterMap_nil, ↓List.contains_cons, ↓List.contains_nil, ↓Bool.and_true, ↓Bool.true_and, ↓Bool.and_false, ↓Bool.false_and, ↓Bool.not_true, ↓Bool.not_false, ↓if_true, ↓sh_int, ↓sh_bool, ↓sh_none, ↓eqv_ii, ↓eqv_bb, ↓eqv_ss, ↓brn_true, ↓brn_false, brn_true, brn_false, ↓List.any_cons, ↓List.any_nil, ↓if_false, ↓ite_true, ↓ite_false, ↓true_and, ↓and_true, ↓Bool.false_eq_true, ↓reduceCtorEq, ↓decide_true, ↓decide_false, ↓List.map_cons, ↓List.map_nil, ↓Tg.slots, ↓List.nodup_cons, ↓List.nodup_nil, ↓List.not_mem_nil, ↓not_false_eq_true, ↓forall_const, ↓true_implies, ↓bI, Nat.reduceAdd, Nat.reduceSub, Nat.reduceEqDiff, Int.reduceLT, Int.reduceLE, Nat.reduceLT, Nat.reduceLeDiff, Int.reduceNeg, Nat.reduceBEq, ↓BEq.rfl, ↓beq_self_eq_true, ↓Bool.or_false, ↓Bool.or_true]
          refine ⟨⟨by decide, by decide, by decide⟩, Int.add_pos_of_pos_of_nonneg (by decide) h1, ?_⟩
          refine ⟨1, rfl, _, rfl, ?_⟩
          rw [h]
          refine ⟨_, at_, rfl, h1, by omega, fun r hr _ => ?_⟩
          simp -dsimp only [↓wpS, ↓wpE, ↓wpEs, ↓wpEs', ↓wpCs, ↓wpI, ↓callW, ↓okArgs, ↓sigOk, ↓inouts, ↓lents, ↓peeks, ↓peek, ↓pk, ↓slot, ↓setOwn, ↓setC, ↓freeze, ↓isOwn, ↓isIo, ↓slC, ↓isLst, ↓asV, ↓asS, ↓asVs, ↓asSs, ↓isT, ↓R.still, ↓setMany, ↓bindT, ↓wipeE, ↓unwipe, ↓binD, ↓intBin, ↓cmpD, ↓eqD, ↓ordD, ↓ordI, ↓startE, ↓endsOf, ↓ioOf, ↓newsOf, ↓Sl.r, ↓itemsOf, ↓slcD, ↓revD, ↓b1D, ↓b2D, ↓isNoneD, ↓noRefR, ↓noRef, ↓noRefs, ite_self, ↓isTy, ↓List.getElem?_cons_zero, ↓List.getElem?_cons_succ, ↓List.getElem?_nil, ↓Option.join_some, ↓Option.join_none, ↓Option.isSome_some, ↓Option.isSome_none, ↓List.set_cons_zero, ↓List.set_cons_succ, ↓List.replicate, ↓List.length_cons, ↓List.length_nil, ↓List.isEmpty_cons, ↓List.isEmpty_nil, ↓List.all_cons, ↓List.all_nil, ↓List.filterMap_cons, ↓List.filterMap_nil, ↓List.contains_cons, ↓List.contains_nil, ↓Bool.and_true, ↓Bool.true_and, ↓Bool.and_false, ↓Bool.false_and, ↓Bool.not_true, ↓Bool.not_false, ↓if_true, ↓sh_int, ↓sh_bool, ↓sh_none, ↓eqv_ii, ↓eqv_bb, ↓eqv_ss, ↓brn_true, ↓brn_false, brn_true, brn_false, ↓List.any_cons, ↓List.any_nil, ↓if_false, ↓ite_true, ↓ite_false, ↓true_and, ↓and_true, ↓Bool.false_eq_true, ↓reduceCtorEq, ↓decide_true, ↓decide_false, ↓List.map_cons, ↓List.map_nil, ↓Tg.slots, ↓List.nodup_cons, ↓List.nodup_nil, ↓List.not_mem_nil, ↓not_false_eq_true, ↓forall_const, ↓true_implies, ↓bI, Nat.reduceAdd, Nat.reduceSub, Nat.reduceEqDiff, Int.reduceLT, Int.reduceLE, Nat.reduceLT, Nat.reduceLeDiff, Int.reduceNeg, Nat.reduceBEq, ↓BEq.rfl, ↓beq_self_eq_true, ↓Bool.or_false, ↓Bool.or_true]
          refine ⟨2, rfl, next _ ⟨at_ + 1, r, none, _, _, rfl, by omega, by omega, hr⟩⟩
        · simp -dsimp only [↓wpS, ↓wpE, ↓wpEs, ↓wpEs', ↓wpCs, ↓wpI, ↓callW, ↓okArgs, ↓sigOk, ↓inouts, ↓lents, ↓peeks, ↓peek, ↓pk, ↓slot, ↓setOwn, ↓setC, ↓freeze, ↓isOwn, ↓isIo, ↓slC, ↓isLst, ↓asV, ↓asS, ↓asVs, ↓asSs, ↓isT, ↓R.still, ↓setMany, ↓bindT, ↓wipeE, ↓unwipe, ↓binD, ↓intBin, ↓cmpD, ↓eqD, ↓ordD, ↓ordI, ↓startE, ↓endsOf, ↓ioOf, ↓newsOf, ↓Sl.r, ↓itemsOf, ↓slcD, ↓revD, ↓b1D, ↓b2D, ↓isNoneD, ↓noRefR, ↓noRef, ↓noRefs, ite_self, ↓isTy, ↓List.getElem?_cons_zero, ↓List.getElem?_cons_succ, ↓List.getElem?_nil, ↓Option.join_some, ↓Option.join_none, ↓Option.isSome_some, ↓Option.isSome_none, ↓List.set_cons_zero, ↓List.set_cons_succ, ↓List.replicate, ↓List.length_cons, ↓List.length_nil, ↓List.isEmpty_cons, ↓List.isEmpty_nil, ↓List.all_cons, ↓List.all_nil, ↓List.filterMap_cons, ↓List.filterMap_nil, ↓List.contains_cons, ↓List.contains_nil, ↓Bool.and_true, ↓Bool.true_and, ↓Bool.and_false, ↓Bool.false_and, ↓Bool.not_true, ↓Bool.not_false, ↓if_true, ↓sh_int, ↓sh_bool, ↓sh_none, ↓eqv_ii, ↓eqv_bb, ↓eqv_ss, ↓brn_true, ↓brn_false, brn_true, brn_false, ↓List.any_cons, ↓List.any_nil, ↓if_false, ↓ite_true, ↓ite_false, ↓true_and, ↓and_true, ↓Bool.false_eq_true, ↓reduceCtorEq, ↓decide_true, ↓decide_false, ↓List.map_cons, ↓List.map_nil, ↓Tg.slots, ↓List.nodup_cons, ↓List.nodup_nil, ↓List.not_mem_nil, ↓not_false_eq_true, ↓forall_const, ↓true_implies, ↓bI, Nat.reduceAdd, Nat.reduceSub, Nat.reduceEqDiff, Int.reduceLT, Int.reduceLE, Nat.reduceLT, Nat.reduceLeDiff, Int.reduceNeg, Nat.reduceBEq, ↓BEq.rfl, ↓beq_self_eq_true, ↓Bool.or_false, ↓Bool.or_true]
          refine ⟨1, rfl, _, rfl, ?_⟩
          rw [h]
          refine ⟨_, at_, rfl, h1, by omega, fun r hr _ => ?_⟩
          simp -dsimp only [↓wpS, ↓wpE, ↓wpEs, ↓wpEs', ↓wpCs, ↓wpI, ↓callW, ↓okArgs, ↓sigOk, ↓inouts, ↓lents, ↓peeks, ↓peek, ↓pk, ↓slot, ↓setOwn, ↓setC, ↓freeze, ↓isOwn, ↓isIo, ↓slC, ↓isLst, ↓asV, ↓asS, ↓asVs, ↓asSs, ↓isT, ↓R.still, ↓setMany, ↓bindT, ↓wipeE, ↓unwipe, ↓binD, ↓intBin, ↓cmpD, ↓eqD, ↓ordD, ↓ordI, ↓startE, ↓endsOf, ↓ioOf, ↓newsOf, ↓Sl.r, ↓itemsOf, ↓slcD, ↓revD, ↓b1D, ↓b2D, ↓isNoneD, ↓noRefR, ↓noRef, ↓noRefs, ite_self, ↓isTy, ↓List.getElem?_cons_zero, ↓List.getElem?_cons_succ, ↓List.getElem?_nil, ↓Option.join_some, ↓Option.join_none, ↓Option.isSome_some, ↓Option.isSome_none, ↓List.set_cons_zero, ↓List.set_cons_succ, ↓List.replicate, ↓List.length_cons, ↓List.length_nil, ↓List.isEmpty_cons, ↓List.isEmpty_nil, ↓List.all_cons, ↓List.all_nil, ↓List.filterMap_cons, ↓List.filterMap_nil, ↓List.contains_cons, ↓List.contains_nil, ↓Bool.and_true, ↓Bool.true_and, ↓Bool.and_false, ↓Bool.false_and, ↓Bool.not_true, ↓Bool.not_false, ↓if_true, ↓sh_int, ↓sh_bool, ↓sh_none, ↓eqv_ii, ↓eqv_bb, ↓eqv_ss, ↓brn_true, ↓brn_false, brn_true, brn_false, ↓List.any_cons, ↓List.any_nil, ↓if_false, ↓ite_true, ↓ite_false, ↓true_and, ↓and_true, ↓Bool.false_eq_true, ↓reduceCtorEq, ↓decide_true, ↓decide_false, ↓List.map_cons, ↓List.map_nil, ↓Tg.slots, ↓List.nodup_cons, ↓List.nodup_nil, ↓List.not_mem_nil, ↓not_false_eq_true, ↓forall_const, ↓true_implies, ↓bI, Nat.reduceAdd, Nat.reduceSub, Nat.reduceEqDiff, Int.reduceLT, Int.reduceLE, Nat.reduceLT, Nat.reduceLeDiff, Int.reduceNeg, Nat.reduceBEq, ↓BEq.rfl, ↓beq_self_eq_true, ↓Bool.or_false, ↓Bool.or_true]
          refine ⟨2, rfl, next _ ⟨at_ + 1, r, none, _, _, rfl, by omega, by omega, hr⟩⟩
    · simp -dsimp only [↓wpS, ↓wpE, ↓wpEs, ↓wpEs', ↓wpCs, ↓wpI, ↓callW, ↓okArgs, ↓sigOk, ↓inouts, ↓lents, ↓peeks, ↓peek, ↓pk, ↓slot, ↓setOwn, ↓setC, ↓freeze, ↓isOwn, ↓isIo, ↓slC, ↓isLst, ↓asV, ↓asS, ↓asVs, ↓asSs, ↓isT, ↓R.still, ↓setMany, ↓bindT, ↓wipeE, ↓unwipe, ↓binD, ↓intBin, ↓cmpD, ↓eqD, ↓ordD, ↓ordI, ↓startE, ↓endsOf, ↓ioOf, ↓newsOf, ↓Sl.r, ↓itemsOf, ↓slcD, ↓revD, ↓b1D, ↓b2D, ↓isNoneD, ↓noRefR, ↓noRef, ↓noRefs, ite_self, ↓isTy, ↓List.getElem?_cons_zero, ↓List.getElem?_cons_succ, ↓List.getElem?_nil, ↓Option.join_some, ↓Option.join_none, ↓Option.isSome_some, ↓Option.isSome_none, ↓List.set_cons_zero, ↓List.set_cons_succ, ↓List.replicate, ↓List.length_cons, ↓List.length_nil, ↓List.isEmpty_cons, ↓List.isEmpty_nil, ↓List.all_cons, ↓List.all_nil, ↓List.filterMap_cons, ↓List.filterMap_nil, ↓List.contains_cons, ↓List.contains_nil, ↓Bool.and_true, ↓Bool.true_and, ↓Bool.and_false, ↓Bool.false_and, ↓Bool.not_true, ↓Bool.not_false, ↓if_true, ↓sh_int, ↓sh_bool, ↓sh_none, ↓eqv_ii, ↓eqv_bb, ↓eqv_ss, ↓brn_true, ↓brn_false, brn_true, brn_false, ↓List.any_cons, ↓List.any_nil, ↓if_false, ↓ite_true, ↓ite_false, ↓true_and, ↓and_true, ↓Bool.false_eq_true, ↓reduceCtorEq, ↓decide_true, ↓decide_false, ↓List.map_cons, ↓List.map_nil, ↓Tg.slots, ↓List.nodup_cons, ↓List.nodup_nil, ↓List.not_mem_nil, ↓not_false_eq_true, ↓forall_const, ↓true_implies, ↓bI, Nat.reduceAdd, Nat.reduceSub, Nat.reduceEqDiff, Int.reduceLT, Int.reduceLE, Nat.reduceLT, Nat.reduceLeDiff, Int.reduceNeg, Nat.reduceBEq, ↓BEq.rfl, ↓beq_self_eq_true, ↓Bool.or_false, ↓Bool.or_true]
      exact next _ ⟨at_, num, _, _, _, rfl, h1, by omega, h3⟩
  · rintro e ⟨a, num', e2, e3, e4, rfl, ha, hat, hnum⟩
    simp -dsimp only [↓wpS, ↓wpE, ↓wpEs, ↓wpEs', ↓wpCs, ↓wpI, ↓callW, ↓okArgs, ↓sigOk, ↓inouts, ↓lents, ↓peeks, ↓peek, ↓pk, ↓slot, ↓setOwn, ↓setC, ↓freeze, ↓isOwn, ↓isIo, ↓slC, ↓isLst, ↓asV, ↓asS, ↓asVs, ↓asSs, ↓isT, ↓R.still, ↓setMany, ↓bindT, ↓wipeE, ↓unwipe, ↓binD, ↓intBin, ↓cmpD, ↓eqD, ↓ordD, ↓ordI, ↓startE, ↓endsOf, ↓ioOf, ↓newsOf, ↓Sl.r, ↓itemsOf, ↓slcD, ↓revD, ↓b1D, ↓b2D, ↓isNoneD, ↓noRefR, ↓noRef, ↓noRefs, ite_self, ↓isTy, ↓List.getElem?_cons_zero, ↓List.getElem?_cons_succ, ↓List.getElem?_nil, ↓Option.join_some, ↓Option.join_none, ↓Option.isSome_some, ↓Option.isSome_none, ↓List.set_cons_zero, ↓List.set_cons_succ, ↓List.replicate, ↓List.length_cons, ↓List.length_nil, ↓List.isEmpty_cons, ↓List.isEmpty_nil, ↓List.all_cons, ↓List.all_nil, ↓List.filterMap_cons, ↓List.filterMap_nil, ↓List.contains_cons, ↓List.contains_nil, ↓Bool.and_true, ↓Bool.true_and, ↓Bool.and_false, ↓Bool.false_and, ↓Bool.not_true, ↓Bool.not_false, ↓if_true, ↓sh_int, ↓sh_bool, ↓sh_none, ↓eqv_ii, ↓eqv_bb, ↓eqv_ss, ↓brn_true, ↓brn_false, brn_true, brn_false, ↓List.any_cons, ↓List.any_nil, ↓if_false, ↓ite_true, ↓ite_false, ↓true_and, ↓and_true, ↓Bool.false_eq_true, ↓reduceCtorEq, ↓decide_true, ↓decide_false, ↓List.map_cons, ↓List.map_nil, ↓Tg.slots, ↓List.nodup_cons, ↓List.nodup_nil, ↓List.not_mem_nil, ↓not_false_eq_true, ↓forall_const, ↓true_implies, ↓bI, Nat.reduceAdd, Nat.reduceSub, Nat.reduceEqDiff, Int.reduceLT, Int.reduceLE, Nat.reduceLT, Nat.reduceLeDiff, Int.reduceNeg, Nat.reduceBEq, ↓BEq.rfl, ↓beq_self_eq_true, ↓Bool.or_false, ↓Bool.or_true]
    refine stp_n (n := 2) rfl ?_
    simp -dsimp only [↓wpS, ↓wpE, ↓wpEs, ↓wpEs', ↓wpCs, ↓wpI, ↓callW, ↓okArgs, ↓sigOk, ↓inouts, ↓lents, ↓peeks, ↓peek, ↓pk, ↓slot, ↓setOwn, ↓setC, ↓freeze, ↓isOwn, ↓isIo, ↓slC, ↓isLst, ↓asV, ↓asS, ↓asVs, ↓asSs, ↓isT, ↓R.still, ↓setMany, ↓bindT, ↓wipeE, ↓unwipe, ↓binD, ↓intBin, ↓cmpD, ↓eqD, ↓ordD, ↓ordI, ↓startE, ↓endsOf, ↓ioOf, ↓newsOf, ↓Sl.r, ↓itemsOf, ↓slcD, ↓revD, ↓b1D, ↓b2D, ↓isNoneD, ↓noRefR, ↓noRef, ↓noRefs, ite_self, ↓isTy, ↓List.getElem?_cons_zero, ↓List.getElem?_cons_succ, ↓List.getElem?_nil, ↓Option.join_some, ↓Option.join_none, ↓Option.isSome_some, ↓Option.isSome_none, ↓List.set_cons_zero, ↓List.set_cons_succ, ↓List.replicate, ↓List.length_cons, ↓List.length_nil, ↓List.isEmpty_cons, ↓List.isEmpty_nil, ↓List.all_cons, ↓List.all_nil, ↓List.filterMap_cons, ↓List.filterMap_nil, ↓List.contains_cons, ↓List.contains_nil, ↓Bool.and_true, ↓Bool.true_and, ↓Bool.and_false, ↓Bool.false_and, ↓Bool.not_true, ↓Bool.not_false, ↓if_true, ↓sh_int, ↓sh_bool, ↓sh_none, ↓eqv_ii, ↓eqv_bb, ↓eqv_ss, ↓brn_true, ↓brn_false, brn_true, brn_false, ↓List.any_cons, ↓List.any_nil, ↓if_false, ↓ite_true, ↓ite_false, ↓true_and, ↓and_true, ↓Bool.false_eq_true, ↓reduceCtorEq, ↓decide_true, ↓decide_false, ↓List.map_cons, ↓List.map_nil, ↓Tg.slots, ↓List.nodup_cons, ↓List.nodup_nil, ↓List.not_mem_nil, ↓not_false_eq_true, ↓forall_const, ↓true_implies, ↓bI, Nat.reduceAdd, Nat.reduceSub, Nat.reduceEqDiff, Int.reduceLT, Int.reduceLE, Nat.reduceLT, Nat.reduceLeDiff, Int.reduceNeg, Nat.reduceBEq, ↓BEq.rfl, ↓beq_self_eq_true, ↓Bool.or_false, ↓Bool.or_true]
    refine ⟨hn, stp_n (n := 2) rfl ?_⟩
    simp -dsimp only [↓wpS, ↓wpE, ↓wpEs, ↓wpEs', ↓wpCs, ↓wpI, ↓callW, ↓okArgs, ↓sigOk, ↓inouts, ↓lents, ↓peeks, ↓peek, ↓pk, ↓slot, ↓setOwn, ↓setC, ↓freeze, ↓isOwn, ↓isIo, ↓slC, ↓isLst, ↓asV, ↓asS, ↓asVs, ↓asSs, ↓isT, ↓R.still, ↓setMany, ↓bindT, ↓wipeE, ↓unwipe, ↓binD, ↓intBin, ↓cmpD, ↓eqD, ↓ordD, ↓ordI, ↓startE, ↓endsOf, ↓ioOf, ↓newsOf, ↓Sl.r, ↓itemsOf, ↓slcD, ↓revD, ↓b1D, ↓b2D, ↓isNoneD, ↓noRefR, ↓noRef, ↓noRefs, ite_self, ↓isTy, ↓List.getElem?_cons_zero, ↓List.getElem?_cons_succ, ↓List.getElem?_nil, ↓Option.join_some, ↓Option.join_none, ↓Option.isSome_some, ↓Option.isSome_none, ↓List.set_cons_zero, ↓List.set_cons_succ, ↓List.replicate, ↓List.length_cons, ↓List.length_nil, ↓List.isEmpty_cons, ↓List.isEmpty_nil, ↓List.all_cons, ↓List.all_nil, ↓List.filterMap_cons, ↓List.filterMap_nil, ↓List.contains_cons, ↓List.contains_nil, ↓Bool.and_true, ↓Bool.true_and, ↓Bool.and_false, ↓Bool.false_and, ↓Bool.not_true, ↓Bool.not_false, ↓if_true, ↓sh_int, ↓sh_bool, ↓sh_none, ↓eqv_ii, ↓eqv_bb, ↓eqv_ss, ↓brn_true, ↓brn_false, brn_true, brn_false, ↓List.any_cons, ↓List.any_nil, ↓if_false, ↓ite_true, ↓ite_false, ↓true_and, ↓and_true, ↓Bool.false_eq_true, ↓reduceCtorEq, ↓decide_true, ↓decide_false, ↓List.map_cons, ↓List.map_nil, ↓Tg.slots, ↓List.nodup_cons, ↓List.nodup_nil, ↓List.not_mem_nil, ↓not_false_eq_true, ↓forall_const, ↓true_implies, ↓bI, Nat.reduceAdd, Nat.reduceSub, Nat.reduceEqDiff, Int.reduceLT, Int.reduceLE, Nat.reduceLT, Nat.reduceLeDiff, Int.reduceNeg, Nat.reduceBEq, ↓BEq.rfl, ↓beq_self_eq_true, ↓Bool.or_false, ↓Bool.or_true]
    refine ⟨⟨hn, by omega⟩, 2, rfl, ?_⟩
    simp -dsimp only [↓wpS, ↓wpE, ↓wpEs, ↓wpEs', ↓wpCs, ↓wpI, ↓callW, ↓okArgs, ↓sigOk, ↓inouts, ↓lents, ↓peeks, ↓peek, ↓pk, ↓slot, ↓setOwn, ↓setC, ↓freeze, ↓isOwn, ↓isIo, ↓slC, ↓isLst, ↓asV, ↓asS, ↓asVs, ↓asSs, ↓isT, ↓R.still, ↓setMany, ↓bindT, ↓wipeE, ↓unwipe, ↓binD, ↓intBin, ↓cmpD, ↓eqD, ↓ordD, ↓ordI, ↓startE, ↓endsOf, ↓ioOf, ↓newsOf, ↓Sl.r, ↓itemsOf, ↓slcD, ↓revD, ↓b1D, ↓b2D, ↓isNoneD, ↓noRefR, ↓noRef, ↓noRefs, ite_self, ↓isTy, ↓List.getElem?_cons_zero, ↓List.getElem?_cons_succ, ↓List.getElem?_nil, ↓Option.join_some, ↓Option.join_none, ↓Option.isSome_some, ↓Option.isSome_none, ↓List.set_cons_zero, ↓List.set_cons_succ, ↓List.replicate, ↓List.length_cons, ↓List.length_nil, ↓List.isEmpty_cons, ↓List.isEmpty_nil, ↓List.all_cons, ↓List.all_nil, ↓List.filterMap_cons, ↓List.filterMap_nil, ↓List.contains_cons, ↓List.contains_nil, ↓Bool.and_true, ↓Bool.true_and, ↓Bool.and_false, ↓Bool.false_and, ↓Bool.not_true, ↓Bool.not_false, ↓if_true, ↓sh_int, ↓sh_bool, ↓sh_none, ↓eqv_ii, ↓eqv_bb, ↓eqv_ss, ↓brn_true, ↓brn_false, brn_true, brn_false, ↓List.any_cons, ↓List.any_nil, ↓if_false, ↓ite_true, ↓ite_false, ↓true_and, ↓and_true, ↓Bool.false_eq_true, ↓reduceCtorEq, ↓decide_true, ↓decide_false, ↓List.map_cons, ↓List.map_nil, ↓Tg.slots, ↓List.nodup_cons, ↓List.nodup_nil, ↓List.not_mem_nil, ↓not_false_eq_true, ↓forall_const, ↓true_implies, ↓bI, Nat.reduceAdd, Nat.reduceSub, Nat.reduceEqDiff, Int.reduceLT, Int.reduceLE, Nat.reduceLT, Nat.reduceLeDiff, Int.reduceNeg, Nat.reduceBEq, ↓BEq.rfl, ↓beq_self_eq_true, ↓Bool.or_false, ↓Bool.or_true]
    exact k _ _ (Int.emod_nonneg _ (by omega)) (Int.emod_lt_of_pos _ hn) ⟨cells, a, num' / n, rfl, ha, hat, Int.ediv_nonneg hnum (by omega)⟩
end Co

set_option linter.all false
namespace Co
open PySem
/-! ### equal data -/
mutual
def plainD : Nat → PyData → Bool
  | _, .none => true
  | _, .int _ => true
  | _, .bool _ => true
  | _, .str x => PyData.strOk x
  | k + 1, .tuple l => decide (l.length < 100000) && plainDs k l
  | k + 1, .list l => decide (l.length < 100000) && plainDs k l
  | _, _ => false
def plainDs : Nat → List PyData → Bool
  | _, [] => true
  | k, x :: l => plainD k x && plainDs k l
end
theorem plainDs_mem {k : Nat} : ∀ {l : List PyData} {x : PyData}, plainDs k l = true → x ∈ l → plainD k x = true
  | [], x, _, h => by simp at h
  | y :: l, x, h, hm => by
    simp only [plainDs, Bool.and_eq_true] at h
    rcases List.mem_cons.mp hm with rfl | hm
    · exact h.1
    · exact plainDs_mem h.2 hm
theorem no_false {α : Type} {l : List α} {K : Bool → Prop} (k : K false) : memD (.bool false) (.list (l.map fun _ => .bool true)) K := by
  refine ⟨rfl, (ok_list (k := 0) fun x hx => ?_).sh (by decide), ?_⟩
  · obtain ⟨_, _, rfl⟩ := List.mem_map.mp hx
    exact ok_bool
  · have e : ((l.map fun _ => PyData.bool true).any fun z => PyData.eqv z (.bool false)) = false := by
      rw [List.any_eq_false]
      intro x hx
      obtain ⟨_, _, rfl⟩ := List.mem_map.mp hx
      rw [eqv_bb]; decide
    rw [e]; exact k
def sameSp (k : Nat) : Spec := fun ds Q => (∃ d, ds = [d, d] ∧ plainD k d = true) ∧ Q (.val (.bool true)) []
theorem same_ok (Φ : Tbl) (k : Nat) (h : k = 0 ∨ ∃ j, k = j + 1 ∧ Φ "_law_same" = sameSp j) : Impl Φ [false, false] 4 f_law_same (sameSp k) := by
  rintro ds Q ⟨⟨d, rfl, hp⟩, hq⟩ _
  unfold f_law_same
  have two : ∀ l : List PyData, (d = .tuple l ∨ d = .list l) → ∃ j, k = j + 1 ∧ (l.length < 100000 ∧ plainDs j l = true) ∧ Φ "_law_same" = sameSp j := by
    rintro l hd
    cases k with
    | zero => rcases hd with rfl | rfl <;> simp [plainD] at hp
    | succ j =>
      refine ⟨j, rfl, ?_, ?_⟩
      · rcases hd with rfl | rfl <;> simpa [plainD] using hp
      · rcases h with h | ⟨j', e, h⟩
        · cases h
        · cases e; exact h
  have eqr : ∀ b : Bool, (b == b) = true := by decide
  cases d with
  | none =>
    simp -dsimp only [↓wpS, ↓wpE, ↓wpEs, ↓wpEs', ↓wpCs, ↓wpI, ↓callW, ↓okArgs, ↓sigOk, ↓inouts, ↓lents, ↓peeks, ↓peek, ↓pk, ↓slot, ↓setOwn, ↓setC, ↓freeze, ↓isOwn, ↓isIo, ↓slC, ↓isLst, ↓asV, ↓asS, ↓asVs, ↓asSs, ↓isT, ↓R.still, ↓setMany, ↓bindT, ↓wipeE, ↓unwipe, ↓binD, ↓intBin, ↓cmpD, ↓eqD, ↓ordD, ↓ordI, ↓startE, ↓endsOf, ↓ioOf, ↓newsOf, ↓Sl.r, ↓itemsOf, ↓slcD, ↓revD, ↓b1D, ↓b2D, ↓isNoneD, ↓noRefR, ↓noRef, ↓noRefs, ite_self, ↓isTy, ↓List.getElem?_cons_zero, ↓List.getElem?_cons_succ, ↓List.getElem?_nil, ↓Option.join_some, ↓Option.join_none, ↓Option.isSome_some, ↓Option.isSome_none, ↓List.set_cons_zero, ↓List.set_cons_succ, ↓List.replicate, ↓List.length_cons, ↓List.length_nil, ↓List.isEmpty_cons, ↓List.isEmpty_nil, ↓List.all_cons, ↓List.all_nil, ↓List.filterMap_cons, ↓List.filterMap_nil, ↓List.contains_cons, ↓List.contains_nil, ↓Bool.and_true, ↓Bool.true_and, ↓Bool.and_false, ↓Bool.false_and, ↓Bool.not_true, ↓Bool.not_false, ↓if_true, ↓sh_int, ↓sh_bool, ↓sh_none, ↓eqv_ii, ↓eqv_bb, ↓eqv_ss, ↓brn_true, ↓brn_false, brn_true, brn_false, ↓List.any_cons, ↓List.any_nil, ↓if_false, ↓ite_true, ↓ite_false, ↓true_and, ↓and_true, ↓Bool.false_eq_true, ↓reduceCtorEq, ↓decide_true, ↓decide_false, ↓List.map_cons, ↓List.map_nil, ↓Tg.slots, ↓List.nodup_cons, ↓List.nodup_nil, ↓List.not_mem_nil, ↓not_false_eq_true, ↓forall_const, ↓true_implies, ↓bI, Nat.reduceAdd, Nat.reduceSub, Nat.reduceEqDiff, Int.reduceLT, Int.reduceLE, Nat.reduceLT, Nat.reduceLeDiff, Int.reduceNeg, Nat.reduceBEq, ↓BEq.rfl, ↓beq_self_eq_true, ↓Bool.or_false, ↓Bool.or_true]
    exact hq
  | dict kvs => cases k <;> simp [plainD] at hp
  | bool b =>
    simp -dsimp only [↓wpS, ↓wpE, ↓wpEs, ↓wpEs', ↓wpCs, ↓wpI, ↓callW, ↓okArgs, ↓sigOk, ↓inouts, ↓lents, ↓peeks, ↓peek, ↓pk, ↓slot, ↓setOwn, ↓setC, ↓freeze, ↓isOwn, ↓isIo, ↓slC, ↓isLst, ↓asV, ↓asS, ↓asVs, ↓asSs, ↓isT, ↓R.still, ↓setMany, ↓bindT, ↓wipeE, ↓unwipe, ↓binD, ↓intBin, ↓cmpD, ↓eqD, ↓ordD, ↓ordI, ↓startE, ↓endsOf, ↓ioOf, ↓newsOf, ↓Sl.r, ↓itemsOf, ↓slcD, ↓revD, ↓b1D, ↓b2D, ↓isNoneD, ↓noRefR, ↓noRef, ↓noRefs, ite_self, ↓isTy, ↓List.getElem?_cons_zero, ↓List.getElem?_cons_succ, ↓List.getElem?_nil, ↓Option.join_some, ↓Option.join_none, ↓Option.isSome_some, ↓Option.isSome_none, ↓List.set_cons_zero, ↓List.set_cons_succ, ↓List.replicate, ↓List.length_cons, ↓List.length_nil, ↓List.isEmpty_cons, ↓List.isEmpty_nil, ↓List.all_cons, ↓List.all_nil, ↓List.filterMap_cons, ↓List.filterMap_nil, ↓List.contains_cons, ↓List.contains_nil, ↓Bool.and_true, ↓Bool.true_and, ↓Bool.and_false, ↓Bool.false_and, ↓Bool.not_true, ↓Bool.not_false, ↓if_true, ↓sh_int, ↓sh_bool, ↓sh_none, ↓eqv_ii, ↓eqv_bb, ↓eqv_ss, ↓brn_true, ↓brn_false, brn_true, brn_false, ↓List.any_cons, ↓List.any_nil, ↓if_false, ↓ite_true, ↓ite_false, ↓true_and, ↓and_true, ↓Bool.false_eq_true, ↓reduceCtorEq, ↓decide_true, ↓decide_false, ↓List.map_cons, ↓List.map_nil, ↓Tg.slots, ↓List.nodup_cons, ↓List.nodup_nil, ↓List.not_mem_nil, ↓not_false_eq_true, ↓forall_const, ↓true_implies, ↓bI, Nat.reduceAdd, Nat.reduceSub, Nat.reduceEqDiff, Int.reduceLT, Int.reduceLE, Nat.reduceLT, Nat.reduceLeDiff, Int.reduceNeg, Nat.reduceBEq, ↓BEq.rfl, ↓beq_self_eq_true, ↓Bool.or_false, ↓Bool.or_true]
    exact hq
  | int b =>
    simp -dsimp only [↓wpS, ↓wpE, ↓wpEs, ↓wpEs', ↓wpCs, ↓wpI, ↓callW, ↓okArgs, ↓sigOk, ↓inouts, ↓lents, ↓peeks, ↓peek, ↓pk, ↓slot, ↓setOwn, ↓setC, ↓freeze, ↓isOwn, ↓isIo, ↓slC, ↓isLst, ↓asV, ↓asS, ↓asVs, ↓asSs, ↓isT, ↓R.still, ↓setMany, ↓bindT, ↓wipeE, ↓unwipe, ↓binD, ↓intBin, ↓cmpD, ↓eqD, ↓ordD, ↓ordI, ↓startE, ↓endsOf, ↓ioOf, ↓newsOf, ↓Sl.r, ↓itemsOf, ↓slcD, ↓revD, ↓b1D, ↓b2D, ↓isNoneD, ↓noRefR, ↓noRef, ↓noRefs, ite_self, ↓isTy, ↓List.getElem?_cons_zero, ↓List.getElem?_cons_succ, ↓List.getElem?_nil, ↓Option.join_some, ↓Option.join_none, ↓Option.isSome_some, ↓Option.isSome_none, ↓List.set_cons_zero, ↓List.set_cons_succ, ↓List.replicate, ↓List.length_cons, ↓List.length_nil, ↓List.isEmpty_cons, ↓List.isEmpty_nil, ↓List.all_cons, ↓List.all_nil, ↓List.filterMap_cons, ↓List.filterMap_nil, ↓List.contains_cons, ↓List.contains_nil, ↓Bool.and_true, ↓Bool.true_and, ↓Bool.and_false, ↓Bool.false_and, ↓Bool.not_true, ↓Bool.not_false, ↓if_true, ↓sh_int, ↓sh_bool, ↓sh_none, ↓eqv_ii, ↓eqv_bb, ↓eqv_ss, ↓brn_true, ↓brn_false, brn_true, brn_false, ↓List.any_cons, ↓List.any_nil, ↓if_false, ↓ite_true, ↓ite_false, ↓true_and, ↓and_true, ↓Bool.false_eq_true, ↓reduceCtorEq, ↓decide_true, ↓decide_false, ↓List.map_cons, ↓List.map_nil, ↓Tg.slots, ↓List.nodup_cons, ↓List.nodup_nil, ↓List.not_mem_nil, ↓not_false_eq_true, ↓forall_const, ↓true_implies, ↓bI, Nat.reduceAdd, Nat.reduceSub, Nat.reduceEqDiff, Int.reduceLT, Int.reduceLE, Nat.reduceLT, Nat.reduceLeDiff, Int.reduceNeg, Nat.reduceBEq, ↓BEq.rfl, ↓beq_self_eq_true, ↓Bool.or_false, ↓Bool.or_true]
    exact hq
  | str b =>
    have hs : SeqAt.shaped (.str b) = true := by
      have : PyData.strOk b = true := by cases k <;> simpa [plainD] using hp
      exact ok.sh (k := 0) ⟨by rw [PyData.canLay0]; exact this, Nat.le_refl _⟩ (by decide)
    simp -dsimp only [↓wpS, ↓wpE, ↓wpEs, ↓wpEs', ↓wpCs, ↓wpI, ↓callW, ↓okArgs, ↓sigOk, ↓inouts, ↓lents, ↓peeks, ↓peek, ↓pk, ↓slot, ↓setOwn, ↓setC, ↓freeze, ↓isOwn, ↓isIo, ↓slC, ↓isLst, ↓asV, ↓asS, ↓asVs, ↓asSs, ↓isT, ↓R.still, ↓setMany, ↓bindT, ↓wipeE, ↓unwipe, ↓binD, ↓intBin, ↓cmpD, ↓eqD, ↓ordD, ↓ordI, ↓startE, ↓endsOf, ↓ioOf, ↓newsOf, ↓Sl.r, ↓itemsOf, ↓slcD, ↓revD, ↓b1D, ↓b2D, ↓isNoneD, ↓noRefR, ↓noRef, ↓noRefs, ite_self, ↓isTy, ↓List.getElem?_cons_zero, ↓List.getElem?_cons_succ, ↓List.getElem?_nil, ↓Option.join_some, ↓Option.join_none, ↓Option.isSome_some, ↓Option.isSome_none, ↓List.set_cons_zero, ↓List.set_cons_succ, ↓List.replicate, ↓List.length_cons, ↓List.length_nil, ↓List.isEmpty_cons, ↓List.isEmpty_nil, ↓List.all_cons, ↓List.all_nil, ↓List.filterMap_cons, ↓List.filterMap_nil, ↓List.contains_cons, ↓List.contains_nil, ↓Bool.and_true, ↓Bool.true_and, ↓Bool.and_false, ↓Bool.false_and, ↓Bool.not_true, ↓Bool.not_false, ↓if_true, ↓sh_int, ↓sh_bool, ↓sh_none, ↓eqv_ii, ↓eqv_bb, ↓eqv_ss, ↓brn_true, ↓brn_false, brn_true, brn_false, ↓List.any_cons, ↓List.any_nil, ↓if_false, ↓ite_true, ↓ite_false, ↓true_and, ↓and_true, ↓Bool.false_eq_true, ↓reduceCtorEq, ↓decide_true, ↓decide_false, ↓List.map_cons, ↓List.map_nil, ↓Tg.slots, ↓List.nodup_cons, ↓List.nodup_nil, ↓List.not_mem_nil, ↓not_false_eq_true, ↓forall_const, ↓true_implies, ↓bI, Nat.reduceAdd, Nat.reduceSub, Nat.reduceEqDiff, Int.reduceLT, Int.reduceLE, Nat.reduceLT, Nat.reduceLeDiff, Int.reduceNeg, Nat.reduceBEq, ↓BEq.rfl, ↓beq_self_eq_true, ↓Bool.or_false, ↓Bool.or_true]
    exact hq
  | tuple l =>
    obtain ⟨j, rfl, ⟨hl, hj⟩, hΦ⟩ := two l (.inl rfl)
    simp -dsimp only [↓wpS, ↓wpE, ↓wpEs, ↓wpEs', ↓wpCs, ↓wpI, ↓callW, ↓okArgs, ↓sigOk, ↓inouts, ↓lents, ↓peeks, ↓peek, ↓pk, ↓slot, ↓setOwn, ↓setC, ↓freeze, ↓isOwn, ↓isIo, ↓slC, ↓isLst, ↓asV, ↓asS, ↓asVs, ↓asSs, ↓isT, ↓R.still, ↓setMany, ↓bindT, ↓wipeE, ↓unwipe, ↓binD, ↓intBin, ↓cmpD, ↓eqD, ↓ordD, ↓ordI, ↓startE, ↓endsOf, ↓ioOf, ↓newsOf, ↓Sl.r, ↓itemsOf, ↓slcD, ↓revD, ↓b1D, ↓b2D, ↓isNoneD, ↓noRefR, ↓noRef, ↓noRefs, ite_self, ↓isTy, ↓List.getElem?_cons_zero, ↓List.getElem?_cons_succ, ↓List.getElem?_nil, ↓Option.join_some, ↓Option.join_none, ↓Option.isSome_some, ↓Option.isSome_none, ↓List.set_cons_zero, ↓List.set_cons_succ, ↓List.replicate, ↓List.length_cons, ↓List.length_nil, ↓List.isEmpty_cons, ↓List.isEmpty_nil, ↓List.all_cons, ↓List.all_nil, ↓List.filterMap_cons, ↓List.filterMap_nil, ↓List.contains_cons, ↓List.contains_nil, ↓Bool.and_true, ↓Bool.true_and, ↓Bool.and_false, ↓Bool.false_and, ↓Bool.not_true, ↓Bool.not_false, ↓if_true, ↓sh_int, ↓sh_bool, ↓sh_none, ↓eqv_ii, ↓eqv_bb, ↓eqv_ss, ↓brn_true, ↓brn_false, brn_true, brn_false, ↓List.any_cons, ↓List.any_nil, ↓if_false, ↓ite_true, ↓ite_false, ↓true_and, ↓and_true, ↓Bool.false_eq_true, ↓reduceCtorEq, ↓decide_true, ↓decide_false, ↓List.map_cons, ↓List.map_nil, ↓Tg.slots, ↓List.nodup_cons, ↓List.nodup_nil, ↓List.not_mem_nil, ↓not_false_eq_true, ↓forall_const, ↓true_implies, ↓bI, Nat.reduceAdd, Nat.reduceSub, Nat.reduceEqDiff, Int.reduceLT, Int.reduceLE, Nat.reduceLT, Nat.reduceLeDiff, Int.reduceNeg, Nat.reduceBEq, ↓BEq.rfl, ↓beq_self_eq_true, ↓Bool.or_false, ↓Bool.or_true]
    refine ⟨fun _ => trivial, by rw [pairs2_length, Nat.min_self]; exact Nat.lt_of_lt_of_le hl (by decide), lc_map (fun _ => .bool true) (fun x acc N hx next => ?_) ?_⟩
    · obtain ⟨i, hi⟩ := List.getElem?_of_mem hx
      obtain ⟨a, b, rfl, h1, h2⟩ := pairs2_some hi
      rw [h1] at h2
      cases h2
      unfold f_law_same_e1
      simp -dsimp only [↓wpS, ↓wpE, ↓wpEs, ↓wpEs', ↓wpCs, ↓wpI, ↓callW, ↓okArgs, ↓sigOk, ↓inouts, ↓lents, ↓peeks, ↓peek, ↓pk, ↓slot, ↓setOwn, ↓setC, ↓freeze, ↓isOwn, ↓isIo, ↓slC, ↓isLst, ↓asV, ↓asS, ↓asVs, ↓asSs, ↓isT, ↓R.still, ↓setMany, ↓bindT, ↓wipeE, ↓unwipe, ↓binD, ↓intBin, ↓cmpD, ↓eqD, ↓ordD, ↓ordI, ↓startE, ↓endsOf, ↓ioOf, ↓newsOf, ↓Sl.r, ↓itemsOf, ↓slcD, ↓revD, ↓b1D, ↓b2D, ↓isNoneD, ↓noRefR, ↓noRef, ↓noRefs, ite_self, ↓isTy, ↓List.getElem?_cons_zero, ↓List.getElem?_cons_succ, ↓List.getElem?_nil, ↓Option.join_some, ↓Option.join_none, ↓Option.isSome_some, ↓Option.isSome_none, ↓List.set_cons_zero, ↓List.set_cons_succ, ↓List.replicate, ↓List.length_cons, ↓List.length_nil, ↓List.isEmpty_cons, ↓List.isEmpty_nil, ↓List.all_cons, ↓List.all_nil, ↓List.filterMap_cons, ↓List.filterMap_nil, ↓List.contains_cons, ↓List.contains_nil, ↓Bool.and_true, ↓Bool.true_and, ↓Bool.and_false, ↓Bool.false_and, ↓Bool.not_true, ↓Bool.not_false, ↓if_true, ↓sh_int, ↓sh_bool, ↓sh_none, ↓eqv_ii, ↓eqv_bb, ↓eqv_ss, ↓brn_true, ↓brn_false, brn_true, brn_false, ↓List.any_cons, ↓List.any_nil, ↓if_false, ↓ite_true, ↓ite_false, ↓true_and, ↓and_true, ↓Bool.false_eq_true, ↓reduceCtorEq, ↓decide_true, ↓decide_false, ↓List.map_cons, ↓List.map_nil, ↓Tg.slots, ↓List.nodup_cons, ↓List.nodup_nil, ↓List.not_mem_nil, ↓not_false_eq_true, ↓forall_const, ↓true_implies, ↓bI, Nat.reduceAdd, Nat.reduceSub, Nat.reduceEqDiff, Int.reduceLT, Int.reduceLE, Nat.reduceLT, Nat.reduceLeDiff, Int.reduceNeg, Nat.reduceBEq, ↓BEq.rfl, ↓beq_self_eq_true, ↓Bool.or_false, ↓Bool.or_true]
      refine ⟨_, rfl, ?_⟩
      rw [hΦ]
      refine ⟨⟨a, rfl, plainDs_mem hj (List.mem_of_getElem? h1)⟩, fun _ => ?_⟩
      simp -dsimp only [↓wpS, ↓wpE, ↓wpEs, ↓wpEs', ↓wpCs, ↓wpI, ↓callW, ↓okArgs, ↓sigOk, ↓inouts, ↓lents, ↓peeks, ↓peek, ↓pk, ↓slot, ↓setOwn, ↓setC, ↓freeze, ↓isOwn, ↓isIo, ↓slC, ↓isLst, ↓asV, ↓asS, ↓asVs, ↓asSs, ↓isT, ↓R.still, ↓setMany, ↓bindT, ↓wipeE, ↓unwipe, ↓binD, ↓intBin, ↓cmpD, ↓eqD, ↓ordD, ↓ordI, ↓startE, ↓endsOf, ↓ioOf, ↓newsOf, ↓Sl.r, ↓itemsOf, ↓slcD, ↓revD, ↓b1D, ↓b2D, ↓isNoneD, ↓noRefR, ↓noRef, ↓noRefs, ite_self, ↓isTy, ↓List.getElem?_cons_zero, ↓List.getElem?_cons_succ, ↓List.getElem?_nil, ↓Option.join_some, ↓Option.join_none, ↓Option.isSome_some, ↓Option.isSome_none, ↓List.set_cons_zero, ↓List.set_cons_succ, ↓List.replicate, ↓List.length_cons, ↓List.length_nil, ↓List.isEmpty_cons, ↓List.isEmpty_nil, ↓List.all_cons, ↓List.all_nil, ↓List.filterMap_cons, ↓List.filterMap_nil, ↓List.contains_cons, ↓List.contains_nil, ↓Bool.and_true, ↓Bool.true_and, ↓Bool.and_false, ↓Bool.false_and, ↓Bool.not_true, ↓Bool.not_false, ↓if_true, ↓sh_int, ↓sh_bool, ↓sh_none, ↓eqv_ii, ↓eqv_bb, ↓eqv_ss, ↓brn_true, ↓brn_false, brn_true, brn_false, ↓List.any_cons, ↓List.any_nil, ↓if_false, ↓ite_true, ↓ite_false, ↓true_and, ↓and_true, ↓Bool.false_eq_true, ↓reduceCtorEq, ↓decide_true, ↓decide_false, ↓List.map_cons, ↓List.map_nil, ↓Tg.slots, ↓List.nodup_cons, ↓List.nodup_nil, ↓List.not_mem_nil, ↓not_false_eq_true, ↓forall_const, ↓true_implies, ↓bI, Nat.reduceAdd, Nat.reduceSub, Nat.reduceEqDiff, Int.reduceLT, Int.reduceLE, Nat.reduceLT, Nat.reduceLeDiff, Int.reduceNeg, Nat.reduceBEq, ↓BEq.rfl, ↓beq_self_eq_true, ↓Bool.or_false, ↓Bool.or_true]
      exact next _ rfl
    · simp -dsimp only [↓wpS, ↓wpE, ↓wpEs, ↓wpEs', ↓wpCs, ↓wpI, ↓callW, ↓okArgs, ↓sigOk, ↓inouts, ↓lents, ↓peeks, ↓peek, ↓pk, ↓slot, ↓setOwn, ↓setC, ↓freeze, ↓isOwn, ↓isIo, ↓slC, ↓isLst, ↓asV, ↓asS, ↓asVs, ↓asSs, ↓isT, ↓R.still, ↓setMany, ↓bindT, ↓wipeE, ↓unwipe, ↓binD, ↓intBin, ↓cmpD, ↓eqD, ↓ordD, ↓ordI, ↓startE, ↓endsOf, ↓ioOf, ↓newsOf, ↓Sl.r, ↓itemsOf, ↓slcD, ↓revD, ↓b1D, ↓b2D, ↓isNoneD, ↓noRefR, ↓noRef, ↓noRefs, ite_self, ↓isTy, ↓List.getElem?_cons_zero, ↓List.getElem?_cons_succ, ↓List.getElem?_nil, ↓Option.join_some, ↓Option.join_none, ↓Option.isSome_some, ↓Option.isSome_none, ↓List.set_cons_zero, ↓List.set_cons_succ, ↓List.replicate, ↓List.length_cons, ↓List.length_nil, ↓List.isEmpty_cons, ↓List.isEmpty_nil, ↓List.all_cons, ↓List.all_nil, ↓List.filterMap_cons, ↓List.filterMap_nil, ↓List.contains_cons, ↓List.contains_nil, ↓Bool.and_true, ↓Bool.true_and, ↓Bool.and_false, ↓Bool.false_and, ↓Bool.not_true, ↓Bool.not_false, ↓if_true, ↓sh_int, ↓sh_bool, ↓sh_none, ↓eqv_ii, ↓eqv_bb, ↓eqv_ss, ↓brn_true, ↓brn_false, brn_true, brn_false, ↓List.any_cons, ↓List.any_nil, ↓if_false, ↓ite_true, ↓ite_false, ↓true_and, ↓and_true, ↓Bool.false_eq_true, ↓reduceCtorEq, ↓decide_true, ↓decide_false, ↓List.map_cons, ↓List.map_nil, ↓Tg.slots, ↓List.nodup_cons, ↓List.nodup_nil, ↓List.not_mem_nil, ↓not_false_eq_true, ↓forall_const, ↓true_implies, ↓bI, Nat.reduceAdd, Nat.reduceSub, Nat.reduceEqDiff, Int.reduceLT, Int.reduceLE, Nat.reduceLT, Nat.reduceLeDiff, Int.reduceNeg, Nat.reduceBEq, ↓BEq.rfl, ↓beq_self_eq_true, ↓Bool.or_false, ↓Bool.or_true]
      exact no_false hq
  | list l =>
    obtain ⟨j, rfl, ⟨hl, hj⟩, hΦ⟩ := two l (.inr rfl)
    simp -dsimp only [↓wpS, ↓wpE, ↓wpEs, ↓wpEs', ↓wpCs, ↓wpI, ↓callW, ↓okArgs, ↓sigOk, ↓inouts, ↓lents, ↓peeks, ↓peek, ↓pk, ↓slot, ↓setOwn, ↓setC, ↓freeze, ↓isOwn, ↓isIo, ↓slC, ↓isLst, ↓asV, ↓asS, ↓asVs, ↓asSs, ↓isT, ↓R.still, ↓setMany, ↓bindT, ↓wipeE, ↓unwipe, ↓binD, ↓intBin, ↓cmpD, ↓eqD, ↓ordD, ↓ordI, ↓startE, ↓endsOf, ↓ioOf, ↓newsOf, ↓Sl.r, ↓itemsOf, ↓slcD, ↓revD, ↓b1D, ↓b2D, ↓isNoneD, ↓noRefR, ↓noRef, ↓noRefs, ite_self, ↓isTy, ↓List.getElem?_cons_zero, ↓List.getElem?_cons_succ, ↓List.getElem?_nil, ↓Option.join_some, ↓Option.join_none, ↓Option.isSome_some, ↓Option.isSome_none, ↓List.set_cons_zero, ↓List.set_cons_succ, ↓List.replicate, ↓List.length_cons, ↓List.length_nil, ↓List.isEmpty_cons, ↓List.isEmpty_nil, ↓List.all_cons, ↓List.all_nil, ↓List.filterMap_cons, ↓List.filterMap_nil, ↓List.contains_cons, ↓List.contains_nil, ↓Bool.and_true, ↓Bool.true_and, ↓Bool.and_false, ↓Bool.false_and, ↓Bool.not_true, ↓Bool.not_false, ↓if_true, ↓sh_int, ↓sh_bool, ↓sh_none, ↓eqv_ii, ↓eqv_bb, ↓eqv_ss, ↓brn_true, ↓brn_false, brn_true, brn_false, ↓List.any_cons, ↓List.any_nil, ↓if_false, ↓ite_true, ↓ite_false, ↓true_and, ↓and_true, ↓Bool.false_eq_true, ↓reduceCtorEq, ↓decide_true, ↓decide_false, ↓List.map_cons, ↓List.map_nil, ↓Tg.slots, ↓List.nodup_cons, ↓List.nodup_nil, ↓List.not_mem_nil, ↓not_false_eq_true, ↓forall_const, ↓true_implies, ↓bI, Nat.reduceAdd, Nat.reduceSub, Nat.reduceEqDiff, Int.reduceLT, Int.reduceLE, Nat.reduceLT, Nat.reduceLeDiff, Int.reduceNeg, Nat.reduceBEq, ↓BEq.rfl, ↓beq_self_eq_true, ↓Bool.or_false, ↓Bool.or_true]
    refine ⟨fun _ => trivial, by rw [pairs2_length, Nat.min_self]; exact Nat.lt_of_lt_of_le hl (by decide), lc_map (fun _ => .bool true) (fun x acc N hx next => ?_) ?_⟩
    · obtain ⟨i, hi⟩ := List.getElem?_of_mem hx
      obtain ⟨a, b, rfl, h1, h2⟩ := pairs2_some hi
      rw [h1] at h2
      cases h2
      unfold f_law_same_e1
      simp -dsimp only [↓wpS, ↓wpE, ↓wpEs, ↓wpEs', ↓wpCs, ↓wpI, ↓callW, ↓okArgs, ↓sigOk, ↓inouts, ↓lents, ↓peeks, ↓peek, ↓pk, ↓slot, ↓setOwn, ↓setC, ↓freeze, ↓isOwn, ↓isIo, ↓slC, ↓isLst, ↓asV, ↓asS, ↓asVs, ↓asSs, ↓isT, ↓R.still, ↓setMany, ↓bindT, ↓wipeE, ↓unwipe, ↓binD, ↓intBin, ↓cmpD, ↓eqD, ↓ordD, ↓ordI, ↓startE, ↓endsOf, ↓ioOf, ↓newsOf, ↓Sl.r, ↓itemsOf, ↓slcD, ↓revD, ↓b1D, ↓b2D, ↓isNoneD, ↓noRefR, ↓noRef, ↓noRefs, ite_self, ↓isTy, ↓List.getElem?_cons_zero, ↓List.getElem?_cons_succ, ↓List.getElem?_nil, ↓Option.join_some, ↓Option.join_none, ↓Option.isSome_some, ↓Option.isSome_none, ↓List.set_cons_zero, ↓List.set_cons_succ, ↓List.replicate, ↓List.length_cons, ↓List.length_nil, ↓List.isEmpty_cons, ↓List.isEmpty_nil, ↓List.all_cons, ↓List.all_nil, ↓List.filterMap_cons, ↓List.filterMap_nil, ↓List.contains_cons, ↓List.contains_nil, ↓Bool.and_true, ↓Bool.true_and, ↓Bool.and_false, ↓Bool.false_and, ↓Bool.not_true, ↓Bool.not_false, ↓if_true, ↓sh_int, ↓sh_bool, ↓sh_none, ↓eqv_ii, ↓eqv_bb, ↓eqv_ss, ↓brn_true, ↓brn_false, brn_true, brn_false, ↓List.any_cons, ↓List.any_nil, ↓if_false, ↓ite_true, ↓ite_false, ↓true_and, ↓and_true, ↓Bool.false_eq_true, ↓reduceCtorEq, ↓decide_true, ↓decide_false, ↓List.map_cons, ↓List.map_nil, ↓Tg.slots, ↓List.nodup_cons, ↓List.nodup_nil, ↓List.not_mem_nil, ↓not_false_eq_true, ↓forall_const, ↓true_implies, ↓bI, Nat.reduceAdd, Nat.reduceSub, Nat.reduceEqDiff, Int.reduceLT, Int.reduceLE, Nat.reduceLT, Nat.reduceLeDiff, Int.reduceNeg, Nat.reduceBEq, ↓BEq.rfl, ↓beq_self_eq_true, ↓Bool.or_false, ↓Bool.or_true]
      refine ⟨_, rfl, ?_⟩
      rw [hΦ]
      refine ⟨⟨a, rfl, plainDs_mem hj (List.mem_of_getElem? h1)⟩, fun _ => ?_⟩
      simp -dsimp only [↓wpS, ↓wpE, ↓wpEs, ↓wpEs', ↓wpCs, ↓wpI, ↓callW, ↓okArgs, ↓sigOk, ↓inouts, ↓lents, ↓peeks, ↓peek, ↓pk, ↓slot, ↓setOwn, ↓setC, ↓freeze, ↓isOwn, ↓isIo, ↓slC, ↓isLst, ↓asV, ↓asS, ↓asVs, ↓asSs, ↓isT, ↓R.still, ↓setMany, ↓bindT, ↓wipeE, ↓unwipe, ↓binD, ↓intBin, ↓cmpD, ↓eqD, ↓ordD, ↓ordI, ↓startE, ↓endsOf, ↓ioOf, ↓newsOf, ↓Sl.r, ↓itemsOf, ↓slcD, ↓revD, ↓b1D, ↓b2D, ↓isNoneD, ↓noRefR, ↓noRef, ↓noRefs, ite_self, ↓isTy, ↓List.getElem?_cons_zero, ↓List.getElem?_cons_succ, ↓List.getElem?_nil, ↓Option.join_some, ↓Option.join_none, ↓Option.isSome_some, ↓Option.isSome_none, ↓List.set_cons_zero, ↓List.set_cons_succ, ↓List.replicate, ↓List.length_cons, ↓List.length_nil, ↓List.isEmpty_cons, ↓List.isEmpty_nil, ↓List.all_cons, ↓List.all_nil, ↓List.filterMap_cons, ↓List.filterMap_nil, ↓List.contains_cons, ↓List.contains_nil, ↓Bool.and_true, ↓Bool.true_and, ↓Bool.and_false, ↓Bool.false_and, ↓Bool.not_true, ↓Bool.not_false, ↓if_true, ↓sh_int, ↓sh_bool, ↓sh_none, ↓eqv_ii, ↓eqv_bb, ↓eqv_ss, ↓brn_true, ↓brn_false, brn_true, brn_false, ↓List.any_cons, ↓List.any_nil, ↓if_false, ↓ite_true, ↓ite_false, ↓true_and, ↓and_true, ↓Bool.false_eq_true, ↓reduceCtorEq, ↓decide_true, ↓decide_false, ↓List.map_cons, ↓List.map_nil, ↓Tg.slots, ↓List.nodup_cons, ↓List.nodup_nil, ↓List.not_mem_nil, ↓not_false_eq_true, ↓forall_const, ↓true_implies, ↓bI, Nat.reduceAdd, Nat.reduceSub, Nat.reduceEqDiff, Int.reduceLT, Int.reduceLE, Nat.reduceLT, Nat.reduceLeDiff, Int.reduceNeg, Nat.reduceBEq, ↓BEq.rfl, ↓beq_self_eq_true, ↓Bool.or_false, ↓Bool.or_true]
      exact next _ rfl
    · simp -dsimp only [↓wpS, ↓wpE, ↓wpEs, ↓wpEs', ↓wpCs, ↓wpI, ↓callW, ↓okArgs, ↓sigOk, ↓inouts, ↓lents, ↓peeks, ↓peek, ↓pk, ↓slot, ↓setOwn, ↓setC, ↓freeze, ↓isOwn, ↓isIo, ↓slC, ↓isLst, ↓asV, ↓asS, ↓asVs, ↓asSs, ↓isT, ↓R.still, ↓setMany, ↓bindT, ↓wipeE, ↓unwipe, ↓binD, ↓intBin, ↓cmpD, ↓eqD, ↓ordD, ↓ordI, ↓startE, ↓endsOf, ↓ioOf, ↓newsOf, ↓Sl.r, ↓itemsOf, ↓slcD, ↓revD, ↓b1D, ↓b2D, ↓isNoneD, ↓noRefR, ↓noRef, ↓noRefs, ite_self, ↓isTy, ↓List.getElem?_cons_zero, ↓List.getElem?_cons_succ, ↓List.getElem?_nil, ↓Option.join_some, ↓Option.join_none, ↓Option.isSome_some, ↓Option.isSome_none, ↓List.set_cons_zero, ↓List.set_cons_succ, ↓List.replicate, ↓List.length_cons, ↓List.length_nil, ↓List.isEmpty_cons, ↓List.isEmpty_nil, ↓List.all_cons, ↓List.all_nil, ↓List.filterMap_cons, ↓List.filterMap_nil, ↓List.contains_cons, ↓List.contains_nil, ↓Bool.and_true, ↓Bool.true_and, ↓Bool.and_false, ↓Bool.false_and, ↓Bool.not_true, ↓Bool.not_false, ↓if_true, ↓sh_int, ↓sh_bool, ↓sh_none, ↓eqv_ii, ↓eqv_bb, ↓eqv_ss, ↓brn_true, ↓brn_false, brn_true, brn_false, ↓List.any_cons, ↓List.any_nil, ↓if_false, ↓ite_true, ↓ite_false, ↓true_and, ↓and_true, ↓Bool.false_eq_true, ↓reduceCtorEq, ↓decide_true, ↓decide_false, ↓List.map_cons, ↓List.map_nil, ↓Tg.slots, ↓List.nodup_cons, ↓List.nodup_nil, ↓List.not_mem_nil, ↓not_false_eq_true, ↓forall_const, ↓true_implies, ↓bI, Nat.reduceAdd, Nat.reduceSub, Nat.reduceEqDiff, Int.reduceLT, Int.reduceLE, Nat.reduceLT, Nat.reduceLeDiff, Int.reduceNeg, Nat.reduceBEq, ↓BEq.rfl, ↓beq_self_eq_true, ↓Bool.or_false, ↓Bool.or_true]
      exact no_false hq
end Co

set_option linter.all false
namespace Co
open PySem
/-! ### houses -/
def intsD (l : List Int) : PyData := .tuple (l.map .int)
def houseD (n : Nat) (ps : List (List Int)) : PyData := .tuple [.int n, .tuple (ps.map intsD)]
/-- ascending, below n -/
def asc (n : Nat) (l : List Int) : Prop := l.Pairwise (· < ·) ∧ ∀ x ∈ l, 0 ≤ x ∧ x < n
theorem Pen.mono {t u : Nat} {d : PyData} (h : Pen t d) (q : t ≤ u) : Pen u d := by
  obtain ⟨a, b, c, e, h1, h2, h3⟩ := h
  exact ⟨a, b, c, e, h1, by omega, h3⟩
def drawHouseSp : Spec := fun ds Q => ∃ t pen, ∃ people posts rare : Nat, ds = [pen, .int people, .int posts, .int rare] ∧ Pen t pen ∧ t < 900000 ∧ 0 < people ∧ people ≤ 20 ∧ posts ≤ 20 ∧ 0 < rare ∧ rare ≤ 100 ∧
  ∀ (n : Nat) (ps : List (List Int)) pen', 0 < n → n ≤ people → ps.length ≤ posts → (∀ l ∈ ps, asc n l) → Pen (t + 1000) pen' → Q (.val (houseD n ps)) [pen']
theorem draw_house_ok (Φ : Tbl) (h : Φ "_law_take" = takeSp) : Impl Φ [true, false, false, false] 8 f_law_draw_house drawHouseSp := by
  rintro ds Q ⟨t, pen, people, posts, rare, rfl, hp, ht, p1, p2, q1, r1, r2, k⟩ _
  unfold f_law_draw_house
  simp -dsimp only [↓wpS, ↓wpE, ↓wpEs, ↓wpEs', ↓wpCs, ↓wpI, ↓callW, ↓okArgs, ↓sigOk, ↓inouts, ↓lents, ↓peeks, ↓peek, ↓pk, ↓slot, ↓setOwn, ↓setC, ↓freeze, ↓isOwn, ↓isIo, ↓slC, ↓isLst, ↓asV, ↓asS, ↓asVs, ↓asSs, ↓isT, ↓R.still, ↓setMany, ↓bindT, ↓wipeE, ↓unwipe, ↓binD, ↓intBin, ↓cmpD, ↓eqD, ↓ordD, ↓ordI, ↓startE, ↓endsOf, ↓ioOf, ↓newsOf, ↓Sl.r, ↓itemsOf, ↓slcD, ↓revD, ↓b1D, ↓b2D, ↓isNoneD, ↓noRefR, ↓noRef, ↓noRefs, ite_self, ↓isTy, ↓List.getElem?_cons_zero, ↓List.getElem?_cons_succ, ↓List.getElem?_nil, ↓Option.join_some, ↓Option.join_none, ↓Option.isSome_some, ↓Option.isSome_none, ↓List.set_cons_zero, ↓List.set_cons_succ, ↓List.replicate, ↓List.length_cons, ↓List.length_nil, ↓List.isEmpty_cons, ↓List.isEmpty_nil, ↓List.all_cons, ↓List.all_nil, ↓List.filterMap_cons, ↓List.filterMap_nil, ↓List.contains_cons, ↓List.contains_nil, ↓Bool.and_true, ↓Bool.true_and, ↓Bool.and_false, ↓Bool.false_and, ↓Bool.not_true, ↓Bool.not_false, ↓if_true, ↓sh_int, ↓sh_bool, ↓sh_none, ↓eqv_ii, ↓eqv_bb, ↓eqv_ss, ↓brn_true, ↓brn_false, brn_true, brn_false, ↓List.any_cons, ↓List.any_nil, ↓if_false, ↓ite_true, ↓ite_false, ↓true_and, ↓and_true, ↓Bool.false_eq_true, ↓reduceCtorEq, ↓decide_true, ↓decide_false, ↓List.map_cons, ↓List.map_nil, ↓Tg.slots, ↓List.nodup_cons, ↓List.nodup_nil, ↓List.not_mem_nil, ↓not_false_eq_true, ↓forall_const, ↓true_implies, ↓bI, Nat.reduceAdd, Nat.reduceSub, Nat.reduceEqDiff, Int.reduceLT, Int.reduceLE, Nat.reduceLT, Nat.reduceLeDiff, Int.reduceNeg, Nat.reduceBEq, ↓BEq.rfl, ↓beq_self_eq_true, ↓Bool.or_false, ↓Bool.or_true]
  refine ⟨_, rfl, ?_⟩
  rw [h]
  refine ⟨t, pen, _, rfl, hp, by omega, by omega, by omega, fun r pen1 a b c _ => ?_⟩
  obtain ⟨n, hn⟩ : ∃ n : Nat, (1 : Int) + r = n := ⟨(1 + r).toNat, by omega⟩
  have n0 : 0 < n := by omega
  have n1 : n ≤ people := by omega
  simp -dsimp only [↓wpS, ↓wpE, ↓wpEs, ↓wpEs', ↓wpCs, ↓wpI, ↓callW, ↓okArgs, ↓sigOk, ↓inouts, ↓lents, ↓peeks, ↓peek, ↓pk, ↓slot, ↓setOwn, ↓setC, ↓freeze, ↓isOwn, ↓isIo, ↓slC, ↓isLst, ↓asV, ↓asS, ↓asVs, ↓asSs, ↓isT, ↓R.still, ↓setMany, ↓bindT, ↓wipeE, ↓unwipe, ↓binD, ↓intBin, ↓cmpD, ↓eqD, ↓ordD, ↓ordI, ↓startE, ↓endsOf, ↓ioOf, ↓newsOf, ↓Sl.r, ↓itemsOf, ↓slcD, ↓revD, ↓b1D, ↓b2D, ↓isNoneD, ↓noRefR, ↓noRef, ↓noRefs, ite_self, ↓isTy, ↓List.getElem?_cons_zero, ↓List.getElem?_cons_succ, ↓List.getElem?_nil, ↓Option.join_some, ↓Option.join_none, ↓Option.isSome_some, ↓Option.isSome_none, ↓List.set_cons_zero, ↓List.set_cons_succ, ↓List.replicate, ↓List.length_cons, ↓List.length_nil, ↓List.isEmpty_cons, ↓List.isEmpty_nil, ↓List.all_cons, ↓List.all_nil, ↓List.filterMap_cons, ↓List.filterMap_nil, ↓List.contains_cons, ↓List.contains_nil, ↓Bool.and_true, ↓Bool.true_and, ↓Bool.and_false, ↓Bool.false_and, ↓Bool.not_true, ↓Bool.not_false, ↓if_true, ↓sh_int, ↓sh_bool, ↓sh_none, ↓eqv_ii, ↓eqv_bb, ↓eqv_ss, ↓brn_true, ↓brn_false, brn_true, brn_false, ↓List.any_cons, ↓List.any_nil, ↓if_false, ↓ite_true, ↓ite_false, ↓true_and, ↓and_true, ↓Bool.false_eq_true, ↓reduceCtorEq, ↓decide_true, ↓decide_false, ↓List.map_cons, ↓List.map_nil, ↓Tg.slots, ↓List.nodup_cons, ↓List.nodup_nil, ↓List.not_mem_nil, ↓not_false_eq_true, ↓forall_const, ↓true_implies, ↓bI, Nat.reduceAdd, Nat.reduceSub, Nat.reduceEqDiff, Int.reduceLT, Int.reduceLE, Nat.reduceLT, Nat.reduceLeDiff, Int.reduceNeg, Nat.reduceBEq, ↓BEq.rfl, ↓beq_self_eq_true, ↓Bool.or_false, ↓Bool.or_true]
  rw [hn]
  refine ⟨_, rfl, ?_⟩
  rw [h]
  refine ⟨t + 1, pen1, _, rfl, c, by omega, by omega, by omega, fun r2 pen2 a2 b2 c2 _ => ?_⟩
  simp -dsimp only [↓wpS, ↓wpE, ↓wpEs, ↓wpEs', ↓wpCs, ↓wpI, ↓callW, ↓okArgs, ↓sigOk, ↓inouts, ↓lents, ↓peeks, ↓peek, ↓pk, ↓slot, ↓setOwn, ↓setC, ↓freeze, ↓isOwn, ↓isIo, ↓slC, ↓isLst, ↓asV, ↓asS, ↓asVs, ↓asSs, ↓isT, ↓R.still, ↓setMany, ↓bindT, ↓wipeE, ↓unwipe, ↓binD, ↓intBin, ↓cmpD, ↓eqD, ↓ordD, ↓ordI, ↓startE, ↓endsOf, ↓ioOf, ↓newsOf, ↓Sl.r, ↓itemsOf, ↓slcD, ↓revD, ↓b1D, ↓b2D, ↓isNoneD, ↓noRefR, ↓noRef, ↓noRefs, ite_self, ↓isTy, ↓List.getElem?_cons_zero, ↓List.getElem?_cons_succ, ↓List.getElem?_nil, ↓Option.join_some, ↓Option.join_none, ↓Option.isSome_some, ↓Option.isSome_none, ↓List.set_cons_zero, ↓List.set_cons_succ, ↓List.replicate, ↓List.length_cons, ↓List.length_nil, ↓List.isEmpty_cons, ↓List.isEmpty_nil, ↓List.all_cons, ↓List.all_nil, ↓List.filterMap_cons, ↓List.filterMap_nil, ↓List.contains_cons, ↓List.contains_nil, ↓Bool.and_true, ↓Bool.true_and, ↓Bool.and_false, ↓Bool.false_and, ↓Bool.not_true, ↓Bool.not_false, ↓if_true, ↓sh_int, ↓sh_bool, ↓sh_none, ↓eqv_ii, ↓eqv_bb, ↓eqv_ss, ↓brn_true, ↓brn_false, brn_true, brn_false, ↓List.any_cons, ↓List.any_nil, ↓if_false, ↓ite_true, ↓ite_false, ↓true_and, ↓and_true, ↓Bool.false_eq_true, ↓reduceCtorEq, ↓decide_true, ↓decide_false, ↓List.map_cons, ↓List.map_nil, ↓Tg.slots, ↓List.nodup_cons, ↓List.nodup_nil, ↓List.not_mem_nil, ↓not_false_eq_true, ↓forall_const, ↓true_implies, ↓bI, Nat.reduceAdd, Nat.reduceSub, Nat.reduceEqDiff, Int.reduceLT, Int.reduceLE, Nat.reduceLT, Nat.reduceLeDiff, Int.reduceNeg, Nat.reduceBEq, ↓BEq.rfl, ↓beq_self_eq_true, ↓Bool.or_false, ↓Bool.or_true]
  refine ⟨by omega, by omega, for_inv (fun i e => ∃ (ps : List (List Int)) (pen' : PyData) (x4 x7 : Option Sl), e = [some (.io pen'), some (.val (.int people)), some (.val (.int posts)), some (.val (.int rare)), x4, some (.val (.int n)), some (.own (.list (ps.map intsD))), x7] ∧
    ps.length = i ∧ (∀ l ∈ ps, asc n l) ∧ Pen (t + 2 + 40 * i) pen') ⟨[], pen2, none, none, rfl, rfl, by simp, c2⟩ ?_ ?_⟩
  · rintro i x e N hx ⟨ps, pen', x4, x7, rfl, hl, hasc, hpen⟩ next
    obtain ⟨rfl, hi⟩ := range_some hx
    unfold f_law_draw_house_b1
    simp -dsimp only [↓wpS, ↓wpE, ↓wpEs, ↓wpEs', ↓wpCs, ↓wpI, ↓callW, ↓okArgs, ↓sigOk, ↓inouts, ↓lents, ↓peeks, ↓peek, ↓pk, ↓slot, ↓setOwn, ↓setC, ↓freeze, ↓isOwn, ↓isIo, ↓slC, ↓isLst, ↓asV, ↓asS, ↓asVs, ↓asSs, ↓isT, ↓R.still, ↓setMany, ↓bindT, ↓wipeE, ↓unwipe, ↓binD, ↓intBin, ↓cmpD, ↓eqD, ↓ordD, ↓ordI, ↓startE, ↓endsOf, ↓ioOf, ↓newsOf, ↓Sl.r, ↓itemsOf, ↓slcD, ↓revD, ↓b1D, ↓b2D, ↓isNoneD, ↓noRefR, ↓noRef, ↓noRefs, ite_self, ↓isTy, ↓List.getElem?_cons_zero, ↓List.getElem?_cons_succ, ↓List.getElem?_nil, ↓Option.join_some, ↓Option.join_none, ↓Option.isSome_some, ↓Option.isSome_none, ↓List.set_cons_zero, ↓List.set_cons_succ, ↓List.replicate, ↓List.length_cons, ↓List.length_nil, ↓List.isEmpty_cons, ↓List.isEmpty_nil, ↓List.all_cons, ↓List.all_nil, ↓List.filterMap_cons, ↓List.filterMap_nil, ↓List.contains_cons, ↓List.contains_nil, ↓Bool.and_true, ↓Bool.true_and, ↓Bool.and_false, ↓Bool.false_and, ↓Bool.not_true, ↓Bool.not_false, ↓if_true, ↓sh_int, ↓sh_bool, ↓sh_none, ↓eqv_ii, ↓eqv_bb, ↓eqv_ss, ↓brn_true, ↓brn_false, brn_true, brn_false, ↓List.any_cons, ↓List.any_nil, ↓if_false, ↓ite_true, ↓ite_false, ↓true_and, ↓and_true, ↓Bool.false_eq_true, ↓reduceCtorEq, ↓decide_true, ↓decide_false, ↓List.map_cons, ↓List.map_nil, ↓Tg.slots, ↓List.nodup_cons, ↓List.nodup_nil, ↓List.not_mem_nil, ↓not_false_eq_true, ↓forall_const, ↓true_implies, ↓bI, Nat.reduceAdd, Nat.reduceSub, Nat.reduceEqDiff, Int.reduceLT, Int.reduceLE, Nat.reduceLT, Nat.reduceLeDiff, Int.reduceNeg, Nat.reduceBEq, ↓BEq.rfl, ↓beq_self_eq_true, ↓Bool.or_false, ↓Bool.or_true]
    refine ⟨by omega, by omega, by rw [rangeL_length]; show n < 16777216; omega, lc_inv (fun j acc e => ∃ (l : List Int) (pen' : PyData) (y : Option Sl), acc = l.map .int ∧ e = [some (.io pen'), some (.val (.int people)), some (.val (.int posts)), some (.val (.int rare)), some (.val (.int (0 + (i : Int)))), some (.val (.int n)), some (.own (.list (ps.map intsD))), y] ∧
      l.Pairwise (· < ·) ∧ (∀ x ∈ l, 0 ≤ x ∧ x < j) ∧ j ≤ n ∧ Pen (t + 2 + 40 * i + 2 * j) pen') ⟨[], pen', x7, rfl, rfl, .nil, by simp, Nat.zero_le _, hpen⟩ ?_ ?_⟩
    · rintro j x acc e N2 hx2 ⟨l, pen3, y, rfl, rfl, hlp, hlx, hjn, hpen3⟩ next2
      obtain ⟨rfl, hj⟩ := range_some hx2
      rw [Int.toNat_natCast] at hj
      have more : ∀ {pen4 : PyData}, Pen (t + 2 + 40 * i + 2 * (j + 1)) pen4 → N2 (l.map PyData.int ++ [.int (0 + (j : Int))]) [some (.io pen4), some (.val (.int people)), some (.val (.int posts)), some (.val (.int rare)), some (.val (.int (0 + (i : Int)))), some (.val (.int n)), some (.own (.list (ps.map intsD))), some (.val (.int (0 + (j : Int))))] := fun {pen4} hp4 => by
        refine next2 _ _ ⟨l ++ [(j : Int)], pen4, _, by simp, rfl, ?_, ?_, by omega, hp4⟩
        · rw [List.pairwise_append]
          exact ⟨hlp, List.pairwise_singleton _ _, fun x hx y hy => by
            rw [List.mem_singleton] at hy
            subst hy
            exact (hlx x hx).2⟩
        · intro x hx
          rcases List.mem_append.mp hx with hx | hx
          · have := hlx x hx; omega
          · rw [List.mem_singleton] at hx
            subst hx
            omega
      unfold f_law_draw_house_c1 f_law_draw_house_e1
      simp -dsimp only [↓wpS, ↓wpE, ↓wpEs, ↓wpEs', ↓wpCs, ↓wpI, ↓callW, ↓okArgs, ↓sigOk, ↓inouts, ↓lents, ↓peeks, ↓peek, ↓pk, ↓slot, ↓setOwn, ↓setC, ↓freeze, ↓isOwn, ↓isIo, ↓slC, ↓isLst, ↓asV, ↓asS, ↓asVs, ↓asSs, ↓isT, ↓R.still, ↓setMany, ↓bindT, ↓wipeE, ↓unwipe, ↓binD, ↓intBin, ↓cmpD, ↓eqD, ↓ordD, ↓ordI, ↓startE, ↓endsOf, ↓ioOf, ↓newsOf, ↓Sl.r, ↓itemsOf, ↓slcD, ↓revD, ↓b1D, ↓b2D, ↓isNoneD, ↓noRefR, ↓noRef, ↓noRefs, ite_self, ↓isTy, ↓List.getElem?_cons_zero, ↓List.getElem?_cons_succ, ↓List.getElem?_nil, ↓Option.join_some, ↓Option.join_none, ↓Option.isSome_some, ↓Option.isSome_none, ↓List.set_cons_zero, ↓List.set_cons_succ, ↓List.replicate, ↓List.length_cons, ↓List.length_nil, ↓List.isEmpty_cons, ↓List.isEmpty_nil, ↓List.all_cons, ↓List.all_nil, ↓List.filterMap_cons, ↓List.filterMap_nil, ↓List.contains_cons, ↓List.contains_nil, ↓Bool.and_true, ↓Bool.true_and, ↓Bool.and_false, ↓Bool.false_and, ↓Bool.not_true, ↓Bool.not_false, ↓if_true, ↓sh_int, ↓sh_bool, ↓sh_none, ↓eqv_ii, ↓eqv_bb, ↓eqv_ss, ↓brn_true, ↓brn_false, brn_true, brn_false, ↓List.any_cons, ↓List.any_nil, ↓if_false, ↓ite_true, ↓ite_false, ↓true_and, ↓and_true, ↓Bool.false_eq_true, ↓reduceCtorEq, ↓decide_true, ↓decide_false, ↓List.map_cons, ↓List.map_nil, ↓Tg.slots, ↓List.nodup_cons, ↓List.nodup_nil, ↓List.not_mem_nil, ↓not_false_eq_true, ↓forall_const, ↓true_implies, ↓bI, Nat.reduceAdd, Nat.reduceSub, Nat.reduceEqDiff, Int.reduceLT, Int.reduceLE, Nat.reduceLT, Nat.reduceLeDiff, Int.reduceNeg, Nat.reduceBEq, ↓BEq.rfl, ↓beq_self_eq_true, ↓Bool.or_false, ↓Bool.or_true]
      refine ⟨_, rfl, ?_⟩
      rw [h]
      refine ⟨_, pen3, _, rfl, hpen3, by omega, by omega, by omega, fun r3 pen4 a3 b3 c3 _ => ?_⟩
      simp -dsimp only [↓wpS, ↓wpE, ↓wpEs, ↓wpEs', ↓wpCs, ↓wpI, ↓callW, ↓okArgs, ↓sigOk, ↓inouts, ↓lents, ↓peeks, ↓peek, ↓pk, ↓slot, ↓setOwn, ↓setC, ↓freeze, ↓isOwn, ↓isIo, ↓slC, ↓isLst, ↓asV, ↓asS, ↓asVs, ↓asSs, ↓isT, ↓R.still, ↓setMany, ↓bindT, ↓wipeE, ↓unwipe, ↓binD, ↓intBin, ↓cmpD, ↓eqD, ↓ordD, ↓ordI, ↓startE, ↓endsOf, ↓ioOf, ↓newsOf, ↓Sl.r, ↓itemsOf, ↓slcD, ↓revD, ↓b1D, ↓b2D, ↓isNoneD, ↓noRefR, ↓noRef, ↓noRefs, ite_self, ↓isTy, ↓List.getElem?_cons_zero, ↓List.getElem?_cons_succ, ↓List.getElem?_nil, ↓Option.join_some, ↓Option.join_none, ↓Option.isSome_some, ↓Option.isSome_none, ↓List.set_cons_zero, ↓List.set_cons_succ, ↓List.replicate, ↓List.length_cons, ↓List.length_nil, ↓List.isEmpty_cons, ↓List.isEmpty_nil, ↓List.all_cons, ↓List.all_nil, ↓List.filterMap_cons, ↓List.filterMap_nil, ↓List.contains_cons, ↓List.contains_nil, ↓Bool.and_true, ↓Bool.true_and, ↓Bool.and_false, ↓Bool.false_and, ↓Bool.not_true, ↓Bool.not_false, ↓if_true, ↓sh_int, ↓sh_bool, ↓sh_none, ↓eqv_ii, ↓eqv_bb, ↓eqv_ss, ↓brn_true, ↓brn_false, brn_true, brn_false, ↓List.any_cons, ↓List.any_nil, ↓if_false, ↓ite_true, ↓ite_false, ↓true_and, ↓and_true, ↓Bool.false_eq_true, ↓reduceCtorEq, ↓decide_true, ↓decide_false, ↓List.map_cons, ↓List.map_nil, ↓Tg.slots, ↓List.nodup_cons, ↓List.nodup_nil, ↓List.not_mem_nil, ↓not_false_eq_true, ↓forall_const, ↓true_implies, ↓bI, Nat.reduceAdd, Nat.reduceSub, Nat.reduceEqDiff, Int.reduceLT, Int.reduceLE, Nat.reduceLT, Nat.reduceLeDiff, Int.reduceNeg, Nat.reduceBEq, ↓BEq.rfl, ↓beq_self_eq_true, ↓Bool.or_false, ↓Bool.or_true]
      refine brn_of (fun hb => ?_) (fun hb => ?_)
      · simp -dsimp only [↓wpS, ↓wpE, ↓wpEs, ↓wpEs', ↓wpCs, ↓wpI, ↓callW, ↓okArgs, ↓sigOk, ↓inouts, ↓lents, ↓peeks, ↓peek, ↓pk, ↓slot, ↓setOwn, ↓setC, ↓freeze, ↓isOwn, ↓isIo, ↓slC, ↓isLst, ↓asV, ↓asS, ↓asVs, ↓asSs, ↓isT, ↓R.still, ↓setMany, ↓bindT, ↓wipeE, ↓unwipe, ↓binD, ↓intBin, ↓cmpD, ↓eqD, ↓ordD, ↓ordI, ↓startE, ↓endsOf, ↓ioOf, ↓newsOf, ↓Sl.r, ↓itemsOf, ↓slcD, ↓revD, ↓b1D, ↓b2D, ↓isNoneD, ↓noRefR, ↓noRef, ↓noRefs, ite_self, ↓isTy, ↓List.getElem?_cons_zero, ↓List.getElem?_cons_succ, ↓List.getElem?_nil, ↓Option.join_some, ↓Option.join_none, ↓Option.isSome_some, ↓Option.isSome_none, ↓List.set_cons_zero, ↓List.set_cons_succ, ↓List.replicate, ↓List.length_cons, ↓List.length_nil, ↓List.isEmpty_cons, ↓List.isEmpty_nil, ↓List.all_cons, ↓List.all_nil, ↓List.filterMap_cons, ↓List.filterMap_nil, ↓List.contains_cons, ↓List.contains_nil, ↓Bool.and_true, ↓Bool.true_and, ↓Bool.and_false, ↓Bool.false_and, ↓Bool.not_true, ↓Bool.not_false, ↓if_true, ↓sh_int, ↓sh_bool, ↓sh_none, ↓eqv_ii, ↓eqv_bb, ↓eqv_ss, ↓brn_true, ↓brn_false, brn_true, brn_false, ↓List.any_cons, ↓List.any_nil, ↓if_false, ↓ite_true, ↓ite_false, ↓true_and, ↓and_true, ↓Bool.false_eq_true, ↓reduceCtorEq, ↓decide_true, ↓decide_false, ↓List.map_cons, ↓List.map_nil, ↓Tg.slots, ↓List.nodup_cons, ↓List.nodup_nil, ↓List.not_mem_nil, ↓not_false_eq_true, ↓forall_const, ↓true_implies, ↓bI, Nat.reduceAdd, Nat.reduceSub, Nat.reduceEqDiff, Int.reduceLT, Int.reduceLE, Nat.reduceLT, Nat.reduceLeDiff, Int.reduceNeg, Nat.reduceBEq, ↓BEq.rfl, ↓beq_self_eq_true, ↓Bool.or_false, ↓Bool.or_true]
        exact more (c3.mono (by omega))
      · simp -dsimp only [↓wpS, ↓wpE, ↓wpEs, ↓wpEs', ↓wpCs, ↓wpI, ↓callW, ↓okArgs, ↓sigOk, ↓inouts, ↓lents, ↓peeks, ↓peek, ↓pk, ↓slot, ↓setOwn, ↓setC, ↓freeze, ↓isOwn, ↓isIo, ↓slC, ↓isLst, ↓asV, ↓asS, ↓asVs, ↓asSs, ↓isT, ↓R.still, ↓setMany, ↓bindT, ↓wipeE, ↓unwipe, ↓binD, ↓intBin, ↓cmpD, ↓eqD, ↓ordD, ↓ordI, ↓startE, ↓endsOf, ↓ioOf, ↓newsOf, ↓Sl.r, ↓itemsOf, ↓slcD, ↓revD, ↓b1D, ↓b2D, ↓isNoneD, ↓noRefR, ↓noRef, ↓noRefs, ite_self, ↓isTy, ↓List.getElem?_cons_zero, ↓List.getElem?_cons_succ, ↓List.getElem?_nil, ↓Option.join_some, ↓Option.join_none, ↓Option.isSome_some, ↓Option.isSome_none, ↓List.set_cons_zero, ↓List.set_cons_succ, ↓List.replicate, ↓List.length_cons, ↓List.length_nil, ↓List.isEmpty_cons, ↓List.isEmpty_nil, ↓List.all_cons, ↓List.all_nil, ↓List.filterMap_cons, ↓List.filterMap_nil, ↓List.contains_cons, ↓List.contains_nil, ↓Bool.and_true, ↓Bool.true_and, ↓Bool.and_false, ↓Bool.false_and, ↓Bool.not_true, ↓Bool.not_false, ↓if_true, ↓sh_int, ↓sh_bool, ↓sh_none, ↓eqv_ii, ↓eqv_bb, ↓eqv_ss, ↓brn_true, ↓brn_false, brn_true, brn_false, ↓List.any_cons, ↓List.any_nil, ↓if_false, ↓ite_true, ↓ite_false, ↓true_and, ↓and_true, ↓Bool.false_eq_true, ↓reduceCtorEq, ↓decide_true, ↓decide_false, ↓List.map_cons, ↓List.map_nil, ↓Tg.slots, ↓List.nodup_cons, ↓List.nodup_nil, ↓List.not_mem_nil, ↓not_false_eq_true, ↓forall_const, ↓true_implies, ↓bI, Nat.reduceAdd, Nat.reduceSub, Nat.reduceEqDiff, Int.reduceLT, Int.reduceLE, Nat.reduceLT, Nat.reduceLeDiff, Int.reduceNeg, Nat.reduceBEq, ↓BEq.rfl, ↓beq_self_eq_true, ↓Bool.or_false, ↓Bool.or_true]
        refine ⟨_, rfl, ?_⟩
        rw [h]
        refine ⟨_, pen4, _, rfl, c3, by omega, by omega, by omega, fun r4 pen5 a4 b4 c4 _ => ?_⟩
        simp -dsimp only [↓wpS, ↓wpE, ↓wpEs, ↓wpEs', ↓wpCs, ↓wpI, ↓callW, ↓okArgs, ↓sigOk, ↓inouts, ↓lents, ↓peeks, ↓peek, ↓pk, ↓slot, ↓setOwn, ↓setC, ↓freeze, ↓isOwn, ↓isIo, ↓slC, ↓isLst, ↓asV, ↓asS, ↓asVs, ↓asSs, ↓isT, ↓R.still, ↓setMany, ↓bindT, ↓wipeE, ↓unwipe, ↓binD, ↓intBin, ↓cmpD, ↓eqD, ↓ordD, ↓ordI, ↓startE, ↓endsOf, ↓ioOf, ↓newsOf, ↓Sl.r, ↓itemsOf, ↓slcD, ↓revD, ↓b1D, ↓b2D, ↓isNoneD, ↓noRefR, ↓noRef, ↓noRefs, ite_self, ↓isTy, ↓List.getElem?_cons_zero, ↓List.getElem?_cons_succ, ↓List.getElem?_nil, ↓Option.join_some, ↓Option.join_none, ↓Option.isSome_some, ↓Option.isSome_none, ↓List.set_cons_zero, ↓List.set_cons_succ, ↓List.replicate, ↓List.length_cons, ↓List.length_nil, ↓List.isEmpty_cons, ↓List.isEmpty_nil, ↓List.all_cons, ↓List.all_nil, ↓List.filterMap_cons, ↓List.filterMap_nil, ↓List.contains_cons, ↓List.contains_nil, ↓Bool.and_true, ↓Bool.true_and, ↓Bool.and_false, ↓Bool.false_and, ↓Bool.not_true, ↓Bool.not_false, ↓if_true, ↓sh_int, ↓sh_bool, ↓sh_none, ↓eqv_ii, ↓eqv_bb, ↓eqv_ss, ↓brn_true, ↓brn_false, brn_true, brn_false, ↓List.any_cons, ↓List.any_nil, ↓if_false, ↓ite_true, ↓ite_false, ↓true_and, ↓and_true, ↓Bool.false_eq_true, ↓reduceCtorEq, ↓decide_true, ↓decide_false, ↓List.map_cons, ↓List.map_nil, ↓Tg.slots, ↓List.nodup_cons, ↓List.nodup_nil, ↓List.not_mem_nil, ↓not_false_eq_true, ↓forall_const, ↓true_implies, ↓bI, Nat.reduceAdd, Nat.reduceSub, Nat.reduceEqDiff, Int.reduceLT, Int.reduceLE, Nat.reduceLT, Nat.reduceLeDiff, Int.reduceNeg, Nat.reduceBEq, ↓BEq.rfl, ↓beq_self_eq_true, ↓Bool.or_false, ↓Bool.or_true]
        split
        · exact more (c4.mono (by omega))
        · refine next2 _ _ ⟨l, pen5, _, rfl, rfl, hlp, fun x hx => ?_, by omega, c4.mono (by omega)⟩
          have := hlx x hx; omega
    · rintro acc e ⟨l, pen3, y, rfl, rfl, hlp, hlx, hjn, hpen3⟩
      rw [rangeL_length, Int.toNat_natCast] at hlx hpen3
      have hq : ∀ l' ∈ ps ++ [l], asc n l' := fun l' hl' => by
        rcases List.mem_append.mp hl' with hl' | hl'
        · exact hasc l' hl'
        · rw [List.mem_singleton] at hl'
          subst hl'
          exact ⟨hlp, hlx⟩
      simp -dsimp only [↓wpS, ↓wpE, ↓wpEs, ↓wpEs', ↓wpCs, ↓wpI, ↓callW, ↓okArgs, ↓sigOk, ↓inouts, ↓lents, ↓peeks, ↓peek, ↓pk, ↓slot, ↓setOwn, ↓setC, ↓freeze, ↓isOwn, ↓isIo, ↓slC, ↓isLst, ↓asV, ↓asS, ↓asVs, ↓asSs, ↓isT, ↓R.still, ↓setMany, ↓bindT, ↓wipeE, ↓unwipe, ↓binD, ↓intBin, ↓cmpD, ↓eqD, ↓ordD, ↓ordI, ↓startE, ↓endsOf, ↓ioOf, ↓newsOf, ↓Sl.r, ↓itemsOf, ↓slcD, ↓revD, ↓b1D, ↓b2D, ↓isNoneD, ↓noRefR, ↓noRef, ↓noRefs, ite_self, ↓isTy, ↓List.getElem?_cons_zero, ↓List.getElem?_cons_succ, ↓List.getElem?_nil, ↓Option.join_some, ↓Option.join_none, ↓Option.isSome_some, ↓Option.isSome_none, ↓List.set_cons_zero, ↓List.set_cons_succ, ↓List.replicate, ↓List.length_cons, ↓List.length_nil, ↓List.isEmpty_cons, ↓List.isEmpty_nil, ↓List.all_cons, ↓List.all_nil, ↓List.filterMap_cons, ↓List.filterMap_nil, ↓List.contains_cons, ↓List.contains_nil, ↓Bool.and_true, ↓Bool.true_and, ↓Bool.and_false, ↓Bool.false_and, ↓Bool.not_true, ↓Bool.not_false, ↓if_true, ↓sh_int, ↓sh_bool, ↓sh_none, ↓eqv_ii, ↓eqv_bb, ↓eqv_ss, ↓brn_true, ↓brn_false, brn_true, brn_false, ↓List.any_cons, ↓List.any_nil, ↓if_false, ↓ite_true, ↓ite_false, ↓true_and, ↓and_true, ↓Bool.false_eq_true, ↓reduceCtorEq, ↓decide_true, ↓decide_false, ↓List.map_cons, ↓List.map_nil, ↓Tg.slots, ↓List.nodup_cons, ↓List.nodup_nil, ↓List.not_mem_nil, ↓not_false_eq_true, ↓forall_const, ↓true_implies, ↓bI, Nat.reduceAdd, Nat.reduceSub, Nat.reduceEqDiff, Int.reduceLT, Int.reduceLE, Nat.reduceLT, Nat.reduceLeDiff, Int.reduceNeg, Nat.reduceBEq, ↓BEq.rfl, ↓beq_self_eq_true, ↓Bool.or_false, ↓Bool.or_true]
      exact ⟨by rw [List.length_map]; show ps.length < 16777216; omega, next _ ⟨ps ++ [l], pen3, _, _, by rw [List.map_append]; rfl, by simp [hl], hq, hpen3.mono (by omega)⟩⟩
  · rintro e ⟨ps, pen', x4, x7, rfl, hl, hasc, hpen⟩
    rw [rangeL_length] at hl hpen
    have fin : ∀ {ps' : List (List Int)} {pen5 : PyData} {x4 x7 : Option Sl}, ps'.length = ps.length → (∀ l ∈ ps', asc n l) → Pen (t + 1000) pen5 →
        wpS Φ (.seq (.ret (.tup (.cons (.var 5) (.cons (.b1 .tuple (.var 6)) .nil)))) .skip) [some (.io pen5), some (.val (.int people)), some (.val (.int posts)), some (.val (.int rare)), x4, some (.val (.int n)), some (.own (.list (ps'.map intsD))), x7]
          (endsOf (ioOf 0 [true, false, false, false]) Q) := fun {ps' pen5 x4 x7} h1 h2 h3 => by
      simp -dsimp only [↓wpS, ↓wpE, ↓wpEs, ↓wpEs', ↓wpCs, ↓wpI, ↓callW, ↓okArgs, ↓sigOk, ↓inouts, ↓lents, ↓peeks, ↓peek, ↓pk, ↓slot, ↓setOwn, ↓setC, ↓freeze, ↓isOwn, ↓isIo, ↓slC, ↓isLst, ↓asV, ↓asS, ↓asVs, ↓asSs, ↓isT, ↓R.still, ↓setMany, ↓bindT, ↓wipeE, ↓unwipe, ↓binD, ↓intBin, ↓cmpD, ↓eqD, ↓ordD, ↓ordI, ↓startE, ↓endsOf, ↓ioOf, ↓newsOf, ↓Sl.r, ↓itemsOf, ↓slcD, ↓revD, ↓b1D, ↓b2D, ↓isNoneD, ↓noRefR, ↓noRef, ↓noRefs, ite_self, ↓isTy, ↓List.getElem?_cons_zero, ↓List.getElem?_cons_succ, ↓List.getElem?_nil, ↓Option.join_some, ↓Option.join_none, ↓Option.isSome_some, ↓Option.isSome_none, ↓List.set_cons_zero, ↓List.set_cons_succ, ↓List.replicate, ↓List.length_cons, ↓List.length_nil, ↓List.isEmpty_cons, ↓List.isEmpty_nil, ↓List.all_cons, ↓List.all_nil, ↓List.filterMap_cons, ↓List.filterMap_nil, ↓List.contains_cons, ↓List.contains_nil, ↓Bool.and_true, ↓Bool.true_and, ↓Bool.and_false, ↓Bool.false_and, ↓Bool.not_true, ↓Bool.not_false, ↓if_true, ↓sh_int, ↓sh_bool, ↓sh_none, ↓eqv_ii, ↓eqv_bb, ↓eqv_ss, ↓brn_true, ↓brn_false, brn_true, brn_false, ↓List.any_cons, ↓List.any_nil, ↓if_false, ↓ite_true, ↓ite_false, ↓true_and, ↓and_true, ↓Bool.false_eq_true, ↓reduceCtorEq, ↓decide_true, ↓decide_false, ↓List.map_cons, ↓List.map_nil, ↓Tg.slots, ↓List.nodup_cons, ↓List.nodup_nil, ↓List.not_mem_nil, ↓not_false_eq_true, ↓forall_const, ↓true_implies, ↓bI, Nat.reduceAdd, Nat.reduceSub, Nat.reduceEqDiff, Int.reduceLT, Int.reduceLE, Nat.reduceLT, Nat.reduceLeDiff, Int.reduceNeg, Nat.reduceBEq, ↓BEq.rfl, ↓beq_self_eq_true, ↓Bool.or_false, ↓Bool.or_true]
      exact k n ps' pen5 n0 n1 (by omega) h2 h3
    refine wps_seq (fun e => ∃ (ps' : List (List Int)) (pen5 : PyData) (x4 x7 : Option Sl), e = [some (.io pen5), some (.val (.int people)), some (.val (.int posts)), some (.val (.int rare)), x4, some (.val (.int n)), some (.own (.list (ps'.map intsD))), x7] ∧ ps'.length = ps.length ∧ (∀ l ∈ ps', asc n l) ∧ Pen (t + 1000) pen5) (fun N next => ?_) ?_
    · simp -dsimp only [↓wpS, ↓wpE, ↓wpEs, ↓wpEs', ↓wpCs, ↓wpI, ↓callW, ↓okArgs, ↓sigOk, ↓inouts, ↓lents, ↓peeks, ↓peek, ↓pk, ↓slot, ↓setOwn, ↓setC, ↓freeze, ↓isOwn, ↓isIo, ↓slC, ↓isLst, ↓asV, ↓asS, ↓asVs, ↓asSs, ↓isT, ↓R.still, ↓setMany, ↓bindT, ↓wipeE, ↓unwipe, ↓binD, ↓intBin, ↓cmpD, ↓eqD, ↓ordD, ↓ordI, ↓startE, ↓endsOf, ↓ioOf, ↓newsOf, ↓Sl.r, ↓itemsOf, ↓slcD, ↓revD, ↓b1D, ↓b2D, ↓isNoneD, ↓noRefR, ↓noRef, ↓noRefs, ite_self, ↓isTy, ↓List.getElem?_cons_zero, ↓List.getElem?_cons_succ, ↓List.getElem?_nil, ↓Option.join_some, ↓Option.join_none, ↓Option.isSome_some, ↓Option.isSome_none, ↓List.set_cons_zero, ↓List.set_cons_succ, ↓List.replicate, ↓List.length_cons, ↓List.length_nil, ↓List.isEmpty_cons, ↓List.isEmpty_nil, ↓List.all_cons, ↓List.all_nil, ↓List.filterMap_cons, ↓List.filterMap_nil, ↓List.contains_cons, ↓List.contains_nil, ↓Bool.and_true, ↓Bool.true_and, ↓Bool.and_false, ↓Bool.false_and, ↓Bool.not_true, ↓Bool.not_false, ↓if_true, ↓sh_int, ↓sh_bool, ↓sh_none, ↓eqv_ii, ↓eqv_bb, ↓eqv_ss, ↓brn_true, ↓brn_false, brn_true, brn_false, ↓List.any_cons, ↓List.any_nil, ↓if_false, ↓ite_true, ↓ite_false, ↓true_and, ↓and_true, ↓Bool.false_eq_true, ↓reduceCtorEq, ↓decide_true, ↓decide_false, ↓List.map_cons, ↓List.map_nil, ↓Tg.slots, ↓List.nodup_cons, ↓List.nodup_nil, ↓List.not_mem_nil, ↓not_false_eq_true, ↓forall_const, ↓true_implies, ↓bI, Nat.reduceAdd, Nat.reduceSub, Nat.reduceEqDiff, Int.reduceLT, Int.reduceLE, Nat.reduceLT, Nat.reduceLeDiff, Int.reduceNeg, Nat.reduceBEq, ↓BEq.rfl, ↓beq_self_eq_true, ↓Bool.or_false, ↓Bool.or_true]
      refine brn_of (fun hb => ?_) (fun hb => ?_)
      · simp -dsimp only [↓wpS, ↓wpE, ↓wpEs, ↓wpEs', ↓wpCs, ↓wpI, ↓callW, ↓okArgs, ↓sigOk, ↓inouts, ↓lents, ↓peeks, ↓peek, ↓pk, ↓slot, ↓setOwn, ↓setC, ↓freeze, ↓isOwn, ↓isIo, ↓slC, ↓isLst, ↓asV, ↓asS, ↓asVs, ↓asSs, ↓isT, ↓R.still, ↓setMany, ↓bindT, ↓wipeE, ↓unwipe, ↓binD, ↓intBin, ↓cmpD, ↓eqD, ↓ordD, ↓ordI, ↓startE, ↓endsOf, ↓ioOf, ↓newsOf, ↓Sl.r, ↓itemsOf, ↓slcD, ↓revD, ↓b1D, ↓b2D, ↓isNoneD, ↓noRefR, ↓noRef, ↓noRefs, ite_self, ↓isTy, ↓List.getElem?_cons_zero, ↓List.getElem?_cons_succ, ↓List.getElem?_nil, ↓Option.join_some, ↓Option.join_none, ↓Option.isSome_some, ↓Option.isSome_none, ↓List.set_cons_zero, ↓List.set_cons_succ, ↓List.replicate, ↓List.length_cons, ↓List.length_nil, ↓List.isEmpty_cons, ↓List.isEmpty_nil, ↓List.all_cons, ↓List.all_nil, ↓List.filterMap_cons, ↓List.filterMap_nil, ↓List.contains_cons, ↓List.contains_nil, ↓Bool.and_true, ↓Bool.true_and, ↓Bool.and_false, ↓Bool.false_and, ↓Bool.not_true, ↓Bool.not_false, ↓if_true, ↓sh_int, ↓sh_bool, ↓sh_none, ↓eqv_ii, ↓eqv_bb, ↓eqv_ss, ↓brn_true, ↓brn_false, brn_true, brn_false, ↓List.any_cons, ↓List.any_nil, ↓if_false, ↓ite_true, ↓ite_false, ↓true_and, ↓and_true, ↓Bool.false_eq_true, ↓reduceCtorEq, ↓decide_true, ↓decide_false, ↓List.map_cons, ↓List.map_nil, ↓Tg.slots, ↓List.nodup_cons, ↓List.nodup_nil, ↓List.not_mem_nil, ↓not_false_eq_true, ↓forall_const, ↓true_implies, ↓bI, Nat.reduceAdd, Nat.reduceSub, Nat.reduceEqDiff, Int.reduceLT, Int.reduceLE, Nat.reduceLT, Nat.reduceLeDiff, Int.reduceNeg, Nat.reduceBEq, ↓BEq.rfl, ↓beq_self_eq_true, ↓Bool.or_false, ↓Bool.or_true]
        refine ⟨_, rfl, ?_⟩
        rw [h]
        refine ⟨_, pen', _, rfl, hpen, by omega, by omega, by omega, fun r3 pen4 a3 b3 c3 _ => ?_⟩
        simp -dsimp only [↓wpS, ↓wpE, ↓wpEs, ↓wpEs', ↓wpCs, ↓wpI, ↓callW, ↓okArgs, ↓sigOk, ↓inouts, ↓lents, ↓peeks, ↓peek, ↓pk, ↓slot, ↓setOwn, ↓setC, ↓freeze, ↓isOwn, ↓isIo, ↓slC, ↓isLst, ↓asV, ↓asS, ↓asVs, ↓asSs, ↓isT, ↓R.still, ↓setMany, ↓bindT, ↓wipeE, ↓unwipe, ↓binD, ↓intBin, ↓cmpD, ↓eqD, ↓ordD, ↓ordI, ↓startE, ↓endsOf, ↓ioOf, ↓newsOf, ↓Sl.r, ↓itemsOf, ↓slcD, ↓revD, ↓b1D, ↓b2D, ↓isNoneD, ↓noRefR, ↓noRef, ↓noRefs, ite_self, ↓isTy, ↓List.getElem?_cons_zero, ↓List.getElem?_cons_succ, ↓List.getElem?_nil, ↓Option.join_some, ↓Option.join_none, ↓Option.isSome_some, ↓Option.isSome_none, ↓List.set_cons_zero, ↓List.set_cons_succ, ↓List.replicate, ↓List.length_cons, ↓List.length_nil, ↓List.isEmpty_cons, ↓List.isEmpty_nil, ↓List.all_cons, ↓List.all_nil, ↓List.filterMap_cons, ↓List.filterMap_nil, ↓List.contains_cons, ↓List.contains_nil, ↓Bool.and_true, ↓Bool.true_and, ↓Bool.and_false, ↓Bool.false_and, ↓Bool.not_true, ↓Bool.not_false, ↓if_true, ↓sh_int, ↓sh_bool, ↓sh_none, ↓eqv_ii, ↓eqv_bb, ↓eqv_ss, ↓brn_true, ↓brn_false, brn_true, brn_false, ↓List.any_cons, ↓List.any_nil, ↓if_false, ↓ite_true, ↓ite_false, ↓true_and, ↓and_true, ↓Bool.false_eq_true, ↓reduceCtorEq, ↓decide_true, ↓decide_false, ↓List.map_cons, ↓List.map_nil, ↓Tg.slots, ↓List.nodup_cons, ↓List.nodup_nil, ↓List.not_mem_nil, ↓not_false_eq_true, ↓forall_const, ↓true_implies, ↓bI, Nat.reduceAdd, Nat.reduceSub, Nat.reduceEqDiff, Int.reduceLT, Int.reduceLE, Nat.reduceLT, Nat.reduceLeDiff, Int.reduceNeg, Nat.reduceBEq, ↓BEq.rfl, ↓beq_self_eq_true, ↓Bool.or_false, ↓Bool.or_true]
        refine brn_of (fun hb2 => ?_) (fun hb2 => ?_)
        · obtain ⟨l0, rest, hps⟩ : ∃ l0 rest, ps = l0 :: rest := by
            cases ps with
            | nil => simp at hb
            | cons l0 rest => exact ⟨l0, rest, rfl⟩
          simp -dsimp only [↓wpS, ↓wpE, ↓wpEs, ↓wpEs', ↓wpCs, ↓wpI, ↓callW, ↓okArgs, ↓sigOk, ↓inouts, ↓lents, ↓peeks, ↓peek, ↓pk, ↓slot, ↓setOwn, ↓setC, ↓freeze, ↓isOwn, ↓isIo, ↓slC, ↓isLst, ↓asV, ↓asS, ↓asVs, ↓asSs, ↓isT, ↓R.still, ↓setMany, ↓bindT, ↓wipeE, ↓unwipe, ↓binD, ↓intBin, ↓cmpD, ↓eqD, ↓ordD, ↓ordI, ↓startE, ↓endsOf, ↓ioOf, ↓newsOf, ↓Sl.r, ↓itemsOf, ↓slcD, ↓revD, ↓b1D, ↓b2D, ↓isNoneD, ↓noRefR, ↓noRef, ↓noRefs, ite_self, ↓isTy, ↓List.getElem?_cons_zero, ↓List.getElem?_cons_succ, ↓List.getElem?_nil, ↓Option.join_some, ↓Option.join_none, ↓Option.isSome_some, ↓Option.isSome_none, ↓List.set_cons_zero, ↓List.set_cons_succ, ↓List.replicate, ↓List.length_cons, ↓List.length_nil, ↓List.isEmpty_cons, ↓List.isEmpty_nil, ↓List.all_cons, ↓List.all_nil, ↓List.filterMap_cons, ↓List.filterMap_nil, ↓List.contains_cons, ↓List.contains_nil, ↓Bool.and_true, ↓Bool.true_and, ↓Bool.and_false, ↓Bool.false_and, ↓Bool.not_true, ↓Bool.not_false, ↓if_true, ↓sh_int, ↓sh_bool, ↓sh_none, ↓eqv_ii, ↓eqv_bb, ↓eqv_ss, ↓brn_true, ↓brn_false, brn_true, brn_false, ↓List.any_cons, ↓List.any_nil, ↓if_false, ↓ite_true, ↓ite_false, ↓true_and, ↓and_true, ↓Bool.false_eq_true, ↓reduceCtorEq, ↓decide_true, ↓decide_false, ↓List.map_cons, ↓List.map_nil, ↓Tg.slots, ↓List.nodup_cons, ↓List.nodup_nil, ↓List.not_mem_nil, ↓not_false_eq_true, ↓forall_const, ↓true_implies, ↓bI, Nat.reduceAdd, Nat.reduceSub, Nat.reduceEqDiff, Int.reduceLT, Int.reduceLE, Nat.reduceLT, Nat.reduceLeDiff, Int.reduceNeg, Nat.reduceBEq, ↓BEq.rfl, ↓beq_self_eq_true, ↓Bool.or_false, ↓Bool.or_true]
          refine stp_n (n := 0) (v := intsD l0) (by rw [hps]; rfl) ?_
          simp only [intsD]
          simp -dsimp only [↓wpS, ↓wpE, ↓wpEs, ↓wpEs', ↓wpCs, ↓wpI, ↓callW, ↓okArgs, ↓sigOk, ↓inouts, ↓lents, ↓peeks, ↓peek, ↓pk, ↓slot, ↓setOwn, ↓setC, ↓freeze, ↓isOwn, ↓isIo, ↓slC, ↓isLst, ↓asV, ↓asS, ↓asVs, ↓asSs, ↓isT, ↓R.still, ↓setMany, ↓bindT, ↓wipeE, ↓unwipe, ↓binD, ↓intBin, ↓cmpD, ↓eqD, ↓ordD, ↓ordI, ↓startE, ↓endsOf, ↓ioOf, ↓newsOf, ↓Sl.r, ↓itemsOf, ↓slcD, ↓revD, ↓b1D, ↓b2D, ↓isNoneD, ↓noRefR, ↓noRef, ↓noRefs, ite_self, ↓isTy, ↓List.getElem?_cons_zero, ↓List.getElem?_cons_succ, ↓List.getElem?_nil, ↓Option.join_some, ↓Option.join_none, ↓Option.isSome_some, ↓Option.isSome_none, ↓List.set_cons_zero, ↓List.set_cons_succ, ↓List.replicate, ↓List.length_cons, ↓List.length_nil, ↓List.isEmpty_cons, ↓List.isEmpty_nil, ↓List.all_cons, ↓List.all_nil, ↓List.filterMap_cons, ↓List.filterMap_nil, ↓List.contains_cons, ↓List.contains_nil, ↓Bool.and_true, ↓Bool.true_and, ↓Bool.and_false, ↓Bool.false_and, ↓Bool.not_true, ↓Bool.not_false, ↓if_true, ↓sh_int, ↓sh_bool, ↓sh_none, ↓eqv_ii, ↓eqv_bb, ↓eqv_ss, ↓brn_true, ↓brn_false, brn_true, brn_false, ↓List.any_cons, ↓List.any_nil, ↓if_false, ↓ite_true, ↓ite_false, ↓true_and, ↓and_true, ↓Bool.false_eq_true, ↓reduceCtorEq, ↓decide_true, ↓decide_false, ↓List.map_cons, ↓List.map_nil, ↓Tg.slots, ↓List.nodup_cons, ↓List.nodup_nil, ↓List.not_mem_nil, ↓not_false_eq_true, ↓forall_const, ↓true_implies, ↓bI, Nat.reduceAdd, Nat.reduceSub, Nat.reduceEqDiff, Int.reduceLT, Int.reduceLE, Nat.reduceLT, Nat.reduceLeDiff, Int.reduceNeg, Nat.reduceBEq, ↓BEq.rfl, ↓beq_self_eq_true, ↓Bool.or_false, ↓Bool.or_true]
          obtain ⟨m, hm⟩ : ∃ m, cut (l0.map PyData.int) none (some 2) = ((l0.drop 0).take m).map PyData.int := ⟨_, cut_map _ _ _ _⟩
          rw [hm]
          have h0 : 0 < ps.length := by rw [hps]; simp
          refine ⟨_, by rw [List.length_map]; exact ix_last h0, next _ ⟨ps.set (ps.length - 1) ((l0.drop 0).take m), pen4, _, _, by rw [List.map_set]; rfl, by simp, fun l' hl' => ?_, c3.mono (by omega)⟩⟩
          rcases List.mem_or_eq_of_mem_set hl' with hl' | rfl
          · exact hasc l' hl'
          · have h1 := hasc l0 (by rw [hps]; exact List.mem_cons_self)
            rw [List.drop_zero]
            exact ⟨h1.1.sublist (List.take_sublist _ _), fun x hx => h1.2 x (List.mem_of_mem_take hx)⟩
        · simp -dsimp only [↓wpS, ↓wpE, ↓wpEs, ↓wpEs', ↓wpCs, ↓wpI, ↓callW, ↓okArgs, ↓sigOk, ↓inouts, ↓lents, ↓peeks, ↓peek, ↓pk, ↓slot, ↓setOwn, ↓setC, ↓freeze, ↓isOwn, ↓isIo, ↓slC, ↓isLst, ↓asV, ↓asS, ↓asVs, ↓asSs, ↓isT, ↓R.still, ↓setMany, ↓bindT, ↓wipeE, ↓unwipe, ↓binD, ↓intBin, ↓cmpD, ↓eqD, ↓ordD, ↓ordI, ↓startE, ↓endsOf, ↓ioOf, ↓newsOf, ↓Sl.r, ↓itemsOf, ↓slcD, ↓revD, ↓b1D, ↓b2D, ↓isNoneD, ↓noRefR, ↓noRef, ↓noRefs, ite_self, ↓isTy, ↓List.getElem?_cons_zero, ↓List.getElem?_cons_succ, ↓List.getElem?_nil, ↓Option.join_some, ↓Option.join_none, ↓Option.isSome_some, ↓Option.isSome_none, ↓List.set_cons_zero, ↓List.set_cons_succ, ↓List.replicate, ↓List.length_cons, ↓List.length_nil, ↓List.isEmpty_cons, ↓List.isEmpty_nil, ↓List.all_cons, ↓List.all_nil, ↓List.filterMap_cons, ↓List.filterMap_nil, ↓List.contains_cons, ↓List.contains_nil, ↓Bool.and_true, ↓Bool.true_and, ↓Bool.and_false, ↓Bool.false_and, ↓Bool.not_true, ↓Bool.not_false, ↓if_true, ↓sh_int, ↓sh_bool, ↓sh_none, ↓eqv_ii, ↓eqv_bb, ↓eqv_ss, ↓brn_true, ↓brn_false, brn_true, brn_false, ↓List.any_cons, ↓List.any_nil, ↓if_false, ↓ite_true, ↓ite_false, ↓true_and, ↓and_true, ↓Bool.false_eq_true, ↓reduceCtorEq, ↓decide_true, ↓decide_false, ↓List.map_cons, ↓List.map_nil, ↓Tg.slots, ↓List.nodup_cons, ↓List.nodup_nil, ↓List.not_mem_nil, ↓not_false_eq_true, ↓forall_const, ↓true_implies, ↓bI, Nat.reduceAdd, Nat.reduceSub, Nat.reduceEqDiff, Int.reduceLT, Int.reduceLE, Nat.reduceLT, Nat.reduceLeDiff, Int.reduceNeg, Nat.reduceBEq, ↓BEq.rfl, ↓beq_self_eq_true, ↓Bool.or_false, ↓Bool.or_true]
          exact next _ ⟨ps, pen4, _, _, rfl, rfl, hasc, c3.mono (by omega)⟩
      · simp -dsimp only [↓wpS, ↓wpE, ↓wpEs, ↓wpEs', ↓wpCs, ↓wpI, ↓callW, ↓okArgs, ↓sigOk, ↓inouts, ↓lents, ↓peeks, ↓peek, ↓pk, ↓slot, ↓setOwn, ↓setC, ↓freeze, ↓isOwn, ↓isIo, ↓slC, ↓isLst, ↓asV, ↓asS, ↓asVs, ↓asSs, ↓isT, ↓R.still, ↓setMany, ↓bindT, ↓wipeE, ↓unwipe, ↓binD, ↓intBin, ↓cmpD, ↓eqD, ↓ordD, ↓ordI, ↓startE, ↓endsOf, ↓ioOf, ↓newsOf, ↓Sl.r, ↓itemsOf, ↓slcD, ↓revD, ↓b1D, ↓b2D, ↓isNoneD, ↓noRefR, ↓noRef, ↓noRefs, ite_self, ↓isTy, ↓List.getElem?_cons_zero, ↓List.getElem?_cons_succ, ↓List.getElem?_nil, ↓Option.join_some, ↓Option.join_none, ↓Option.isSome_some, ↓Option.isSome_none, ↓List.set_cons_zero, ↓List.set_cons_succ, ↓List.replicate, ↓List.length_cons, ↓List.length_nil, ↓List.isEmpty_cons, ↓List.isEmpty_nil, ↓List.all_cons, ↓List.all_nil, ↓List.filterMap_cons, ↓List.filterMap_nil, ↓List.contains_cons, ↓List.contains_nil, ↓Bool.and_true, ↓Bool.true_and, ↓Bool.and_false, ↓Bool.false_and, ↓Bool.not_true, ↓Bool.not_false, ↓if_true, ↓sh_int, ↓sh_bool, ↓sh_none, ↓eqv_ii, ↓eqv_bb, ↓eqv_ss, ↓brn_true, ↓brn_false, brn_true, brn_false, ↓List.any_cons, ↓List.any_nil, ↓if_false, ↓ite_true, ↓ite_false, ↓true_and, ↓and_true, ↓Bool.false_eq_true, ↓reduceCtorEq, ↓decide_true, ↓decide_false, ↓List.map_cons, ↓List.map_nil, ↓Tg.slots, ↓List.nodup_cons, ↓List.nodup_nil, ↓List.not_mem_nil, ↓not_false_eq_true, ↓forall_const, ↓true_implies, ↓bI, Nat.reduceAdd, Nat.reduceSub, Nat.reduceEqDiff, Int.reduceLT, Int.reduceLE, Nat.reduceLT, Nat.reduceLeDiff, Int.reduceNeg, Nat.reduceBEq, ↓BEq.rfl, ↓beq_self_eq_true, ↓Bool.or_false, ↓Bool.or_true]
        exact next _ ⟨ps, pen', _, _, rfl, rfl, hasc, hpen.mono (by omega)⟩
    · rintro e ⟨ps', pen5, y4, y7, rfl, g1, g2, g3⟩
      exact fin g1 g2 g3
end Co

set_option linter.all false
namespace Co
open PySem
theorem wps_seq4 {Φ : Tbl} {a b c d r : S} {env : Env} {D : Ends} (I : Env → Prop) (h1 : ∀ N : Env → Prop, (∀ e, I e → N e) → wpS Φ (.seq a (.seq b (.seq c d))) env { D with nx := N }) (h2 : ∀ e, I e → wpS Φ r e D) : wpS Φ (.seq a (.seq b (.seq c (.seq d r)))) env D :=
  h1 (fun e => wpS Φ r e D) h2
def oddSp : Spec := fun ds Q => ∃ t pen, ds = [pen] ∧ Pen t pen ∧ t < 900000 ∧ ∀ x pen', gd B30 2 2 x = true → x.bulk ≤ 2 → Pen (t + 1) pen' → Q (.val x) [pen']
def oddL : List PyData := [.none, .bool true, .bool false, .int 0, .int 1, .int (-1), .str (Str.ofString ""), .str (Str.ofString "a"), .tuple [], .list [], .dict [], .tuple [.int 0], .tuple [.int 0, .int 0], .list [.tuple []], .tuple [.tuple []], .int 99, .int (10 ^ Int.toNat 20)]
theorem odd_all : (oddL.all fun x => gd B30 2 2 x && decide (x.bulk ≤ 2)) = true := by decide +kernel
theorem odd_ok (Φ : Tbl) (h : Φ "_law_one_of" = oneOfSp) : Impl Φ [true] 1 f_law_odd oddSp := by
  rintro ds Q ⟨t, pen, rfl, hp, ht, k⟩ _
  unfold f_law_odd
  simp -dsimp only [↓wpS, ↓wpE, ↓wpEs, ↓wpEs', ↓wpCs, ↓wpI, ↓callW, ↓okArgs, ↓sigOk, ↓inouts, ↓lents, ↓peeks, ↓peek, ↓pk, ↓slot, ↓setOwn, ↓setC, ↓freeze, ↓isOwn, ↓isIo, ↓slC, ↓isLst, ↓asV, ↓asS, ↓asVs, ↓asSs, ↓isT, ↓R.still, ↓setMany, ↓bindT, ↓wipeE, ↓unwipe, ↓binD, ↓intBin, ↓cmpD, ↓eqD, ↓ordD, ↓ordI, ↓startE, ↓endsOf, ↓ioOf, ↓newsOf, ↓Sl.r, ↓itemsOf, ↓slcD, ↓revD, ↓b1D, ↓b2D, ↓isNoneD, ↓noRefR, ↓noRef, ↓noRefs, ite_self, ↓isTy, ↓List.getElem?_cons_zero, ↓List.getElem?_cons_succ, ↓List.getElem?_nil, ↓Option.join_some, ↓Option.join_none, ↓Option.isSome_some, ↓Option.isSome_none, ↓List.set_cons_zero, ↓List.set_cons_succ, ↓List.replicate, ↓List.length_cons, ↓List.length_nil, ↓List.isEmpty_cons, ↓List.isEmpty_nil, ↓List.all_cons, ↓List.all_nil, ↓List.filterMap_cons, ↓List.filterMap_nil, ↓List.contains_cons, ↓List.contains_nil, ↓Bool.and_true, ↓Bool.true_and, ↓Bool.and_false, ↓Bool.false_and, ↓Bool.not_true, ↓Bool.not_false, ↓if_true, ↓sh_int, ↓sh_bool, ↓sh_none, ↓eqv_ii, ↓eqv_bb, ↓eqv_ss, ↓brn_true, ↓brn_false, brn_true, brn_false, ↓List.any_cons, ↓List.any_nil, ↓if_false, ↓ite_true, ↓ite_false, ↓true_and, ↓and_true, ↓Bool.false_eq_true, ↓reduceCtorEq, ↓decide_true, ↓decide_false, ↓List.map_cons, ↓List.map_nil, ↓Tg.slots, ↓List.nodup_cons, ↓List.nodup_nil, ↓List.not_mem_nil, ↓not_false_eq_true, ↓forall_const, ↓true_implies, ↓bI, Nat.reduceAdd, Nat.reduceSub, Nat.reduceEqDiff, Int.reduceLT, Int.reduceLE, Nat.reduceLT, Nat.reduceLeDiff, Int.reduceNeg, Nat.reduceBEq, ↓BEq.rfl, ↓beq_self_eq_true, ↓Bool.or_false, ↓Bool.or_true]
  refine ⟨by decide, ⟨by decide, by decide, by decide⟩, _, rfl, ?_⟩
  rw [h]
  refine ⟨t, pen, _, rfl, hp, by omega, _, rfl, by decide, by decide, fun x pen' hx c _ => ?_⟩
  have hx : x ∈ oddL := hx
  have ha := List.all_eq_true.mp odd_all x hx
  rw [Bool.and_eq_true, decide_eq_true_eq] at ha
  simp -dsimp only [↓wpS, ↓wpE, ↓wpEs, ↓wpEs', ↓wpCs, ↓wpI, ↓callW, ↓okArgs, ↓sigOk, ↓inouts, ↓lents, ↓peeks, ↓peek, ↓pk, ↓slot, ↓setOwn, ↓setC, ↓freeze, ↓isOwn, ↓isIo, ↓slC, ↓isLst, ↓asV, ↓asS, ↓asVs, ↓asSs, ↓isT, ↓R.still, ↓setMany, ↓bindT, ↓wipeE, ↓unwipe, ↓binD, ↓intBin, ↓cmpD, ↓eqD, ↓ordD, ↓ordI, ↓startE, ↓endsOf, ↓ioOf, ↓newsOf, ↓Sl.r, ↓itemsOf, ↓slcD, ↓revD, ↓b1D, ↓b2D, ↓isNoneD, ↓noRefR, ↓noRef, ↓noRefs, ite_self, ↓isTy, ↓List.getElem?_cons_zero, ↓List.getElem?_cons_succ, ↓List.getElem?_nil, ↓Option.join_some, ↓Option.join_none, ↓Option.isSome_some, ↓Option.isSome_none, ↓List.set_cons_zero, ↓List.set_cons_succ, ↓List.replicate, ↓List.length_cons, ↓List.length_nil, ↓List.isEmpty_cons, ↓List.isEmpty_nil, ↓List.all_cons, ↓List.all_nil, ↓List.filterMap_cons, ↓List.filterMap_nil, ↓List.contains_cons, ↓List.contains_nil, ↓Bool.and_true, ↓Bool.true_and, ↓Bool.and_false, ↓Bool.false_and, ↓Bool.not_true, ↓Bool.not_false, ↓if_true, ↓sh_int, ↓sh_bool, ↓sh_none, ↓eqv_ii, ↓eqv_bb, ↓eqv_ss, ↓brn_true, ↓brn_false, brn_true, brn_false, ↓List.any_cons, ↓List.any_nil, ↓if_false, ↓ite_true, ↓ite_false, ↓true_and, ↓and_true, ↓Bool.false_eq_true, ↓reduceCtorEq, ↓decide_true, ↓decide_false, ↓List.map_cons, ↓List.map_nil, ↓Tg.slots, ↓List.nodup_cons, ↓List.nodup_nil, ↓List.not_mem_nil, ↓not_false_eq_true, ↓forall_const, ↓true_implies, ↓bI, Nat.reduceAdd, Nat.reduceSub, Nat.reduceEqDiff, Int.reduceLT, Int.reduceLE, Nat.reduceLT, Nat.reduceLeDiff, Int.reduceNeg, Nat.reduceBEq, ↓BEq.rfl, ↓beq_self_eq_true, ↓Bool.or_false, ↓Bool.or_true]
  exact k x pen' ha.1 ha.2 c
def isR (r : Sl) : Prop := (∃ d, r = .val d) ∨ ∃ l, r = .own (.list l)
def bentSp (k : Nat) : Spec := fun ds Q => ∃ t pen v c, ds = [pen, v] ∧ Pen t pen ∧ t + 10 * k < 800000 ∧ k ≤ 10 ∧ 1 ≤ c ∧ c ≤ 10000 ∧ gd B12 c k v = true ∧
  ∀ r pen', gd B30 (c + 1) (k + 2) r.d = true → r.d.bulk ≤ 2 * v.bulk + 2 → isR r → Pen (t + 10 * (k + 1)) pen' → Q r [pen']
theorem bent_ok (Φ : Tbl) (k : Nat) (h : Φ "_law_take" = takeSp) (h1 : Φ "_law_one_of" = oneOfSp) (h2 : Φ "_law_odd" = oddSp) (hr : k = 0 ∨ ∃ j, k = j + 1 ∧ Φ "_law_bent" = bentSp j) : Impl Φ [true, false] 5 f_law_bent (bentSp k) := by
  rintro ds Q ⟨t, pen, v, c', rfl, hp, ht, hk, hc1, hc2, hv, kk⟩ _
  have oddC : ∀ {x pen'}, gd B30 2 2 x = true → x.bulk ≤ 2 → Pen (t + 5) pen' → Q (.val x) [pen'] := fun {x pen'} a b p =>
    kk (.val x) pen' (gd_mono (Nat.le_refl _) (by omega) (by omega) a) (by show x.bulk ≤ _; omega) (.inl ⟨_, rfl⟩) (p.mono (by omega))
  unfold f_law_bent
  cases v with
  | none =>
    simp -dsimp only [↓wpS, ↓wpE, ↓wpEs, ↓wpEs', ↓wpCs, ↓wpI, ↓callW, ↓okArgs, ↓sigOk, ↓inouts, ↓lents, ↓peeks, ↓peek, ↓pk, ↓slot, ↓setOwn, ↓setC, ↓freeze, ↓isOwn, ↓isIo, ↓slC, ↓isLst, ↓asV, ↓asS, ↓asVs, ↓asSs, ↓isT, ↓R.still, ↓setMany, ↓bindT, ↓wipeE, ↓unwipe, ↓binD, ↓intBin, ↓cmpD, ↓eqD, ↓ordD, ↓ordI, ↓startE, ↓endsOf, ↓ioOf, ↓newsOf, ↓Sl.r, ↓itemsOf, ↓slcD, ↓revD, ↓b1D, ↓b2D, ↓isNoneD, ↓noRefR, ↓noRef, ↓noRefs, ite_self, ↓isTy, ↓List.getElem?_cons_zero, ↓List.getElem?_cons_succ, ↓List.getElem?_nil, ↓Option.join_some, ↓Option.join_none, ↓Option.isSome_some, ↓Option.isSome_none, ↓List.set_cons_zero, ↓List.set_cons_succ, ↓List.replicate, ↓List.length_cons, ↓List.length_nil, ↓List.isEmpty_cons, ↓List.isEmpty_nil, ↓List.all_cons, ↓List.all_nil, ↓List.filterMap_cons, ↓List.filterMap_nil, ↓List.contains_cons, ↓List.contains_nil, ↓Bool.and_true, ↓Bool.true_and, ↓Bool.and_false, ↓Bool.false_and, ↓Bool.not_true, ↓Bool.not_false, ↓if_true, ↓sh_int, ↓sh_bool, ↓sh_none, ↓eqv_ii, ↓eqv_bb, ↓eqv_ss, ↓brn_true, ↓brn_false, brn_true, brn_false, ↓List.any_cons, ↓List.any_nil, ↓if_false, ↓ite_true, ↓ite_false, ↓true_and, ↓and_true, ↓Bool.false_eq_true, ↓reduceCtorEq, ↓decide_true, ↓decide_false, ↓List.map_cons, ↓List.map_nil, ↓Tg.slots, ↓List.nodup_cons, ↓List.nodup_nil, ↓List.not_mem_nil, ↓not_false_eq_true, ↓forall_const, ↓true_implies, ↓bI, Nat.reduceAdd, Nat.reduceSub, Nat.reduceEqDiff, Int.reduceLT, Int.reduceLE, Nat.reduceLT, Nat.reduceLeDiff, Int.reduceNeg, Nat.reduceBEq, ↓BEq.rfl, ↓beq_self_eq_true, ↓Bool.or_false, ↓Bool.or_true]
    rw [h2]
    exact ⟨_, rfl, t, pen, rfl, hp, by omega, fun x pen' a b p _ => by
      simp -dsimp only [↓wpS, ↓wpE, ↓wpEs, ↓wpEs', ↓wpCs, ↓wpI, ↓callW, ↓okArgs, ↓sigOk, ↓inouts, ↓lents, ↓peeks, ↓peek, ↓pk, ↓slot, ↓setOwn, ↓setC, ↓freeze, ↓isOwn, ↓isIo, ↓slC, ↓isLst, ↓asV, ↓asS, ↓asVs, ↓asSs, ↓isT, ↓R.still, ↓setMany, ↓bindT, ↓wipeE, ↓unwipe, ↓binD, ↓intBin, ↓cmpD, ↓eqD, ↓ordD, ↓ordI, ↓startE, ↓endsOf, ↓ioOf, ↓newsOf, ↓Sl.r, ↓itemsOf, ↓slcD, ↓revD, ↓b1D, ↓b2D, ↓isNoneD, ↓noRefR, ↓noRef, ↓noRefs, ite_self, ↓isTy, ↓List.getElem?_cons_zero, ↓List.getElem?_cons_succ, ↓List.getElem?_nil, ↓Option.join_some, ↓Option.join_none, ↓Option.isSome_some, ↓Option.isSome_none, ↓List.set_cons_zero, ↓List.set_cons_succ, ↓List.replicate, ↓List.length_cons, ↓List.length_nil, ↓List.isEmpty_cons, ↓List.isEmpty_nil, ↓List.all_cons, ↓List.all_nil, ↓List.filterMap_cons, ↓List.filterMap_nil, ↓List.contains_cons, ↓List.contains_nil, ↓Bool.and_true, ↓Bool.true_and, ↓Bool.and_false, ↓Bool.false_and, ↓Bool.not_true, ↓Bool.not_false, ↓if_true, ↓sh_int, ↓sh_bool, ↓sh_none, ↓eqv_ii, ↓eqv_bb, ↓eqv_ss, ↓brn_true, ↓brn_false, brn_true, brn_false, ↓List.any_cons, ↓List.any_nil, ↓if_false, ↓ite_true, ↓ite_false, ↓true_and, ↓and_true, ↓Bool.false_eq_true, ↓reduceCtorEq, ↓decide_true, ↓decide_false, ↓List.map_cons, ↓List.map_nil, ↓Tg.slots, ↓List.nodup_cons, ↓List.nodup_nil, ↓List.not_mem_nil, ↓not_false_eq_true, ↓forall_const, ↓true_implies, ↓bI, Nat.reduceAdd, Nat.reduceSub, Nat.reduceEqDiff, Int.reduceLT, Int.reduceLE, Nat.reduceLT, Nat.reduceLeDiff, Int.reduceNeg, Nat.reduceBEq, ↓BEq.rfl, ↓beq_self_eq_true, ↓Bool.or_false, ↓Bool.or_true]
      exact oddC a b (p.mono (by omega))⟩
  | str x =>
    simp -dsimp only [↓wpS, ↓wpE, ↓wpEs, ↓wpEs', ↓wpCs, ↓wpI, ↓callW, ↓okArgs, ↓sigOk, ↓inouts, ↓lents, ↓peeks, ↓peek, ↓pk, ↓slot, ↓setOwn, ↓setC, ↓freeze, ↓isOwn, ↓isIo, ↓slC, ↓isLst, ↓asV, ↓asS, ↓asVs, ↓asSs, ↓isT, ↓R.still, ↓setMany, ↓bindT, ↓wipeE, ↓unwipe, ↓binD, ↓intBin, ↓cmpD, ↓eqD, ↓ordD, ↓ordI, ↓startE, ↓endsOf, ↓ioOf, ↓newsOf, ↓Sl.r, ↓itemsOf, ↓slcD, ↓revD, ↓b1D, ↓b2D, ↓isNoneD, ↓noRefR, ↓noRef, ↓noRefs, ite_self, ↓isTy, ↓List.getElem?_cons_zero, ↓List.getElem?_cons_succ, ↓List.getElem?_nil, ↓Option.join_some, ↓Option.join_none, ↓Option.isSome_some, ↓Option.isSome_none, ↓List.set_cons_zero, ↓List.set_cons_succ, ↓List.replicate, ↓List.length_cons, ↓List.length_nil, ↓List.isEmpty_cons, ↓List.isEmpty_nil, ↓List.all_cons, ↓List.all_nil, ↓List.filterMap_cons, ↓List.filterMap_nil, ↓List.contains_cons, ↓List.contains_nil, ↓Bool.and_true, ↓Bool.true_and, ↓Bool.and_false, ↓Bool.false_and, ↓Bool.not_true, ↓Bool.not_false, ↓if_true, ↓sh_int, ↓sh_bool, ↓sh_none, ↓eqv_ii, ↓eqv_bb, ↓eqv_ss, ↓brn_true, ↓brn_false, brn_true, brn_false, ↓List.any_cons, ↓List.any_nil, ↓if_false, ↓ite_true, ↓ite_false, ↓true_and, ↓and_true, ↓Bool.false_eq_true, ↓reduceCtorEq, ↓decide_true, ↓decide_false, ↓List.map_cons, ↓List.map_nil, ↓Tg.slots, ↓List.nodup_cons, ↓List.nodup_nil, ↓List.not_mem_nil, ↓not_false_eq_true, ↓forall_const, ↓true_implies, ↓bI, Nat.reduceAdd, Nat.reduceSub, Nat.reduceEqDiff, Int.reduceLT, Int.reduceLE, Nat.reduceLT, Nat.reduceLeDiff, Int.reduceNeg, Nat.reduceBEq, ↓BEq.rfl, ↓beq_self_eq_true, ↓Bool.or_false, ↓Bool.or_true]
    rw [h2]
    exact ⟨_, rfl, t, pen, rfl, hp, by omega, fun x pen' a b p _ => by
      simp -dsimp only [↓wpS, ↓wpE, ↓wpEs, ↓wpEs', ↓wpCs, ↓wpI, ↓callW, ↓okArgs, ↓sigOk, ↓inouts, ↓lents, ↓peeks, ↓peek, ↓pk, ↓slot, ↓setOwn, ↓setC, ↓freeze, ↓isOwn, ↓isIo, ↓slC, ↓isLst, ↓asV, ↓asS, ↓asVs, ↓asSs, ↓isT, ↓R.still, ↓setMany, ↓bindT, ↓wipeE, ↓unwipe, ↓binD, ↓intBin, ↓cmpD, ↓eqD, ↓ordD, ↓ordI, ↓startE, ↓endsOf, ↓ioOf, ↓newsOf, ↓Sl.r, ↓itemsOf, ↓slcD, ↓revD, ↓b1D, ↓b2D, ↓isNoneD, ↓noRefR, ↓noRef, ↓noRefs, ite_self, ↓isTy, ↓List.getElem?_cons_zero, ↓List.getElem?_cons_succ, ↓List.getElem?_nil, ↓Option.join_some, ↓Option.join_none, ↓Option.isSome_some, ↓Option.isSome_none, ↓List.set_cons_zero, ↓List.set_cons_succ, ↓List.replicate, ↓List.length_cons, ↓List.length_nil, ↓List.isEmpty_cons, ↓List.isEmpty_nil, ↓List.all_cons, ↓List.all_nil, ↓List.filterMap_cons, ↓List.filterMap_nil, ↓List.contains_cons, ↓List.contains_nil, ↓Bool.and_true, ↓Bool.true_and, ↓Bool.and_false, ↓Bool.false_and, ↓Bool.not_true, ↓Bool.not_false, ↓if_true, ↓sh_int, ↓sh_bool, ↓sh_none, ↓eqv_ii, ↓eqv_bb, ↓eqv_ss, ↓brn_true, ↓brn_false, brn_true, brn_false, ↓List.any_cons, ↓List.any_nil, ↓if_false, ↓ite_true, ↓ite_false, ↓true_and, ↓and_true, ↓Bool.false_eq_true, ↓reduceCtorEq, ↓decide_true, ↓decide_false, ↓List.map_cons, ↓List.map_nil, ↓Tg.slots, ↓List.nodup_cons, ↓List.nodup_nil, ↓List.not_mem_nil, ↓not_false_eq_true, ↓forall_const, ↓true_implies, ↓bI, Nat.reduceAdd, Nat.reduceSub, Nat.reduceEqDiff, Int.reduceLT, Int.reduceLE, Nat.reduceLT, Nat.reduceLeDiff, Int.reduceNeg, Nat.reduceBEq, ↓BEq.rfl, ↓beq_self_eq_true, ↓Bool.or_false, ↓Bool.or_true]
      exact oddC a b (p.mono (by omega))⟩
  | dict kvs =>
    simp -dsimp only [↓wpS, ↓wpE, ↓wpEs, ↓wpEs', ↓wpCs, ↓wpI, ↓callW, ↓okArgs, ↓sigOk, ↓inouts, ↓lents, ↓peeks, ↓peek, ↓pk, ↓slot, ↓setOwn, ↓setC, ↓freeze, ↓isOwn, ↓isIo, ↓slC, ↓isLst, ↓asV, ↓asS, ↓asVs, ↓asSs, ↓isT, ↓R.still, ↓setMany, ↓bindT, ↓wipeE, ↓unwipe, ↓binD, ↓intBin, ↓cmpD, ↓eqD, ↓ordD, ↓ordI, ↓startE, ↓endsOf, ↓ioOf, ↓newsOf, ↓Sl.r, ↓itemsOf, ↓slcD, ↓revD, ↓b1D, ↓b2D, ↓isNoneD, ↓noRefR, ↓noRef, ↓noRefs, ite_self, ↓isTy, ↓List.getElem?_cons_zero, ↓List.getElem?_cons_succ, ↓List.getElem?_nil, ↓Option.join_some, ↓Option.join_none, ↓Option.isSome_some, ↓Option.isSome_none, ↓List.set_cons_zero, ↓List.set_cons_succ, ↓List.replicate, ↓List.length_cons, ↓List.length_nil, ↓List.isEmpty_cons, ↓List.isEmpty_nil, ↓List.all_cons, ↓List.all_nil, ↓List.filterMap_cons, ↓List.filterMap_nil, ↓List.contains_cons, ↓List.contains_nil, ↓Bool.and_true, ↓Bool.true_and, ↓Bool.and_false, ↓Bool.false_and, ↓Bool.not_true, ↓Bool.not_false, ↓if_true, ↓sh_int, ↓sh_bool, ↓sh_none, ↓eqv_ii, ↓eqv_bb, ↓eqv_ss, ↓brn_true, ↓brn_false, brn_true, brn_false, ↓List.any_cons, ↓List.any_nil, ↓if_false, ↓ite_true, ↓ite_false, ↓true_and, ↓and_true, ↓Bool.false_eq_true, ↓reduceCtorEq, ↓decide_true, ↓decide_false, ↓List.map_cons, ↓List.map_nil, ↓Tg.slots, ↓List.nodup_cons, ↓List.nodup_nil, ↓List.not_mem_nil, ↓not_false_eq_true, ↓forall_const, ↓true_implies, ↓bI, Nat.reduceAdd, Nat.reduceSub, Nat.reduceEqDiff, Int.reduceLT, Int.reduceLE, Nat.reduceLT, Nat.reduceLeDiff, Int.reduceNeg, Nat.reduceBEq, ↓BEq.rfl, ↓beq_self_eq_true, ↓Bool.or_false, ↓Bool.or_true]
    rw [h2]
    exact ⟨_, rfl, t, pen, rfl, hp, by omega, fun x pen' a b p _ => by
      simp -dsimp only [↓wpS, ↓wpE, ↓wpEs, ↓wpEs', ↓wpCs, ↓wpI, ↓callW, ↓okArgs, ↓sigOk, ↓inouts, ↓lents, ↓peeks, ↓peek, ↓pk, ↓slot, ↓setOwn, ↓setC, ↓freeze, ↓isOwn, ↓isIo, ↓slC, ↓isLst, ↓asV, ↓asS, ↓asVs, ↓asSs, ↓isT, ↓R.still, ↓setMany, ↓bindT, ↓wipeE, ↓unwipe, ↓binD, ↓intBin, ↓cmpD, ↓eqD, ↓ordD, ↓ordI, ↓startE, ↓endsOf, ↓ioOf, ↓newsOf, ↓Sl.r, ↓itemsOf, ↓slcD, ↓revD, ↓b1D, ↓b2D, ↓isNoneD, ↓noRefR, ↓noRef, ↓noRefs, ite_self, ↓isTy, ↓List.getElem?_cons_zero, ↓List.getElem?_cons_succ, ↓List.getElem?_nil, ↓Option.join_some, ↓Option.join_none, ↓Option.isSome_some, ↓Option.isSome_none, ↓List.set_cons_zero, ↓List.set_cons_succ, ↓List.replicate, ↓List.length_cons, ↓List.length_nil, ↓List.isEmpty_cons, ↓List.isEmpty_nil, ↓List.all_cons, ↓List.all_nil, ↓List.filterMap_cons, ↓List.filterMap_nil, ↓List.contains_cons, ↓List.contains_nil, ↓Bool.and_true, ↓Bool.true_and, ↓Bool.and_false, ↓Bool.false_and, ↓Bool.not_true, ↓Bool.not_false, ↓if_true, ↓sh_int, ↓sh_bool, ↓sh_none, ↓eqv_ii, ↓eqv_bb, ↓eqv_ss, ↓brn_true, ↓brn_false, brn_true, brn_false, ↓List.any_cons, ↓List.any_nil, ↓if_false, ↓ite_true, ↓ite_false, ↓true_and, ↓and_true, ↓Bool.false_eq_true, ↓reduceCtorEq, ↓decide_true, ↓decide_false, ↓List.map_cons, ↓List.map_nil, ↓Tg.slots, ↓List.nodup_cons, ↓List.nodup_nil, ↓List.not_mem_nil, ↓not_false_eq_true, ↓forall_const, ↓true_implies, ↓bI, Nat.reduceAdd, Nat.reduceSub, Nat.reduceEqDiff, Int.reduceLT, Int.reduceLE, Nat.reduceLT, Nat.reduceLeDiff, Int.reduceNeg, Nat.reduceBEq, ↓BEq.rfl, ↓beq_self_eq_true, ↓Bool.or_false, ↓Bool.or_true]
      exact oddC a b (p.mono (by omega))⟩
  | bool b =>
    simp -dsimp only [↓wpS, ↓wpE, ↓wpEs, ↓wpEs', ↓wpCs, ↓wpI, ↓callW, ↓okArgs, ↓sigOk, ↓inouts, ↓lents, ↓peeks, ↓peek, ↓pk, ↓slot, ↓setOwn, ↓setC, ↓freeze, ↓isOwn, ↓isIo, ↓slC, ↓isLst, ↓asV, ↓asS, ↓asVs, ↓asSs, ↓isT, ↓R.still, ↓setMany, ↓bindT, ↓wipeE, ↓unwipe, ↓binD, ↓intBin, ↓cmpD, ↓eqD, ↓ordD, ↓ordI, ↓startE, ↓endsOf, ↓ioOf, ↓newsOf, ↓Sl.r, ↓itemsOf, ↓slcD, ↓revD, ↓b1D, ↓b2D, ↓isNoneD, ↓noRefR, ↓noRef, ↓noRefs, ite_self, ↓isTy, ↓List.getElem?_cons_zero, ↓List.getElem?_cons_succ, ↓List.getElem?_nil, ↓Option.join_some, ↓Option.join_none, ↓Option.isSome_some, ↓Option.isSome_none, ↓List.set_cons_zero, ↓List.set_cons_succ, ↓List.replicate, ↓List.length_cons, ↓List.length_nil, ↓List.isEmpty_cons, ↓List.isEmpty_nil, ↓List.all_cons, ↓List.all_nil, ↓List.filterMap_cons, ↓List.filterMap_nil, ↓List.contains_cons, ↓List.contains_nil, ↓Bool.and_true, ↓Bool.true_and, ↓Bool.and_false, ↓Bool.false_and, ↓Bool.not_true, ↓Bool.not_false, ↓if_true, ↓sh_int, ↓sh_bool, ↓sh_none, ↓eqv_ii, ↓eqv_bb, ↓eqv_ss, ↓brn_true, ↓brn_false, brn_true, brn_false, ↓List.any_cons, ↓List.any_nil, ↓if_false, ↓ite_true, ↓ite_false, ↓true_and, ↓and_true, ↓Bool.false_eq_true, ↓reduceCtorEq, ↓decide_true, ↓decide_false, ↓List.map_cons, ↓List.map_nil, ↓Tg.slots, ↓List.nodup_cons, ↓List.nodup_nil, ↓List.not_mem_nil, ↓not_false_eq_true, ↓forall_const, ↓true_implies, ↓bI, Nat.reduceAdd, Nat.reduceSub, Nat.reduceEqDiff, Int.reduceLT, Int.reduceLE, Nat.reduceLT, Nat.reduceLeDiff, Int.reduceNeg, Nat.reduceBEq, ↓BEq.rfl, ↓beq_self_eq_true, ↓Bool.or_false, ↓Bool.or_true]
    refine ⟨_, rfl, ?_⟩
    rw [h]
    refine ⟨t, pen, _, rfl, hp, by omega, by omega, by omega, fun r pen1 a1 a2 c1 _ => ?_⟩
    simp -dsimp only [↓wpS, ↓wpE, ↓wpEs, ↓wpEs', ↓wpCs, ↓wpI, ↓callW, ↓okArgs, ↓sigOk, ↓inouts, ↓lents, ↓peeks, ↓peek, ↓pk, ↓slot, ↓setOwn, ↓setC, ↓freeze, ↓isOwn, ↓isIo, ↓slC, ↓isLst, ↓asV, ↓asS, ↓asVs, ↓asSs, ↓isT, ↓R.still, ↓setMany, ↓bindT, ↓wipeE, ↓unwipe, ↓binD, ↓intBin, ↓cmpD, ↓eqD, ↓ordD, ↓ordI, ↓startE, ↓endsOf, ↓ioOf, ↓newsOf, ↓Sl.r, ↓itemsOf, ↓slcD, ↓revD, ↓b1D, ↓b2D, ↓isNoneD, ↓noRefR, ↓noRef, ↓noRefs, ite_self, ↓isTy, ↓List.getElem?_cons_zero, ↓List.getElem?_cons_succ, ↓List.getElem?_nil, ↓Option.join_some, ↓Option.join_none, ↓Option.isSome_some, ↓Option.isSome_none, ↓List.set_cons_zero, ↓List.set_cons_succ, ↓List.replicate, ↓List.length_cons, ↓List.length_nil, ↓List.isEmpty_cons, ↓List.isEmpty_nil, ↓List.all_cons, ↓List.all_nil, ↓List.filterMap_cons, ↓List.filterMap_nil, ↓List.contains_cons, ↓List.contains_nil, ↓Bool.and_true, ↓Bool.true_and, ↓Bool.and_false, ↓Bool.false_and, ↓Bool.not_true, ↓Bool.not_false, ↓if_true, ↓sh_int, ↓sh_bool, ↓sh_none, ↓eqv_ii, ↓eqv_bb, ↓eqv_ss, ↓brn_true, ↓brn_false, brn_true, brn_false, ↓List.any_cons, ↓List.any_nil, ↓if_false, ↓ite_true, ↓ite_false, ↓true_and, ↓and_true, ↓Bool.false_eq_true, ↓reduceCtorEq, ↓decide_true, ↓decide_false, ↓List.map_cons, ↓List.map_nil, ↓Tg.slots, ↓List.nodup_cons, ↓List.nodup_nil, ↓List.not_mem_nil, ↓not_false_eq_true, ↓forall_const, ↓true_implies, ↓bI, Nat.reduceAdd, Nat.reduceSub, Nat.reduceEqDiff, Int.reduceLT, Int.reduceLE, Nat.reduceLT, Nat.reduceLeDiff, Int.reduceNeg, Nat.reduceBEq, ↓BEq.rfl, ↓beq_self_eq_true, ↓Bool.or_false, ↓Bool.or_true]
    refine brn_of (fun hb => ?_) (fun hb => ?_)
    · cases b
      all_goals
        simp -dsimp only [↓wpS, ↓wpE, ↓wpEs, ↓wpEs', ↓wpCs, ↓wpI, ↓callW, ↓okArgs, ↓sigOk, ↓inouts, ↓lents, ↓peeks, ↓peek, ↓pk, ↓slot, ↓setOwn, ↓setC, ↓freeze, ↓isOwn, ↓isIo, ↓slC, ↓isLst, ↓asV, ↓asS, ↓asVs, ↓asSs, ↓isT, ↓R.still, ↓setMany, ↓bindT, ↓wipeE, ↓unwipe, ↓binD, ↓intBin, ↓cmpD, ↓eqD, ↓ordD, ↓ordI, ↓startE, ↓endsOf, ↓ioOf, ↓newsOf, ↓Sl.r, ↓itemsOf, ↓slcD, ↓revD, ↓b1D, ↓b2D, ↓isNoneD, ↓noRefR, ↓noRef, ↓noRefs, ite_self, ↓isTy, ↓List.getElem?_cons_zero, ↓List.getElem?_cons_succ, ↓List.getElem?_nil, ↓Option.join_some, ↓Option.join_none, ↓Option.isSome_some, ↓Option.isSome_none, ↓List.set_cons_zero, ↓List.set_cons_succ, ↓List.replicate, ↓List.length_cons, ↓List.length_nil, ↓List.isEmpty_cons, ↓List.isEmpty_nil, ↓List.all_cons, ↓List.all_nil, ↓List.filterMap_cons, ↓List.filterMap_nil, ↓List.contains_cons, ↓List.contains_nil, ↓Bool.and_true, ↓Bool.true_and, ↓Bool.and_false, ↓Bool.false_and, ↓Bool.not_true, ↓Bool.not_false, ↓if_true, ↓sh_int, ↓sh_bool, ↓sh_none, ↓eqv_ii, ↓eqv_bb, ↓eqv_ss, ↓brn_true, ↓brn_false, brn_true, brn_false, ↓List.any_cons, ↓List.any_nil, ↓if_false, ↓ite_true, ↓ite_false, ↓true_and, ↓and_true, ↓Bool.false_eq_true, ↓reduceCtorEq, ↓decide_true, ↓decide_false, ↓List.map_cons, ↓List.map_nil, ↓Tg.slots, ↓List.nodup_cons, ↓List.nodup_nil, ↓List.not_mem_nil, ↓not_false_eq_true, ↓forall_const, ↓true_implies, ↓bI, Nat.reduceAdd, Nat.reduceSub, Nat.reduceEqDiff, Int.reduceLT, Int.reduceLE, Nat.reduceLT, Nat.reduceLeDiff, Int.reduceNeg, Nat.reduceBEq, ↓BEq.rfl, ↓beq_self_eq_true, ↓Bool.or_false, ↓Bool.or_true]
        refine ⟨_, rfl, ?_⟩
        rw [h1]
        refine ⟨_, pen1, _, rfl, c1, by omega, _, rfl, by simp, by simp, fun x pen' hx c _ => ?_⟩
        simp -dsimp only [↓wpS, ↓wpE, ↓wpEs, ↓wpEs', ↓wpCs, ↓wpI, ↓callW, ↓okArgs, ↓sigOk, ↓inouts, ↓lents, ↓peeks, ↓peek, ↓pk, ↓slot, ↓setOwn, ↓setC, ↓freeze, ↓isOwn, ↓isIo, ↓slC, ↓isLst, ↓asV, ↓asS, ↓asVs, ↓asSs, ↓isT, ↓R.still, ↓setMany, ↓bindT, ↓wipeE, ↓unwipe, ↓binD, ↓intBin, ↓cmpD, ↓eqD, ↓ordD, ↓ordI, ↓startE, ↓endsOf, ↓ioOf, ↓newsOf, ↓Sl.r, ↓itemsOf, ↓slcD, ↓revD, ↓b1D, ↓b2D, ↓isNoneD, ↓noRefR, ↓noRef, ↓noRefs, ite_self, ↓isTy, ↓List.getElem?_cons_zero, ↓List.getElem?_cons_succ, ↓List.getElem?_nil, ↓Option.join_some, ↓Option.join_none, ↓Option.isSome_some, ↓Option.isSome_none, ↓List.set_cons_zero, ↓List.set_cons_succ, ↓List.replicate, ↓List.length_cons, ↓List.length_nil, ↓List.isEmpty_cons, ↓List.isEmpty_nil, ↓List.all_cons, ↓List.all_nil, ↓List.filterMap_cons, ↓List.filterMap_nil, ↓List.contains_cons, ↓List.contains_nil, ↓Bool.and_true, ↓Bool.true_and, ↓Bool.and_false, ↓Bool.false_and, ↓Bool.not_true, ↓Bool.not_false, ↓if_true, ↓sh_int, ↓sh_bool, ↓sh_none, ↓eqv_ii, ↓eqv_bb, ↓eqv_ss, ↓brn_true, ↓brn_false, brn_true, brn_false, ↓List.any_cons, ↓List.any_nil, ↓if_false, ↓ite_true, ↓ite_false, ↓true_and, ↓and_true, ↓Bool.false_eq_true, ↓reduceCtorEq, ↓decide_true, ↓decide_false, ↓List.map_cons, ↓List.map_nil, ↓Tg.slots, ↓List.nodup_cons, ↓List.nodup_nil, ↓List.not_mem_nil, ↓not_false_eq_true, ↓forall_const, ↓true_implies, ↓bI, Nat.reduceAdd, Nat.reduceSub, Nat.reduceEqDiff, Int.reduceLT, Int.reduceLE, Nat.reduceLT, Nat.reduceLeDiff, Int.reduceNeg, Nat.reduceBEq, ↓BEq.rfl, ↓beq_self_eq_true, ↓Bool.or_false, ↓Bool.or_true]
        have : gd B30 (c' + 1) (k + 2) x = true ∧ x.bulk = 0 := by
          simp only [List.mem_cons, List.not_mem_nil, or_false] at hx
          rcases hx with rfl | rfl | rfl | rfl
          · exact ⟨gd_int.mpr (by decide +kernel), rfl⟩
          · exact ⟨gd_int.mpr (by decide +kernel), rfl⟩
          · exact ⟨gd_bool, rfl⟩
          · exact ⟨gd_int.mpr (by decide +kernel), rfl⟩
        exact kk (.val x) pen' this.1 (by show x.bulk ≤ _; omega) (.inl ⟨_, rfl⟩) (c.mono (by omega))
    · simp -dsimp only [↓wpS, ↓wpE, ↓wpEs, ↓wpEs', ↓wpCs, ↓wpI, ↓callW, ↓okArgs, ↓sigOk, ↓inouts, ↓lents, ↓peeks, ↓peek, ↓pk, ↓slot, ↓setOwn, ↓setC, ↓freeze, ↓isOwn, ↓isIo, ↓slC, ↓isLst, ↓asV, ↓asS, ↓asVs, ↓asSs, ↓isT, ↓R.still, ↓setMany, ↓bindT, ↓wipeE, ↓unwipe, ↓binD, ↓intBin, ↓cmpD, ↓eqD, ↓ordD, ↓ordI, ↓startE, ↓endsOf, ↓ioOf, ↓newsOf, ↓Sl.r, ↓itemsOf, ↓slcD, ↓revD, ↓b1D, ↓b2D, ↓isNoneD, ↓noRefR, ↓noRef, ↓noRefs, ite_self, ↓isTy, ↓List.getElem?_cons_zero, ↓List.getElem?_cons_succ, ↓List.getElem?_nil, ↓Option.join_some, ↓Option.join_none, ↓Option.isSome_some, ↓Option.isSome_none, ↓List.set_cons_zero, ↓List.set_cons_succ, ↓List.replicate, ↓List.length_cons, ↓List.length_nil, ↓List.isEmpty_cons, ↓List.isEmpty_nil, ↓List.all_cons, ↓List.all_nil, ↓List.filterMap_cons, ↓List.filterMap_nil, ↓List.contains_cons, ↓List.contains_nil, ↓Bool.and_true, ↓Bool.true_and, ↓Bool.and_false, ↓Bool.false_and, ↓Bool.not_true, ↓Bool.not_false, ↓if_true, ↓sh_int, ↓sh_bool, ↓sh_none, ↓eqv_ii, ↓eqv_bb, ↓eqv_ss, ↓brn_true, ↓brn_false, brn_true, brn_false, ↓List.any_cons, ↓List.any_nil, ↓if_false, ↓ite_true, ↓ite_false, ↓true_and, ↓and_true, ↓Bool.false_eq_true, ↓reduceCtorEq, ↓decide_true, ↓decide_false, ↓List.map_cons, ↓List.map_nil, ↓Tg.slots, ↓List.nodup_cons, ↓List.nodup_nil, ↓List.not_mem_nil, ↓not_false_eq_true, ↓forall_const, ↓true_implies, ↓bI, Nat.reduceAdd, Nat.reduceSub, Nat.reduceEqDiff, Int.reduceLT, Int.reduceLE, Nat.reduceLT, Nat.reduceLeDiff, Int.reduceNeg, Nat.reduceBEq, ↓BEq.rfl, ↓beq_self_eq_true, ↓Bool.or_false, ↓Bool.or_true]
      rw [h2]
      exact ⟨_, rfl, _, pen1, rfl, c1, by omega, fun x pen' a b p _ => by
        simp -dsimp only [↓wpS, ↓wpE, ↓wpEs, ↓wpEs', ↓wpCs, ↓wpI, ↓callW, ↓okArgs, ↓sigOk, ↓inouts, ↓lents, ↓peeks, ↓peek, ↓pk, ↓slot, ↓setOwn, ↓setC, ↓freeze, ↓isOwn, ↓isIo, ↓slC, ↓isLst, ↓asV, ↓asS, ↓asVs, ↓asSs, ↓isT, ↓R.still, ↓setMany, ↓bindT, ↓wipeE, ↓unwipe, ↓binD, ↓intBin, ↓cmpD, ↓eqD, ↓ordD, ↓ordI, ↓startE, ↓endsOf, ↓ioOf, ↓newsOf, ↓Sl.r, ↓itemsOf, ↓slcD, ↓revD, ↓b1D, ↓b2D, ↓isNoneD, ↓noRefR, ↓noRef, ↓noRefs, ite_self, ↓isTy, ↓List.getElem?_cons_zero, ↓List.getElem?_cons_succ, ↓List.getElem?_nil, ↓Option.join_some, ↓Option.join_none, ↓Option.isSome_some, ↓Option.isSome_none, ↓List.set_cons_zero, ↓List.set_cons_succ, ↓List.replicate, ↓List.length_cons, ↓List.length_nil, ↓List.isEmpty_cons, ↓List.isEmpty_nil, ↓List.all_cons, ↓List.all_nil, ↓List.filterMap_cons, ↓List.filterMap_nil, ↓List.contains_cons, ↓List.contains_nil, ↓Bool.and_true, ↓Bool.true_and, ↓Bool.and_false, ↓Bool.false_and, ↓Bool.not_true, ↓Bool.not_false, ↓if_true, ↓sh_int, ↓sh_bool, ↓sh_none, ↓eqv_ii, ↓eqv_bb, ↓eqv_ss, ↓brn_true, ↓brn_false, brn_true, brn_false, ↓List.any_cons, ↓List.any_nil, ↓if_false, ↓ite_true, ↓ite_false, ↓true_and, ↓and_true, ↓Bool.false_eq_true, ↓reduceCtorEq, ↓decide_true, ↓decide_false, ↓List.map_cons, ↓List.map_nil, ↓Tg.slots, ↓List.nodup_cons, ↓List.nodup_nil, ↓List.not_mem_nil, ↓not_false_eq_true, ↓forall_const, ↓true_implies, ↓bI, Nat.reduceAdd, Nat.reduceSub, Nat.reduceEqDiff, Int.reduceLT, Int.reduceLE, Nat.reduceLT, Nat.reduceLeDiff, Int.reduceNeg, Nat.reduceBEq, ↓BEq.rfl, ↓beq_self_eq_true, ↓Bool.or_false, ↓Bool.or_true]
        exact oddC a b (p.mono (by omega))⟩
  | int i =>
    have hi : i.natAbs < B12 := gd_int.mp hv
    simp -dsimp only [↓wpS, ↓wpE, ↓wpEs, ↓wpEs', ↓wpCs, ↓wpI, ↓callW, ↓okArgs, ↓sigOk, ↓inouts, ↓lents, ↓peeks, ↓peek, ↓pk, ↓slot, ↓setOwn, ↓setC, ↓freeze, ↓isOwn, ↓isIo, ↓slC, ↓isLst, ↓asV, ↓asS, ↓asVs, ↓asSs, ↓isT, ↓R.still, ↓setMany, ↓bindT, ↓wipeE, ↓unwipe, ↓binD, ↓intBin, ↓cmpD, ↓eqD, ↓ordD, ↓ordI, ↓startE, ↓endsOf, ↓ioOf, ↓newsOf, ↓Sl.r, ↓itemsOf, ↓slcD, ↓revD, ↓b1D, ↓b2D, ↓isNoneD, ↓noRefR, ↓noRef, ↓noRefs, ite_self, ↓isTy, ↓List.getElem?_cons_zero, ↓List.getElem?_cons_succ, ↓List.getElem?_nil, ↓Option.join_some, ↓Option.join_none, ↓Option.isSome_some, ↓Option.isSome_none, ↓List.set_cons_zero, ↓List.set_cons_succ, ↓List.replicate, ↓List.length_cons, ↓List.length_nil, ↓List.isEmpty_cons, ↓List.isEmpty_nil, ↓List.all_cons, ↓List.all_nil, ↓List.filterMap_cons, ↓List.filterMap_nil, ↓List.contains_cons, ↓List.contains_nil, ↓Bool.and_true, ↓Bool.true_and, ↓Bool.and_false, ↓Bool.false_and, ↓Bool.not_true, ↓Bool.not_false, ↓if_true, ↓sh_int, ↓sh_bool, ↓sh_none, ↓eqv_ii, ↓eqv_bb, ↓eqv_ss, ↓brn_true, ↓brn_false, brn_true, brn_false, ↓List.any_cons, ↓List.any_nil, ↓if_false, ↓ite_true, ↓ite_false, ↓true_and, ↓and_true, ↓Bool.false_eq_true, ↓reduceCtorEq, ↓decide_true, ↓decide_false, ↓List.map_cons, ↓List.map_nil, ↓Tg.slots, ↓List.nodup_cons, ↓List.nodup_nil, ↓List.not_mem_nil, ↓not_false_eq_true, ↓forall_const, ↓true_implies, ↓bI, Nat.reduceAdd, Nat.reduceSub, Nat.reduceEqDiff, Int.reduceLT, Int.reduceLE, Nat.reduceLT, Nat.reduceLeDiff, Int.reduceNeg, Nat.reduceBEq, ↓BEq.rfl, ↓beq_self_eq_true, ↓Bool.or_false, ↓Bool.or_true]
    refine ⟨_, rfl, ?_⟩
    rw [h]
    refine ⟨t, pen, _, rfl, hp, by omega, by omega, by omega, fun r pen1 a1 a2 c1 _ => ?_⟩
    have more : ∀ {y x : PyData} {pen'}, (∃ b, y = .bool b) ∨ (∃ j : Int, y = .int j ∧ j.natAbs < B30) → x ∈ [.int (i + 1), .int (i - 1), y, .int (i * 1000)] → Pen (t + 1 + 1) pen' → Q (.val x) [pen'] := fun {y x pen'} hy hx hp' => by
      have e12 : B12 = 10 ^ 12 := rfl
      have e30 : B30 = 10 ^ 30 := rfl
      have : gd B30 (c' + 1) (k + 2) x = true ∧ x.bulk = 0 := by
        simp only [List.mem_cons, List.not_mem_nil, or_false] at hx
        rcases hx with rfl | rfl | rfl | rfl
        · exact ⟨gd_int.mpr (by omega), rfl⟩
        · exact ⟨gd_int.mpr (by omega), rfl⟩
        · rcases hy with ⟨b, rfl⟩ | ⟨j, rfl, hj⟩
          · exact ⟨gd_bool, rfl⟩
          · exact ⟨gd_int.mpr hj, rfl⟩
        · exact ⟨gd_int.mpr (by omega), rfl⟩
      exact kk (.val x) pen' this.1 (by show x.bulk ≤ _; omega) (.inl ⟨_, rfl⟩) (hp'.mono (by omega))
    simp -dsimp only [↓wpS, ↓wpE, ↓wpEs, ↓wpEs', ↓wpCs, ↓wpI, ↓callW, ↓okArgs, ↓sigOk, ↓inouts, ↓lents, ↓peeks, ↓peek, ↓pk, ↓slot, ↓setOwn, ↓setC, ↓freeze, ↓isOwn, ↓isIo, ↓slC, ↓isLst, ↓asV, ↓asS, ↓asVs, ↓asSs, ↓isT, ↓R.still, ↓setMany, ↓bindT, ↓wipeE, ↓unwipe, ↓binD, ↓intBin, ↓cmpD, ↓eqD, ↓ordD, ↓ordI, ↓startE, ↓endsOf, ↓ioOf, ↓newsOf, ↓Sl.r, ↓itemsOf, ↓slcD, ↓revD, ↓b1D, ↓b2D, ↓isNoneD, ↓noRefR, ↓noRef, ↓noRefs, ite_self, ↓isTy, ↓List.getElem?_cons_zero, ↓List.getElem?_cons_succ, ↓List.getElem?_nil, ↓Option.join_some, ↓Option.join_none, ↓Option.isSome_some, ↓Option.isSome_none, ↓List.set_cons_zero, ↓List.set_cons_succ, ↓List.replicate, ↓List.length_cons, ↓List.length_nil, ↓List.isEmpty_cons, ↓List.isEmpty_nil, ↓List.all_cons, ↓List.all_nil, ↓List.filterMap_cons, ↓List.filterMap_nil, ↓List.contains_cons, ↓List.contains_nil, ↓Bool.and_true, ↓Bool.true_and, ↓Bool.and_false, ↓Bool.false_and, ↓Bool.not_true, ↓Bool.not_false, ↓if_true, ↓sh_int, ↓sh_bool, ↓sh_none, ↓eqv_ii, ↓eqv_bb, ↓eqv_ss, ↓brn_true, ↓brn_false, brn_true, brn_false, ↓List.any_cons, ↓List.any_nil, ↓if_false, ↓ite_true, ↓ite_false, ↓true_and, ↓and_true, ↓Bool.false_eq_true, ↓reduceCtorEq, ↓decide_true, ↓decide_false, ↓List.map_cons, ↓List.map_nil, ↓Tg.slots, ↓List.nodup_cons, ↓List.nodup_nil, ↓List.not_mem_nil, ↓not_false_eq_true, ↓forall_const, ↓true_implies, ↓bI, Nat.reduceAdd, Nat.reduceSub, Nat.reduceEqDiff, Int.reduceLT, Int.reduceLE, Nat.reduceLT, Nat.reduceLeDiff, Int.reduceNeg, Nat.reduceBEq, ↓BEq.rfl, ↓beq_self_eq_true, ↓Bool.or_false, ↓Bool.or_true]
    refine brn_of (fun hb => ?_) (fun hb => ?_)
    · simp -dsimp only [↓wpS, ↓wpE, ↓wpEs, ↓wpEs', ↓wpCs, ↓wpI, ↓callW, ↓okArgs, ↓sigOk, ↓inouts, ↓lents, ↓peeks, ↓peek, ↓pk, ↓slot, ↓setOwn, ↓setC, ↓freeze, ↓isOwn, ↓isIo, ↓slC, ↓isLst, ↓asV, ↓asS, ↓asVs, ↓asSs, ↓isT, ↓R.still, ↓setMany, ↓bindT, ↓wipeE, ↓unwipe, ↓binD, ↓intBin, ↓cmpD, ↓eqD, ↓ordD, ↓ordI, ↓startE, ↓endsOf, ↓ioOf, ↓newsOf, ↓Sl.r, ↓itemsOf, ↓slcD, ↓revD, ↓b1D, ↓b2D, ↓isNoneD, ↓noRefR, ↓noRef, ↓noRefs, ite_self, ↓isTy, ↓List.getElem?_cons_zero, ↓List.getElem?_cons_succ, ↓List.getElem?_nil, ↓Option.join_some, ↓Option.join_none, ↓Option.isSome_some, ↓Option.isSome_none, ↓List.set_cons_zero, ↓List.set_cons_succ, ↓List.replicate, ↓List.length_cons, ↓List.length_nil, ↓List.isEmpty_cons, ↓List.isEmpty_nil, ↓List.all_cons, ↓List.all_nil, ↓List.filterMap_cons, ↓List.filterMap_nil, ↓List.contains_cons, ↓List.contains_nil, ↓Bool.and_true, ↓Bool.true_and, ↓Bool.and_false, ↓Bool.false_and, ↓Bool.not_true, ↓Bool.not_false, ↓if_true, ↓sh_int, ↓sh_bool, ↓sh_none, ↓eqv_ii, ↓eqv_bb, ↓eqv_ss, ↓brn_true, ↓brn_false, brn_true, brn_false, ↓List.any_cons, ↓List.any_nil, ↓if_false, ↓ite_true, ↓ite_false, ↓true_and, ↓and_true, ↓Bool.false_eq_true, ↓reduceCtorEq, ↓decide_true, ↓decide_false, ↓List.map_cons, ↓List.map_nil, ↓Tg.slots, ↓List.nodup_cons, ↓List.nodup_nil, ↓List.not_mem_nil, ↓not_false_eq_true, ↓forall_const, ↓true_implies, ↓bI, Nat.reduceAdd, Nat.reduceSub, Nat.reduceEqDiff, Int.reduceLT, Int.reduceLE, Nat.reduceLT, Nat.reduceLeDiff, Int.reduceNeg, Nat.reduceBEq, ↓BEq.rfl, ↓beq_self_eq_true, ↓Bool.or_false, ↓Bool.or_true]
      refine brn_of (fun hb => ?_) (fun hb => ?_)
      · simp -dsimp only [↓wpS, ↓wpE, ↓wpEs, ↓wpEs', ↓wpCs, ↓wpI, ↓callW, ↓okArgs, ↓sigOk, ↓inouts, ↓lents, ↓peeks, ↓peek, ↓pk, ↓slot, ↓setOwn, ↓setC, ↓freeze, ↓isOwn, ↓isIo, ↓slC, ↓isLst, ↓asV, ↓asS, ↓asVs, ↓asSs, ↓isT, ↓R.still, ↓setMany, ↓bindT, ↓wipeE, ↓unwipe, ↓binD, ↓intBin, ↓cmpD, ↓eqD, ↓ordD, ↓ordI, ↓startE, ↓endsOf, ↓ioOf, ↓newsOf, ↓Sl.r, ↓itemsOf, ↓slcD, ↓revD, ↓b1D, ↓b2D, ↓isNoneD, ↓noRefR, ↓noRef, ↓noRefs, ite_self, ↓isTy, ↓List.getElem?_cons_zero, ↓List.getElem?_cons_succ, ↓List.getElem?_nil, ↓Option.join_some, ↓Option.join_none, ↓Option.isSome_some, ↓Option.isSome_none, ↓List.set_cons_zero, ↓List.set_cons_succ, ↓List.replicate, ↓List.length_cons, ↓List.length_nil, ↓List.isEmpty_cons, ↓List.isEmpty_nil, ↓List.all_cons, ↓List.all_nil, ↓List.filterMap_cons, ↓List.filterMap_nil, ↓List.contains_cons, ↓List.contains_nil, ↓Bool.and_true, ↓Bool.true_and, ↓Bool.and_false, ↓Bool.false_and, ↓Bool.not_true, ↓Bool.not_false, ↓if_true, ↓sh_int, ↓sh_bool, ↓sh_none, ↓eqv_ii, ↓eqv_bb, ↓eqv_ss, ↓brn_true, ↓brn_false, brn_true, brn_false, ↓List.any_cons, ↓List.any_nil, ↓if_false, ↓ite_true, ↓ite_false, ↓true_and, ↓and_true, ↓Bool.false_eq_true, ↓reduceCtorEq, ↓decide_true, ↓decide_false, ↓List.map_cons, ↓List.map_nil, ↓Tg.slots, ↓List.nodup_cons, ↓List.nodup_nil, ↓List.not_mem_nil, ↓not_false_eq_true, ↓forall_const, ↓true_implies, ↓bI, Nat.reduceAdd, Nat.reduceSub, Nat.reduceEqDiff, Int.reduceLT, Int.reduceLE, Nat.reduceLT, Nat.reduceLeDiff, Int.reduceNeg, Nat.reduceBEq, ↓BEq.rfl, ↓beq_self_eq_true, ↓Bool.or_false, ↓Bool.or_true]
        refine brn_of (fun hb => ?_) (fun hb => ?_)
        · simp -dsimp only [↓wpS, ↓wpE, ↓wpEs, ↓wpEs', ↓wpCs, ↓wpI, ↓callW, ↓okArgs, ↓sigOk, ↓inouts, ↓lents, ↓peeks, ↓peek, ↓pk, ↓slot, ↓setOwn, ↓setC, ↓freeze, ↓isOwn, ↓isIo, ↓slC, ↓isLst, ↓asV, ↓asS, ↓asVs, ↓asSs, ↓isT, ↓R.still, ↓setMany, ↓bindT, ↓wipeE, ↓unwipe, ↓binD, ↓intBin, ↓cmpD, ↓eqD, ↓ordD, ↓ordI, ↓startE, ↓endsOf, ↓ioOf, ↓newsOf, ↓Sl.r, ↓itemsOf, ↓slcD, ↓revD, ↓b1D, ↓b2D, ↓isNoneD, ↓noRefR, ↓noRef, ↓noRefs, ite_self, ↓isTy, ↓List.getElem?_cons_zero, ↓List.getElem?_cons_succ, ↓List.getElem?_nil, ↓Option.join_some, ↓Option.join_none, ↓Option.isSome_some, ↓Option.isSome_none, ↓List.set_cons_zero, ↓List.set_cons_succ, ↓List.replicate, ↓List.length_cons, ↓List.length_nil, ↓List.isEmpty_cons, ↓List.isEmpty_nil, ↓List.all_cons, ↓List.all_nil, ↓List.filterMap_cons, ↓List.filterMap_nil, ↓List.contains_cons, ↓List.contains_nil, ↓Bool.and_true, ↓Bool.true_and, ↓Bool.and_false, ↓Bool.false_and, ↓Bool.not_true, ↓Bool.not_false, ↓if_true, ↓sh_int, ↓sh_bool, ↓sh_none, ↓eqv_ii, ↓eqv_bb, ↓eqv_ss, ↓brn_true, ↓brn_false, brn_true, brn_false, ↓List.any_cons, ↓List.any_nil, ↓if_false, ↓ite_true, ↓ite_false, ↓true_and, ↓and_true, ↓Bool.false_eq_true, ↓reduceCtorEq, ↓decide_true, ↓decide_false, ↓List.map_cons, ↓List.map_nil, ↓Tg.slots, ↓List.nodup_cons, ↓List.nodup_nil, ↓List.not_mem_nil, ↓not_false_eq_true, ↓forall_const, ↓true_implies, ↓bI, Nat.reduceAdd, Nat.reduceSub, Nat.reduceEqDiff, Int.reduceLT, Int.reduceLE, Nat.reduceLT, Nat.reduceLeDiff, Int.reduceNeg, Nat.reduceBEq, ↓BEq.rfl, ↓beq_self_eq_true, ↓Bool.or_false, ↓Bool.or_true]
          refine ⟨.inr ⟨by decide, by decide⟩, _, rfl, ?_⟩
          rw [h1]
          refine ⟨_, pen1, _, rfl, c1, by omega, _, rfl, by simp, by simp, fun x pen' hx c _ => ?_⟩
          simp -dsimp only [↓wpS, ↓wpE, ↓wpEs, ↓wpEs', ↓wpCs, ↓wpI, ↓callW, ↓okArgs, ↓sigOk, ↓inouts, ↓lents, ↓peeks, ↓peek, ↓pk, ↓slot, ↓setOwn, ↓setC, ↓freeze, ↓isOwn, ↓isIo, ↓slC, ↓isLst, ↓asV, ↓asS, ↓asVs, ↓asSs, ↓isT, ↓R.still, ↓setMany, ↓bindT, ↓wipeE, ↓unwipe, ↓binD, ↓intBin, ↓cmpD, ↓eqD, ↓ordD, ↓ordI, ↓startE, ↓endsOf, ↓ioOf, ↓newsOf, ↓Sl.r, ↓itemsOf, ↓slcD, ↓revD, ↓b1D, ↓b2D, ↓isNoneD, ↓noRefR, ↓noRef, ↓noRefs, ite_self, ↓isTy, ↓List.getElem?_cons_zero, ↓List.getElem?_cons_succ, ↓List.getElem?_nil, ↓Option.join_some, ↓Option.join_none, ↓Option.isSome_some, ↓Option.isSome_none, ↓List.set_cons_zero, ↓List.set_cons_succ, ↓List.replicate, ↓List.length_cons, ↓List.length_nil, ↓List.isEmpty_cons, ↓List.isEmpty_nil, ↓List.all_cons, ↓List.all_nil, ↓List.filterMap_cons, ↓List.filterMap_nil, ↓List.contains_cons, ↓List.contains_nil, ↓Bool.and_true, ↓Bool.true_and, ↓Bool.and_false, ↓Bool.false_and, ↓Bool.not_true, ↓Bool.not_false, ↓if_true, ↓sh_int, ↓sh_bool, ↓sh_none, ↓eqv_ii, ↓eqv_bb, ↓eqv_ss, ↓brn_true, ↓brn_false, brn_true, brn_false, ↓List.any_cons, ↓List.any_nil, ↓if_false, ↓ite_true, ↓ite_false, ↓true_and, ↓and_true, ↓Bool.false_eq_true, ↓reduceCtorEq, ↓decide_true, ↓decide_false, ↓List.map_cons, ↓List.map_nil, ↓Tg.slots, ↓List.nodup_cons, ↓List.nodup_nil, ↓List.not_mem_nil, ↓not_false_eq_true, ↓forall_const, ↓true_implies, ↓bI, Nat.reduceAdd, Nat.reduceSub, Nat.reduceEqDiff, Int.reduceLT, Int.reduceLE, Nat.reduceLT, Nat.reduceLeDiff, Int.reduceNeg, Nat.reduceBEq, ↓BEq.rfl, ↓beq_self_eq_true, ↓Bool.or_false, ↓Bool.or_true]
          exact more (.inl ⟨_, rfl⟩) hx c
        · simp -dsimp only [↓wpS, ↓wpE, ↓wpEs, ↓wpEs', ↓wpCs, ↓wpI, ↓callW, ↓okArgs, ↓sigOk, ↓inouts, ↓lents, ↓peeks, ↓peek, ↓pk, ↓slot, ↓setOwn, ↓setC, ↓freeze, ↓isOwn, ↓isIo, ↓slC, ↓isLst, ↓asV, ↓asS, ↓asVs, ↓asSs, ↓isT, ↓R.still, ↓setMany, ↓bindT, ↓wipeE, ↓unwipe, ↓binD, ↓intBin, ↓cmpD, ↓eqD, ↓ordD, ↓ordI, ↓startE, ↓endsOf, ↓ioOf, ↓newsOf, ↓Sl.r, ↓itemsOf, ↓slcD, ↓revD, ↓b1D, ↓b2D, ↓isNoneD, ↓noRefR, ↓noRef, ↓noRefs, ite_self, ↓isTy, ↓List.getElem?_cons_zero, ↓List.getElem?_cons_succ, ↓List.getElem?_nil, ↓Option.join_some, ↓Option.join_none, ↓Option.isSome_some, ↓Option.isSome_none, ↓List.set_cons_zero, ↓List.set_cons_succ, ↓List.replicate, ↓List.length_cons, ↓List.length_nil, ↓List.isEmpty_cons, ↓List.isEmpty_nil, ↓List.all_cons, ↓List.all_nil, ↓List.filterMap_cons, ↓List.filterMap_nil, ↓List.contains_cons, ↓List.contains_nil, ↓Bool.and_true, ↓Bool.true_and, ↓Bool.and_false, ↓Bool.false_and, ↓Bool.not_true, ↓Bool.not_false, ↓if_true, ↓sh_int, ↓sh_bool, ↓sh_none, ↓eqv_ii, ↓eqv_bb, ↓eqv_ss, ↓brn_true, ↓brn_false, brn_true, brn_false, ↓List.any_cons, ↓List.any_nil, ↓if_false, ↓ite_true, ↓ite_false, ↓true_and, ↓and_true, ↓Bool.false_eq_true, ↓reduceCtorEq, ↓decide_true, ↓decide_false, ↓List.map_cons, ↓List.map_nil, ↓Tg.slots, ↓List.nodup_cons, ↓List.nodup_nil, ↓List.not_mem_nil, ↓not_false_eq_true, ↓forall_const, ↓true_implies, ↓bI, Nat.reduceAdd, Nat.reduceSub, Nat.reduceEqDiff, Int.reduceLT, Int.reduceLE, Nat.reduceLT, Nat.reduceLeDiff, Int.reduceNeg, Nat.reduceBEq, ↓BEq.rfl, ↓beq_self_eq_true, ↓Bool.or_false, ↓Bool.or_true]
          refine ⟨.inr ⟨by decide, by decide⟩, _, rfl, ?_⟩
          rw [h1]
          refine ⟨_, pen1, _, rfl, c1, by omega, _, rfl, by simp, by simp, fun x pen' hx c _ => ?_⟩
          simp -dsimp only [↓wpS, ↓wpE, ↓wpEs, ↓wpEs', ↓wpCs, ↓wpI, ↓callW, ↓okArgs, ↓sigOk, ↓inouts, ↓lents, ↓peeks, ↓peek, ↓pk, ↓slot, ↓setOwn, ↓setC, ↓freeze, ↓isOwn, ↓isIo, ↓slC, ↓isLst, ↓asV, ↓asS, ↓asVs, ↓asSs, ↓isT, ↓R.still, ↓setMany, ↓bindT, ↓wipeE, ↓unwipe, ↓binD, ↓intBin, ↓cmpD, ↓eqD, ↓ordD, ↓ordI, ↓startE, ↓endsOf, ↓ioOf, ↓newsOf, ↓Sl.r, ↓itemsOf, ↓slcD, ↓revD, ↓b1D, ↓b2D, ↓isNoneD, ↓noRefR, ↓noRef, ↓noRefs, ite_self, ↓isTy, ↓List.getElem?_cons_zero, ↓List.getElem?_cons_succ, ↓List.getElem?_nil, ↓Option.join_some, ↓Option.join_none, ↓Option.isSome_some, ↓Option.isSome_none, ↓List.set_cons_zero, ↓List.set_cons_succ, ↓List.replicate, ↓List.length_cons, ↓List.length_nil, ↓List.isEmpty_cons, ↓List.isEmpty_nil, ↓List.all_cons, ↓List.all_nil, ↓List.filterMap_cons, ↓List.filterMap_nil, ↓List.contains_cons, ↓List.contains_nil, ↓Bool.and_true, ↓Bool.true_and, ↓Bool.and_false, ↓Bool.false_and, ↓Bool.not_true, ↓Bool.not_false, ↓if_true, ↓sh_int, ↓sh_bool, ↓sh_none, ↓eqv_ii, ↓eqv_bb, ↓eqv_ss, ↓brn_true, ↓brn_false, brn_true, brn_false, ↓List.any_cons, ↓List.any_nil, ↓if_false, ↓ite_true, ↓ite_false, ↓true_and, ↓and_true, ↓Bool.false_eq_true, ↓reduceCtorEq, ↓decide_true, ↓decide_false, ↓List.map_cons, ↓List.map_nil, ↓Tg.slots, ↓List.nodup_cons, ↓List.nodup_nil, ↓List.not_mem_nil, ↓not_false_eq_true, ↓forall_const, ↓true_implies, ↓bI, Nat.reduceAdd, Nat.reduceSub, Nat.reduceEqDiff, Int.reduceLT, Int.reduceLE, Nat.reduceLT, Nat.reduceLeDiff, Int.reduceNeg, Nat.reduceBEq, ↓BEq.rfl, ↓beq_self_eq_true, ↓Bool.or_false, ↓Bool.or_true]
          exact more (.inr ⟨_, rfl, by have e12 : B12 = 10 ^ 12 := rfl; have e30 : B30 = 10 ^ 30 := rfl; omega⟩) hx c
      · simp -dsimp only [↓wpS, ↓wpE, ↓wpEs, ↓wpEs', ↓wpCs, ↓wpI, ↓callW, ↓okArgs, ↓sigOk, ↓inouts, ↓lents, ↓peeks, ↓peek, ↓pk, ↓slot, ↓setOwn, ↓setC, ↓freeze, ↓isOwn, ↓isIo, ↓slC, ↓isLst, ↓asV, ↓asS, ↓asVs, ↓asSs, ↓isT, ↓R.still, ↓setMany, ↓bindT, ↓wipeE, ↓unwipe, ↓binD, ↓intBin, ↓cmpD, ↓eqD, ↓ordD, ↓ordI, ↓startE, ↓endsOf, ↓ioOf, ↓newsOf, ↓Sl.r, ↓itemsOf, ↓slcD, ↓revD, ↓b1D, ↓b2D, ↓isNoneD, ↓noRefR, ↓noRef, ↓noRefs, ite_self, ↓isTy, ↓List.getElem?_cons_zero, ↓List.getElem?_cons_succ, ↓List.getElem?_nil, ↓Option.join_some, ↓Option.join_none, ↓Option.isSome_some, ↓Option.isSome_none, ↓List.set_cons_zero, ↓List.set_cons_succ, ↓List.replicate, ↓List.length_cons, ↓List.length_nil, ↓List.isEmpty_cons, ↓List.isEmpty_nil, ↓List.all_cons, ↓List.all_nil, ↓List.filterMap_cons, ↓List.filterMap_nil, ↓List.contains_cons, ↓List.contains_nil, ↓Bool.and_true, ↓Bool.true_and, ↓Bool.and_false, ↓Bool.false_and, ↓Bool.not_true, ↓Bool.not_false, ↓if_true, ↓sh_int, ↓sh_bool, ↓sh_none, ↓eqv_ii, ↓eqv_bb, ↓eqv_ss, ↓brn_true, ↓brn_false, brn_true, brn_false, ↓List.any_cons, ↓List.any_nil, ↓if_false, ↓ite_true, ↓ite_false, ↓true_and, ↓and_true, ↓Bool.false_eq_true, ↓reduceCtorEq, ↓decide_true, ↓decide_false, ↓List.map_cons, ↓List.map_nil, ↓Tg.slots, ↓List.nodup_cons, ↓List.nodup_nil, ↓List.not_mem_nil, ↓not_false_eq_true, ↓forall_const, ↓true_implies, ↓bI, Nat.reduceAdd, Nat.reduceSub, Nat.reduceEqDiff, Int.reduceLT, Int.reduceLE, Nat.reduceLT, Nat.reduceLeDiff, Int.reduceNeg, Nat.reduceBEq, ↓BEq.rfl, ↓beq_self_eq_true, ↓Bool.or_false, ↓Bool.or_true]
        refine ⟨.inr ⟨by decide, by decide⟩, _, rfl, ?_⟩
        rw [h1]
        refine ⟨_, pen1, _, rfl, c1, by omega, _, rfl, by simp, by simp, fun x pen' hx c _ => ?_⟩
        simp -dsimp only [↓wpS, ↓wpE, ↓wpEs, ↓wpEs', ↓wpCs, ↓wpI, ↓callW, ↓okArgs, ↓sigOk, ↓inouts, ↓lents, ↓peeks, ↓peek, ↓pk, ↓slot, ↓setOwn, ↓setC, ↓freeze, ↓isOwn, ↓isIo, ↓slC, ↓isLst, ↓asV, ↓asS, ↓asVs, ↓asSs, ↓isT, ↓R.still, ↓setMany, ↓bindT, ↓wipeE, ↓unwipe, ↓binD, ↓intBin, ↓cmpD, ↓eqD, ↓ordD, ↓ordI, ↓startE, ↓endsOf, ↓ioOf, ↓newsOf, ↓Sl.r, ↓itemsOf, ↓slcD, ↓revD, ↓b1D, ↓b2D, ↓isNoneD, ↓noRefR, ↓noRef, ↓noRefs, ite_self, ↓isTy, ↓List.getElem?_cons_zero, ↓List.getElem?_cons_succ, ↓List.getElem?_nil, ↓Option.join_some, ↓Option.join_none, ↓Option.isSome_some, ↓Option.isSome_none, ↓List.set_cons_zero, ↓List.set_cons_succ, ↓List.replicate, ↓List.length_cons, ↓List.length_nil, ↓List.isEmpty_cons, ↓List.isEmpty_nil, ↓List.all_cons, ↓List.all_nil, ↓List.filterMap_cons, ↓List.filterMap_nil, ↓List.contains_cons, ↓List.contains_nil, ↓Bool.and_true, ↓Bool.true_and, ↓Bool.and_false, ↓Bool.false_and, ↓Bool.not_true, ↓Bool.not_false, ↓if_true, ↓sh_int, ↓sh_bool, ↓sh_none, ↓eqv_ii, ↓eqv_bb, ↓eqv_ss, ↓brn_true, ↓brn_false, brn_true, brn_false, ↓List.any_cons, ↓List.any_nil, ↓if_false, ↓ite_true, ↓ite_false, ↓true_and, ↓and_true, ↓Bool.false_eq_true, ↓reduceCtorEq, ↓decide_true, ↓decide_false, ↓List.map_cons, ↓List.map_nil, ↓Tg.slots, ↓List.nodup_cons, ↓List.nodup_nil, ↓List.not_mem_nil, ↓not_false_eq_true, ↓forall_const, ↓true_implies, ↓bI, Nat.reduceAdd, Nat.reduceSub, Nat.reduceEqDiff, Int.reduceLT, Int.reduceLE, Nat.reduceLT, Nat.reduceLeDiff, Int.reduceNeg, Nat.reduceBEq, ↓BEq.rfl, ↓beq_self_eq_true, ↓Bool.or_false, ↓Bool.or_true]
        exact more (.inr ⟨_, rfl, by have e12 : B12 = 10 ^ 12 := rfl; have e30 : B30 = 10 ^ 30 := rfl; omega⟩) hx c
    · simp -dsimp only [↓wpS, ↓wpE, ↓wpEs, ↓wpEs', ↓wpCs, ↓wpI, ↓callW, ↓okArgs, ↓sigOk, ↓inouts, ↓lents, ↓peeks, ↓peek, ↓pk, ↓slot, ↓setOwn, ↓setC, ↓freeze, ↓isOwn, ↓isIo, ↓slC, ↓isLst, ↓asV, ↓asS, ↓asVs, ↓asSs, ↓isT, ↓R.still, ↓setMany, ↓bindT, ↓wipeE, ↓unwipe, ↓binD, ↓intBin, ↓cmpD, ↓eqD, ↓ordD, ↓ordI, ↓startE, ↓endsOf, ↓ioOf, ↓newsOf, ↓Sl.r, ↓itemsOf, ↓slcD, ↓revD, ↓b1D, ↓b2D, ↓isNoneD, ↓noRefR, ↓noRef, ↓noRefs, ite_self, ↓isTy, ↓List.getElem?_cons_zero, ↓List.getElem?_cons_succ, ↓List.getElem?_nil, ↓Option.join_some, ↓Option.join_none, ↓Option.isSome_some, ↓Option.isSome_none, ↓List.set_cons_zero, ↓List.set_cons_succ, ↓List.replicate, ↓List.length_cons, ↓List.length_nil, ↓List.isEmpty_cons, ↓List.isEmpty_nil, ↓List.all_cons, ↓List.all_nil, ↓List.filterMap_cons, ↓List.filterMap_nil, ↓List.contains_cons, ↓List.contains_nil, ↓Bool.and_true, ↓Bool.true_and, ↓Bool.and_false, ↓Bool.false_and, ↓Bool.not_true, ↓Bool.not_false, ↓if_true, ↓sh_int, ↓sh_bool, ↓sh_none, ↓eqv_ii, ↓eqv_bb, ↓eqv_ss, ↓brn_true, ↓brn_false, brn_true, brn_false, ↓List.any_cons, ↓List.any_nil, ↓if_false, ↓ite_true, ↓ite_false, ↓true_and, ↓and_true, ↓Bool.false_eq_true, ↓reduceCtorEq, ↓decide_true, ↓decide_false, ↓List.map_cons, ↓List.map_nil, ↓Tg.slots, ↓List.nodup_cons, ↓List.nodup_nil, ↓List.not_mem_nil, ↓not_false_eq_true, ↓forall_const, ↓true_implies, ↓bI, Nat.reduceAdd, Nat.reduceSub, Nat.reduceEqDiff, Int.reduceLT, Int.reduceLE, Nat.reduceLT, Nat.reduceLeDiff, Int.reduceNeg, Nat.reduceBEq, ↓BEq.rfl, ↓beq_self_eq_true, ↓Bool.or_false, ↓Bool.or_true]
      rw [h2]
      exact ⟨_, rfl, _, pen1, rfl, c1, by omega, fun x pen' a b p _ => by
        simp -dsimp only [↓wpS, ↓wpE, ↓wpEs, ↓wpEs', ↓wpCs, ↓wpI, ↓callW, ↓okArgs, ↓sigOk, ↓inouts, ↓lents, ↓peeks, ↓peek, ↓pk, ↓slot, ↓setOwn, ↓setC, ↓freeze, ↓isOwn, ↓isIo, ↓slC, ↓isLst, ↓asV, ↓asS, ↓asVs, ↓asSs, ↓isT, ↓R.still, ↓setMany, ↓bindT, ↓wipeE, ↓unwipe, ↓binD, ↓intBin, ↓cmpD, ↓eqD, ↓ordD, ↓ordI, ↓startE, ↓endsOf, ↓ioOf, ↓newsOf, ↓Sl.r, ↓itemsOf, ↓slcD, ↓revD, ↓b1D, ↓b2D, ↓isNoneD, ↓noRefR, ↓noRef, ↓noRefs, ite_self, ↓isTy, ↓List.getElem?_cons_zero, ↓List.getElem?_cons_succ, ↓List.getElem?_nil, ↓Option.join_some, ↓Option.join_none, ↓Option.isSome_some, ↓Option.isSome_none, ↓List.set_cons_zero, ↓List.set_cons_succ, ↓List.replicate, ↓List.length_cons, ↓List.length_nil, ↓List.isEmpty_cons, ↓List.isEmpty_nil, ↓List.all_cons, ↓List.all_nil, ↓List.filterMap_cons, ↓List.filterMap_nil, ↓List.contains_cons, ↓List.contains_nil, ↓Bool.and_true, ↓Bool.true_and, ↓Bool.and_false, ↓Bool.false_and, ↓Bool.not_true, ↓Bool.not_false, ↓if_true, ↓sh_int, ↓sh_bool, ↓sh_none, ↓eqv_ii, ↓eqv_bb, ↓eqv_ss, ↓brn_true, ↓brn_false, brn_true, brn_false, ↓List.any_cons, ↓List.any_nil, ↓if_false, ↓ite_true, ↓ite_false, ↓true_and, ↓and_true, ↓Bool.false_eq_true, ↓reduceCtorEq, ↓decide_true, ↓decide_false, ↓List.map_cons, ↓List.map_nil, ↓Tg.slots, ↓List.nodup_cons, ↓List.nodup_nil, ↓List.not_mem_nil, ↓not_false_eq_true, ↓forall_const, ↓true_implies, ↓bI, Nat.reduceAdd, Nat.reduceSub, Nat.reduceEqDiff, Int.reduceLT, Int.reduceLE, Nat.reduceLT, Nat.reduceLeDiff, Int.reduceNeg, Nat.reduceBEq, ↓BEq.rfl, ↓beq_self_eq_true, ↓Bool.or_false, ↓Bool.or_true]
        exact oddC a b (p.mono (by omega))⟩
  | tuple l =>
    obtain ⟨j, rfl⟩ : ∃ j, k = j + 1 := by
      cases k with
      | zero => simp [gd] at hv
      | succ j => exact ⟨j, rfl⟩
    have hΦ : Φ "_law_bent" = bentSp j := by
      rcases hr with hr | ⟨j', e, hr⟩
      · cases hr
      · cases e; exact hr
    obtain ⟨hl, hv⟩ := gd_tuple.mp hv
    have hbl : (PyData.tuple l).bulk = PyData.bulkAll l := rfl
    rw [hbl] at kk
    refine wps_seq4 (fun e => ∃ (l' : List PyData) (pen' : PyData) (s2 : Sl) (s3 s4 : Option Sl), e = [some (.io pen'), some (.val (.tuple l)), some s2, s3, s4] ∧ s2.d = .list l' ∧ isR s2 ∧ l'.length ≤ c' + 1 ∧ (∀ x ∈ l', gd B30 (c' + 1) (j + 2) x = true) ∧ PyData.bulkAll l' ≤ 2 * PyData.bulkAll l + 2 ∧ Pen (t + 3 + 10 * (j + 1)) pen') (fun N next => ?_) ?_
    · simp -dsimp only [↓wpS, ↓wpE, ↓wpEs, ↓wpEs', ↓wpCs, ↓wpI, ↓callW, ↓okArgs, ↓sigOk, ↓inouts, ↓lents, ↓peeks, ↓peek, ↓pk, ↓slot, ↓setOwn, ↓setC, ↓freeze, ↓isOwn, ↓isIo, ↓slC, ↓isLst, ↓asV, ↓asS, ↓asVs, ↓asSs, ↓isT, ↓R.still, ↓setMany, ↓bindT, ↓wipeE, ↓unwipe, ↓binD, ↓intBin, ↓cmpD, ↓eqD, ↓ordD, ↓ordI, ↓startE, ↓endsOf, ↓ioOf, ↓newsOf, ↓Sl.r, ↓itemsOf, ↓slcD, ↓revD, ↓b1D, ↓b2D, ↓isNoneD, ↓noRefR, ↓noRef, ↓noRefs, ite_self, ↓isTy, ↓List.getElem?_cons_zero, ↓List.getElem?_cons_succ, ↓List.getElem?_nil, ↓Option.join_some, ↓Option.join_none, ↓Option.isSome_some, ↓Option.isSome_none, ↓List.set_cons_zero, ↓List.set_cons_succ, ↓List.replicate, ↓List.length_cons, ↓List.length_nil, ↓List.isEmpty_cons, ↓List.isEmpty_nil, ↓List.all_cons, ↓List.all_nil, ↓List.filterMap_cons, ↓List.filterMap_nil, ↓List.contains_cons, ↓List.contains_nil, ↓Bool.and_true, ↓Bool.true_and, ↓Bool.and_false, ↓Bool.false_and, ↓Bool.not_true, ↓Bool.not_false, ↓if_true, ↓sh_int, ↓sh_bool, ↓sh_none, ↓eqv_ii, ↓eqv_bb, ↓eqv_ss, ↓brn_true, ↓brn_false, brn_true, brn_false, ↓List.any_cons, ↓List.any_nil, ↓if_false, ↓ite_true, ↓ite_false, ↓true_and, ↓and_true, ↓Bool.false_eq_true, ↓reduceCtorEq, ↓decide_true, ↓decide_false, ↓List.map_cons, ↓List.map_nil, ↓Tg.slots, ↓List.nodup_cons, ↓List.nodup_nil, ↓List.not_mem_nil, ↓not_false_eq_true, ↓forall_const, ↓true_implies, ↓bI, Nat.reduceAdd, Nat.reduceSub, Nat.reduceEqDiff, Int.reduceLT, Int.reduceLE, Nat.reduceLT, Nat.reduceLeDiff, Int.reduceNeg, Nat.reduceBEq, ↓BEq.rfl, ↓beq_self_eq_true, ↓Bool.or_false, ↓Bool.or_true]
      refine brn_of (fun hb => ?_) (fun hb => ?_)
      · simp -dsimp only [↓wpS, ↓wpE, ↓wpEs, ↓wpEs', ↓wpCs, ↓wpI, ↓callW, ↓okArgs, ↓sigOk, ↓inouts, ↓lents, ↓peeks, ↓peek, ↓pk, ↓slot, ↓setOwn, ↓setC, ↓freeze, ↓isOwn, ↓isIo, ↓slC, ↓isLst, ↓asV, ↓asS, ↓asVs, ↓asSs, ↓isT, ↓R.still, ↓setMany, ↓bindT, ↓wipeE, ↓unwipe, ↓binD, ↓intBin, ↓cmpD, ↓eqD, ↓ordD, ↓ordI, ↓startE, ↓endsOf, ↓ioOf, ↓newsOf, ↓Sl.r, ↓itemsOf, ↓slcD, ↓revD, ↓b1D, ↓b2D, ↓isNoneD, ↓noRefR, ↓noRef, ↓noRefs, ite_self, ↓isTy, ↓List.getElem?_cons_zero, ↓List.getElem?_cons_succ, ↓List.getElem?_nil, ↓Option.join_some, ↓Option.join_none, ↓Option.isSome_some, ↓Option.isSome_none, ↓List.set_cons_zero, ↓List.set_cons_succ, ↓List.replicate, ↓List.length_cons, ↓List.length_nil, ↓List.isEmpty_cons, ↓List.isEmpty_nil, ↓List.all_cons, ↓List.all_nil, ↓List.filterMap_cons, ↓List.filterMap_nil, ↓List.contains_cons, ↓List.contains_nil, ↓Bool.and_true, ↓Bool.true_and, ↓Bool.and_false, ↓Bool.false_and, ↓Bool.not_true, ↓Bool.not_false, ↓if_true, ↓sh_int, ↓sh_bool, ↓sh_none, ↓eqv_ii, ↓eqv_bb, ↓eqv_ss, ↓brn_true, ↓brn_false, brn_true, brn_false, ↓List.any_cons, ↓List.any_nil, ↓if_false, ↓ite_true, ↓ite_false, ↓true_and, ↓and_true, ↓Bool.false_eq_true, ↓reduceCtorEq, ↓decide_true, ↓decide_false, ↓List.map_cons, ↓List.map_nil, ↓Tg.slots, ↓List.nodup_cons, ↓List.nodup_nil, ↓List.not_mem_nil, ↓not_false_eq_true, ↓forall_const, ↓true_implies, ↓bI, Nat.reduceAdd, Nat.reduceSub, Nat.reduceEqDiff, Int.reduceLT, Int.reduceLE, Nat.reduceLT, Nat.reduceLeDiff, Int.reduceNeg, Nat.reduceBEq, ↓BEq.rfl, ↓beq_self_eq_true, ↓Bool.or_false, ↓Bool.or_true]
        rw [h2]
        exact ⟨_, rfl, _, pen, rfl, hp, by omega, fun x pen' a b p _ => by
          simp -dsimp only [↓wpS, ↓wpE, ↓wpEs, ↓wpEs', ↓wpCs, ↓wpI, ↓callW, ↓okArgs, ↓sigOk, ↓inouts, ↓lents, ↓peeks, ↓peek, ↓pk, ↓slot, ↓setOwn, ↓setC, ↓freeze, ↓isOwn, ↓isIo, ↓slC, ↓isLst, ↓asV, ↓asS, ↓asVs, ↓asSs, ↓isT, ↓R.still, ↓setMany, ↓bindT, ↓wipeE, ↓unwipe, ↓binD, ↓intBin, ↓cmpD, ↓eqD, ↓ordD, ↓ordI, ↓startE, ↓endsOf, ↓ioOf, ↓newsOf, ↓Sl.r, ↓itemsOf, ↓slcD, ↓revD, ↓b1D, ↓b2D, ↓isNoneD, ↓noRefR, ↓noRef, ↓noRefs, ite_self, ↓isTy, ↓List.getElem?_cons_zero, ↓List.getElem?_cons_succ, ↓List.getElem?_nil, ↓Option.join_some, ↓Option.join_none, ↓Option.isSome_some, ↓Option.isSome_none, ↓List.set_cons_zero, ↓List.set_cons_succ, ↓List.replicate, ↓List.length_cons, ↓List.length_nil, ↓List.isEmpty_cons, ↓List.isEmpty_nil, ↓List.all_cons, ↓List.all_nil, ↓List.filterMap_cons, ↓List.filterMap_nil, ↓List.contains_cons, ↓List.contains_nil, ↓Bool.and_true, ↓Bool.true_and, ↓Bool.and_false, ↓Bool.false_and, ↓Bool.not_true, ↓Bool.not_false, ↓if_true, ↓sh_int, ↓sh_bool, ↓sh_none, ↓eqv_ii, ↓eqv_bb, ↓eqv_ss, ↓brn_true, ↓brn_false, brn_true, brn_false, ↓List.any_cons, ↓List.any_nil, ↓if_false, ↓ite_true, ↓ite_false, ↓true_and, ↓and_true, ↓Bool.false_eq_true, ↓reduceCtorEq, ↓decide_true, ↓decide_false, ↓List.map_cons, ↓List.map_nil, ↓Tg.slots, ↓List.nodup_cons, ↓List.nodup_nil, ↓List.not_mem_nil, ↓not_false_eq_true, ↓forall_const, ↓true_implies, ↓bI, Nat.reduceAdd, Nat.reduceSub, Nat.reduceEqDiff, Int.reduceLT, Int.reduceLE, Nat.reduceLT, Nat.reduceLeDiff, Int.reduceNeg, Nat.reduceBEq, ↓BEq.rfl, ↓beq_self_eq_true, ↓Bool.or_false, ↓Bool.or_true]
          exact oddC a b (p.mono (by omega))⟩
      have hl0 : 0 < l.length := by
        have : ¬ (l.length : Int) = 0 := by simpa using hb
        omega
      simp -dsimp only [↓wpS, ↓wpE, ↓wpEs, ↓wpEs', ↓wpCs, ↓wpI, ↓callW, ↓okArgs, ↓sigOk, ↓inouts, ↓lents, ↓peeks, ↓peek, ↓pk, ↓slot, ↓setOwn, ↓setC, ↓freeze, ↓isOwn, ↓isIo, ↓slC, ↓isLst, ↓asV, ↓asS, ↓asVs, ↓asSs, ↓isT, ↓R.still, ↓setMany, ↓bindT, ↓wipeE, ↓unwipe, ↓binD, ↓intBin, ↓cmpD, ↓eqD, ↓ordD, ↓ordI, ↓startE, ↓endsOf, ↓ioOf, ↓newsOf, ↓Sl.r, ↓itemsOf, ↓slcD, ↓revD, ↓b1D, ↓b2D, ↓isNoneD, ↓noRefR, ↓noRef, ↓noRefs, ite_self, ↓isTy, ↓List.getElem?_cons_zero, ↓List.getElem?_cons_succ, ↓List.getElem?_nil, ↓Option.join_some, ↓Option.join_none, ↓Option.isSome_some, ↓Option.isSome_none, ↓List.set_cons_zero, ↓List.set_cons_succ, ↓List.replicate, ↓List.length_cons, ↓List.length_nil, ↓List.isEmpty_cons, ↓List.isEmpty_nil, ↓List.all_cons, ↓List.all_nil, ↓List.filterMap_cons, ↓List.filterMap_nil, ↓List.contains_cons, ↓List.contains_nil, ↓Bool.and_true, ↓Bool.true_and, ↓Bool.and_false, ↓Bool.false_and, ↓Bool.not_true, ↓Bool.not_false, ↓if_true, ↓sh_int, ↓sh_bool, ↓sh_none, ↓eqv_ii, ↓eqv_bb, ↓eqv_ss, ↓brn_true, ↓brn_false, brn_true, brn_false, ↓List.any_cons, ↓List.any_nil, ↓if_false, ↓ite_true, ↓ite_false, ↓true_and, ↓and_true, ↓Bool.false_eq_true, ↓reduceCtorEq, ↓decide_true, ↓decide_false, ↓List.map_cons, ↓List.map_nil, ↓Tg.slots, ↓List.nodup_cons, ↓List.nodup_nil, ↓List.not_mem_nil, ↓not_false_eq_true, ↓forall_const, ↓true_implies, ↓bI, Nat.reduceAdd, Nat.reduceSub, Nat.reduceEqDiff, Int.reduceLT, Int.reduceLE, Nat.reduceLT, Nat.reduceLeDiff, Int.reduceNeg, Nat.reduceBEq, ↓BEq.rfl, ↓beq_self_eq_true, ↓Bool.or_false, ↓Bool.or_true]
      refine ⟨_, rfl, ?_⟩
      rw [h]
      refine ⟨t, pen, _, rfl, hp, by omega, by omega, by omega, fun r pen1 a1 a2 c1 _ => ?_⟩
      simp -dsimp only [↓wpS, ↓wpE, ↓wpEs, ↓wpEs', ↓wpCs, ↓wpI, ↓callW, ↓okArgs, ↓sigOk, ↓inouts, ↓lents, ↓peeks, ↓peek, ↓pk, ↓slot, ↓setOwn, ↓setC, ↓freeze, ↓isOwn, ↓isIo, ↓slC, ↓isLst, ↓asV, ↓asS, ↓asVs, ↓asSs, ↓isT, ↓R.still, ↓setMany, ↓bindT, ↓wipeE, ↓unwipe, ↓binD, ↓intBin, ↓cmpD, ↓eqD, ↓ordD, ↓ordI, ↓startE, ↓endsOf, ↓ioOf, ↓newsOf, ↓Sl.r, ↓itemsOf, ↓slcD, ↓revD, ↓b1D, ↓b2D, ↓isNoneD, ↓noRefR, ↓noRef, ↓noRefs, ite_self, ↓isTy, ↓List.getElem?_cons_zero, ↓List.getElem?_cons_succ, ↓List.getElem?_nil, ↓Option.join_some, ↓Option.join_none, ↓Option.isSome_some, ↓Option.isSome_none, ↓List.set_cons_zero, ↓List.set_cons_succ, ↓List.replicate, ↓List.length_cons, ↓List.length_nil, ↓List.isEmpty_cons, ↓List.isEmpty_nil, ↓List.all_cons, ↓List.all_nil, ↓List.filterMap_cons, ↓List.filterMap_nil, ↓List.contains_cons, ↓List.contains_nil, ↓Bool.and_true, ↓Bool.true_and, ↓Bool.and_false, ↓Bool.false_and, ↓Bool.not_true, ↓Bool.not_false, ↓if_true, ↓sh_int, ↓sh_bool, ↓sh_none, ↓eqv_ii, ↓eqv_bb, ↓eqv_ss, ↓brn_true, ↓brn_false, brn_true, brn_false, ↓List.any_cons, ↓List.any_nil, ↓if_false, ↓ite_true, ↓ite_false, ↓true_and, ↓and_true, ↓Bool.false_eq_true, ↓reduceCtorEq, ↓decide_true, ↓decide_false, ↓List.map_cons, ↓List.map_nil, ↓Tg.slots, ↓List.nodup_cons, ↓List.nodup_nil, ↓List.not_mem_nil, ↓not_false_eq_true, ↓forall_const, ↓true_implies, ↓bI, Nat.reduceAdd, Nat.reduceSub, Nat.reduceEqDiff, Int.reduceLT, Int.reduceLE, Nat.reduceLT, Nat.reduceLeDiff, Int.reduceNeg, Nat.reduceBEq, ↓BEq.rfl, ↓beq_self_eq_true, ↓Bool.or_false, ↓Bool.or_true]
      refine brn_of (fun hb => ?_) (fun hb => ?_)
      · simp -dsimp only [↓wpS, ↓wpE, ↓wpEs, ↓wpEs', ↓wpCs, ↓wpI, ↓callW, ↓okArgs, ↓sigOk, ↓inouts, ↓lents, ↓peeks, ↓peek, ↓pk, ↓slot, ↓setOwn, ↓setC, ↓freeze, ↓isOwn, ↓isIo, ↓slC, ↓isLst, ↓asV, ↓asS, ↓asVs, ↓asSs, ↓isT, ↓R.still, ↓setMany, ↓bindT, ↓wipeE, ↓unwipe, ↓binD, ↓intBin, ↓cmpD, ↓eqD, ↓ordD, ↓ordI, ↓startE, ↓endsOf, ↓ioOf, ↓newsOf, ↓Sl.r, ↓itemsOf, ↓slcD, ↓revD, ↓b1D, ↓b2D, ↓isNoneD, ↓noRefR, ↓noRef, ↓noRefs, ite_self, ↓isTy, ↓List.getElem?_cons_zero, ↓List.getElem?_cons_succ, ↓List.getElem?_nil, ↓Option.join_some, ↓Option.join_none, ↓Option.isSome_some, ↓Option.isSome_none, ↓List.set_cons_zero, ↓List.set_cons_succ, ↓List.replicate, ↓List.length_cons, ↓List.length_nil, ↓List.isEmpty_cons, ↓List.isEmpty_nil, ↓List.all_cons, ↓List.all_nil, ↓List.filterMap_cons, ↓List.filterMap_nil, ↓List.contains_cons, ↓List.contains_nil, ↓Bool.and_true, ↓Bool.true_and, ↓Bool.and_false, ↓Bool.false_and, ↓Bool.not_true, ↓Bool.not_false, ↓if_true, ↓sh_int, ↓sh_bool, ↓sh_none, ↓eqv_ii, ↓eqv_bb, ↓eqv_ss, ↓brn_true, ↓brn_false, brn_true, brn_false, ↓List.any_cons, ↓List.any_nil, ↓if_false, ↓ite_true, ↓ite_false, ↓true_and, ↓and_true, ↓Bool.false_eq_true, ↓reduceCtorEq, ↓decide_true, ↓decide_false, ↓List.map_cons, ↓List.map_nil, ↓Tg.slots, ↓List.nodup_cons, ↓List.nodup_nil, ↓List.not_mem_nil, ↓not_false_eq_true, ↓forall_const, ↓true_implies, ↓bI, Nat.reduceAdd, Nat.reduceSub, Nat.reduceEqDiff, Int.reduceLT, Int.reduceLE, Nat.reduceLT, Nat.reduceLeDiff, Int.reduceNeg, Nat.reduceBEq, ↓BEq.rfl, ↓beq_self_eq_true, ↓Bool.or_false, ↓Bool.or_true]
        rw [h2]
        exact ⟨_, rfl, _, pen1, rfl, c1, by omega, fun x pen' a b p _ => by
          simp -dsimp only [↓wpS, ↓wpE, ↓wpEs, ↓wpEs', ↓wpCs, ↓wpI, ↓callW, ↓okArgs, ↓sigOk, ↓inouts, ↓lents, ↓peeks, ↓peek, ↓pk, ↓slot, ↓setOwn, ↓setC, ↓freeze, ↓isOwn, ↓isIo, ↓slC, ↓isLst, ↓asV, ↓asS, ↓asVs, ↓asSs, ↓isT, ↓R.still, ↓setMany, ↓bindT, ↓wipeE, ↓unwipe, ↓binD, ↓intBin, ↓cmpD, ↓eqD, ↓ordD, ↓ordI, ↓startE, ↓endsOf, ↓ioOf, ↓newsOf, ↓Sl.r, ↓itemsOf, ↓slcD, ↓revD, ↓b1D, ↓b2D, ↓isNoneD, ↓noRefR, ↓noRef, ↓noRefs, ite_self, ↓isTy, ↓List.getElem?_cons_zero, ↓List.getElem?_cons_succ, ↓List.getElem?_nil, ↓Option.join_some, ↓Option.join_none, ↓Option.isSome_some, ↓Option.isSome_none, ↓List.set_cons_zero, ↓List.set_cons_succ, ↓List.replicate, ↓List.length_cons, ↓List.length_nil, ↓List.isEmpty_cons, ↓List.isEmpty_nil, ↓List.all_cons, ↓List.all_nil, ↓List.filterMap_cons, ↓List.filterMap_nil, ↓List.contains_cons, ↓List.contains_nil, ↓Bool.and_true, ↓Bool.true_and, ↓Bool.and_false, ↓Bool.false_and, ↓Bool.not_true, ↓Bool.not_false, ↓if_true, ↓sh_int, ↓sh_bool, ↓sh_none, ↓eqv_ii, ↓eqv_bb, ↓eqv_ss, ↓brn_true, ↓brn_false, brn_true, brn_false, ↓List.any_cons, ↓List.any_nil, ↓if_false, ↓ite_true, ↓ite_false, ↓true_and, ↓and_true, ↓Bool.false_eq_true, ↓reduceCtorEq, ↓decide_true, ↓decide_false, ↓List.map_cons, ↓List.map_nil, ↓Tg.slots, ↓List.nodup_cons, ↓List.nodup_nil, ↓List.not_mem_nil, ↓not_false_eq_true, ↓forall_const, ↓true_implies, ↓bI, Nat.reduceAdd, Nat.reduceSub, Nat.reduceEqDiff, Int.reduceLT, Int.reduceLE, Nat.reduceLT, Nat.reduceLeDiff, Int.reduceNeg, Nat.reduceBEq, ↓BEq.rfl, ↓beq_self_eq_true, ↓Bool.or_false, ↓Bool.or_true]
          exact oddC a b (p.mono (by omega))⟩
      simp -dsimp only [↓wpS, ↓wpE, ↓wpEs, ↓wpEs', ↓wpCs, ↓wpI, ↓callW, ↓okArgs, ↓sigOk, ↓inouts, ↓lents, ↓peeks, ↓peek, ↓pk, ↓slot, ↓setOwn, ↓setC, ↓freeze, ↓isOwn, ↓isIo, ↓slC, ↓isLst, ↓asV, ↓asS, ↓asVs, ↓asSs, ↓isT, ↓R.still, ↓setMany, ↓bindT, ↓wipeE, ↓unwipe, ↓binD, ↓intBin, ↓cmpD, ↓eqD, ↓ordD, ↓ordI, ↓startE, ↓endsOf, ↓ioOf, ↓newsOf, ↓Sl.r, ↓itemsOf, ↓slcD, ↓revD, ↓b1D, ↓b2D, ↓isNoneD, ↓noRefR, ↓noRef, ↓noRefs, ite_self, ↓isTy, ↓List.getElem?_cons_zero, ↓List.getElem?_cons_succ, ↓List.getElem?_nil, ↓Option.join_some, ↓Option.join_none, ↓Option.isSome_some, ↓Option.isSome_none, ↓List.set_cons_zero, ↓List.set_cons_succ, ↓List.replicate, ↓List.length_cons, ↓List.length_nil, ↓List.isEmpty_cons, ↓List.isEmpty_nil, ↓List.all_cons, ↓List.all_nil, ↓List.filterMap_cons, ↓List.filterMap_nil, ↓List.contains_cons, ↓List.contains_nil, ↓Bool.and_true, ↓Bool.true_and, ↓Bool.and_false, ↓Bool.false_and, ↓Bool.not_true, ↓Bool.not_false, ↓if_true, ↓sh_int, ↓sh_bool, ↓sh_none, ↓eqv_ii, ↓eqv_bb, ↓eqv_ss, ↓brn_true, ↓brn_false, brn_true, brn_false, ↓List.any_cons, ↓List.any_nil, ↓if_false, ↓ite_true, ↓ite_false, ↓true_and, ↓and_true, ↓Bool.false_eq_true, ↓reduceCtorEq, ↓decide_true, ↓decide_false, ↓List.map_cons, ↓List.map_nil, ↓Tg.slots, ↓List.nodup_cons, ↓List.nodup_nil, ↓List.not_mem_nil, ↓not_false_eq_true, ↓forall_const, ↓true_implies, ↓bI, Nat.reduceAdd, Nat.reduceSub, Nat.reduceEqDiff, Int.reduceLT, Int.reduceLE, Nat.reduceLT, Nat.reduceLeDiff, Int.reduceNeg, Nat.reduceBEq, ↓BEq.rfl, ↓beq_self_eq_true, ↓Bool.or_false, ↓Bool.or_true]
      refine ⟨_, rfl, ?_⟩
      rw [h]
      refine ⟨_, pen1, _, rfl, c1, by omega, by omega, by omega, fun way pen2 b1 b2 c2 _ => ?_⟩
      simp -dsimp only [↓wpS, ↓wpE, ↓wpEs, ↓wpEs', ↓wpCs, ↓wpI, ↓callW, ↓okArgs, ↓sigOk, ↓inouts, ↓lents, ↓peeks, ↓peek, ↓pk, ↓slot, ↓setOwn, ↓setC, ↓freeze, ↓isOwn, ↓isIo, ↓slC, ↓isLst, ↓asV, ↓asS, ↓asVs, ↓asSs, ↓isT, ↓R.still, ↓setMany, ↓bindT, ↓wipeE, ↓unwipe, ↓binD, ↓intBin, ↓cmpD, ↓eqD, ↓ordD, ↓ordI, ↓startE, ↓endsOf, ↓ioOf, ↓newsOf, ↓Sl.r, ↓itemsOf, ↓slcD, ↓revD, ↓b1D, ↓b2D, ↓isNoneD, ↓noRefR, ↓noRef, ↓noRefs, ite_self, ↓isTy, ↓List.getElem?_cons_zero, ↓List.getElem?_cons_succ, ↓List.getElem?_nil, ↓Option.join_some, ↓Option.join_none, ↓Option.isSome_some, ↓Option.isSome_none, ↓List.set_cons_zero, ↓List.set_cons_succ, ↓List.replicate, ↓List.length_cons, ↓List.length_nil, ↓List.isEmpty_cons, ↓List.isEmpty_nil, ↓List.all_cons, ↓List.all_nil, ↓List.filterMap_cons, ↓List.filterMap_nil, ↓List.contains_cons, ↓List.contains_nil, ↓Bool.and_true, ↓Bool.true_and, ↓Bool.and_false, ↓Bool.false_and, ↓Bool.not_true, ↓Bool.not_false, ↓if_true, ↓sh_int, ↓sh_bool, ↓sh_none, ↓eqv_ii, ↓eqv_bb, ↓eqv_ss, ↓brn_true, ↓brn_false, brn_true, brn_false, ↓List.any_cons, ↓List.any_nil, ↓if_false, ↓ite_true, ↓ite_false, ↓true_and, ↓and_true, ↓Bool.false_eq_true, ↓reduceCtorEq, ↓decide_true, ↓decide_false, ↓List.map_cons, ↓List.map_nil, ↓Tg.slots, ↓List.nodup_cons, ↓List.nodup_nil, ↓List.not_mem_nil, ↓not_false_eq_true, ↓forall_const, ↓true_implies, ↓bI, Nat.reduceAdd, Nat.reduceSub, Nat.reduceEqDiff, Int.reduceLT, Int.reduceLE, Nat.reduceLT, Nat.reduceLeDiff, Int.reduceNeg, Nat.reduceBEq, ↓BEq.rfl, ↓beq_self_eq_true, ↓Bool.or_false, ↓Bool.or_true]
      refine ⟨_, rfl, ?_⟩
      rw [h]
      refine ⟨_, pen2, _, rfl, c2, by omega, by omega, by omega, fun r2 pen3 d1 d2 c3 _ => ?_⟩
      have hr2 : r2.toNat < l.length := by omega
      have hb2 := bulk_ge (List.getElem_mem hr2)
      simp -dsimp only [↓wpS, ↓wpE, ↓wpEs, ↓wpEs', ↓wpCs, ↓wpI, ↓callW, ↓okArgs, ↓sigOk, ↓inouts, ↓lents, ↓peeks, ↓peek, ↓pk, ↓slot, ↓setOwn, ↓setC, ↓freeze, ↓isOwn, ↓isIo, ↓slC, ↓isLst, ↓asV, ↓asS, ↓asVs, ↓asSs, ↓isT, ↓R.still, ↓setMany, ↓bindT, ↓wipeE, ↓unwipe, ↓binD, ↓intBin, ↓cmpD, ↓eqD, ↓ordD, ↓ordI, ↓startE, ↓endsOf, ↓ioOf, ↓newsOf, ↓Sl.r, ↓itemsOf, ↓slcD, ↓revD, ↓b1D, ↓b2D, ↓isNoneD, ↓noRefR, ↓noRef, ↓noRefs, ite_self, ↓isTy, ↓List.getElem?_cons_zero, ↓List.getElem?_cons_succ, ↓List.getElem?_nil, ↓Option.join_some, ↓Option.join_none, ↓Option.isSome_some, ↓Option.isSome_none, ↓List.set_cons_zero, ↓List.set_cons_succ, ↓List.replicate, ↓List.length_cons, ↓List.length_nil, ↓List.isEmpty_cons, ↓List.isEmpty_nil, ↓List.all_cons, ↓List.all_nil, ↓List.filterMap_cons, ↓List.filterMap_nil, ↓List.contains_cons, ↓List.contains_nil, ↓Bool.and_true, ↓Bool.true_and, ↓Bool.and_false, ↓Bool.false_and, ↓Bool.not_true, ↓Bool.not_false, ↓if_true, ↓sh_int, ↓sh_bool, ↓sh_none, ↓eqv_ii, ↓eqv_bb, ↓eqv_ss, ↓brn_true, ↓brn_false, brn_true, brn_false, ↓List.any_cons, ↓List.any_nil, ↓if_false, ↓ite_true, ↓ite_false, ↓true_and, ↓and_true, ↓Bool.false_eq_true, ↓reduceCtorEq, ↓decide_true, ↓decide_false, ↓List.map_cons, ↓List.map_nil, ↓Tg.slots, ↓List.nodup_cons, ↓List.nodup_nil, ↓List.not_mem_nil, ↓not_false_eq_true, ↓forall_const, ↓true_implies, ↓bI, Nat.reduceAdd, Nat.reduceSub, Nat.reduceEqDiff, Int.reduceLT, Int.reduceLE, Nat.reduceLT, Nat.reduceLeDiff, Int.reduceNeg, Nat.reduceBEq, ↓BEq.rfl, ↓beq_self_eq_true, ↓Bool.or_false, ↓Bool.or_true]
      refine brn_of (fun hb => ?_) (fun hb => ?_)
      · simp -dsimp only [↓wpS, ↓wpE, ↓wpEs, ↓wpEs', ↓wpCs, ↓wpI, ↓callW, ↓okArgs, ↓sigOk, ↓inouts, ↓lents, ↓peeks, ↓peek, ↓pk, ↓slot, ↓setOwn, ↓setC, ↓freeze, ↓isOwn, ↓isIo, ↓slC, ↓isLst, ↓asV, ↓asS, ↓asVs, ↓asSs, ↓isT, ↓R.still, ↓setMany, ↓bindT, ↓wipeE, ↓unwipe, ↓binD, ↓intBin, ↓cmpD, ↓eqD, ↓ordD, ↓ordI, ↓startE, ↓endsOf, ↓ioOf, ↓newsOf, ↓Sl.r, ↓itemsOf, ↓slcD, ↓revD, ↓b1D, ↓b2D, ↓isNoneD, ↓noRefR, ↓noRef, ↓noRefs, ite_self, ↓isTy, ↓List.getElem?_cons_zero, ↓List.getElem?_cons_succ, ↓List.getElem?_nil, ↓Option.join_some, ↓Option.join_none, ↓Option.isSome_some, ↓Option.isSome_none, ↓List.set_cons_zero, ↓List.set_cons_succ, ↓List.replicate, ↓List.length_cons, ↓List.length_nil, ↓List.isEmpty_cons, ↓List.isEmpty_nil, ↓List.all_cons, ↓List.all_nil, ↓List.filterMap_cons, ↓List.filterMap_nil, ↓List.contains_cons, ↓List.contains_nil, ↓Bool.and_true, ↓Bool.true_and, ↓Bool.and_false, ↓Bool.false_and, ↓Bool.not_true, ↓Bool.not_false, ↓if_true, ↓sh_int, ↓sh_bool, ↓sh_none, ↓eqv_ii, ↓eqv_bb, ↓eqv_ss, ↓brn_true, ↓brn_false, brn_true, brn_false, ↓List.any_cons, ↓List.any_nil, ↓if_false, ↓ite_true, ↓ite_false, ↓true_and, ↓and_true, ↓Bool.false_eq_true, ↓reduceCtorEq, ↓decide_true, ↓decide_false, ↓List.map_cons, ↓List.map_nil, ↓Tg.slots, ↓List.nodup_cons, ↓List.nodup_nil, ↓List.not_mem_nil, ↓not_false_eq_true, ↓forall_const, ↓true_implies, ↓bI, Nat.reduceAdd, Nat.reduceSub, Nat.reduceEqDiff, Int.reduceLT, Int.reduceLE, Nat.reduceLT, Nat.reduceLeDiff, Int.reduceNeg, Nat.reduceBEq, ↓BEq.rfl, ↓beq_self_eq_true, ↓Bool.or_false, ↓Bool.or_true]
        refine stp_at d1 d2 fun x hx hxi => ?_
        simp -dsimp only [↓wpS, ↓wpE, ↓wpEs, ↓wpEs', ↓wpCs, ↓wpI, ↓callW, ↓okArgs, ↓sigOk, ↓inouts, ↓lents, ↓peeks, ↓peek, ↓pk, ↓slot, ↓setOwn, ↓setC, ↓freeze, ↓isOwn, ↓isIo, ↓slC, ↓isLst, ↓asV, ↓asS, ↓asVs, ↓asSs, ↓isT, ↓R.still, ↓setMany, ↓bindT, ↓wipeE, ↓unwipe, ↓binD, ↓intBin, ↓cmpD, ↓eqD, ↓ordD, ↓ordI, ↓startE, ↓endsOf, ↓ioOf, ↓newsOf, ↓Sl.r, ↓itemsOf, ↓slcD, ↓revD, ↓b1D, ↓b2D, ↓isNoneD, ↓noRefR, ↓noRef, ↓noRefs, ite_self, ↓isTy, ↓List.getElem?_cons_zero, ↓List.getElem?_cons_succ, ↓List.getElem?_nil, ↓Option.join_some, ↓Option.join_none, ↓Option.isSome_some, ↓Option.isSome_none, ↓List.set_cons_zero, ↓List.set_cons_succ, ↓List.replicate, ↓List.length_cons, ↓List.length_nil, ↓List.isEmpty_cons, ↓List.isEmpty_nil, ↓List.all_cons, ↓List.all_nil, ↓List.filterMap_cons, ↓List.filterMap_nil, ↓List.contains_cons, ↓List.contains_nil, ↓Bool.and_true, ↓Bool.true_and, ↓Bool.and_false, ↓Bool.false_and, ↓Bool.not_true, ↓Bool.not_false, ↓if_true, ↓sh_int, ↓sh_bool, ↓sh_none, ↓eqv_ii, ↓eqv_bb, ↓eqv_ss, ↓brn_true, ↓brn_false, brn_true, brn_false, ↓List.any_cons, ↓List.any_nil, ↓if_false, ↓ite_true, ↓ite_false, ↓true_and, ↓and_true, ↓Bool.false_eq_true, ↓reduceCtorEq, ↓decide_true, ↓decide_false, ↓List.map_cons, ↓List.map_nil, ↓Tg.slots, ↓List.nodup_cons, ↓List.nodup_nil, ↓List.not_mem_nil, ↓not_false_eq_true, ↓forall_const, ↓true_implies, ↓bI, Nat.reduceAdd, Nat.reduceSub, Nat.reduceEqDiff, Int.reduceLT, Int.reduceLE, Nat.reduceLT, Nat.reduceLeDiff, Int.reduceNeg, Nat.reduceBEq, ↓BEq.rfl, ↓beq_self_eq_true, ↓Bool.or_false, ↓Bool.or_true]
        refine ⟨_, rfl, ?_⟩
        rw [hΦ]
        have hxi' : l[r2.toNat]? = some x := hxi
        refine ⟨_, pen3, x, c', rfl, c3, by omega, by omega, hc1, hc2, hv x hx, fun r pen4 y1 y2 y3 y4 _ => ?_⟩
        have hset : ∀ y : PyData, gd B30 (c' + 1) (j + 2) y = true → y.bulk ≤ 2 * x.bulk + 2 → (l.set r2.toNat y).length ≤ c' + 1 ∧ (∀ z ∈ l.set r2.toNat y, gd B30 (c' + 1) (j + 2) z = true) ∧ PyData.bulkAll (l.set r2.toNat y) ≤ 2 * PyData.bulkAll l + 2 := fun y q1 q2 => by
          refine ⟨by rw [List.length_set]; omega, fun z hz => ?_, ?_⟩
          · rcases List.mem_or_eq_of_mem_set hz with hz | rfl
            · exact gd_mono (by decide) (by omega) (by omega) (hv z hz)
            · exact q1
          · have := bulk_set l r2.toNat y x hxi'
            have := bulk_ge hx
            omega
        rcases y3 with ⟨d, rfl⟩ | ⟨l2, rfl⟩
        · simp -dsimp only [↓wpS, ↓wpE, ↓wpEs, ↓wpEs', ↓wpCs, ↓wpI, ↓callW, ↓okArgs, ↓sigOk, ↓inouts, ↓lents, ↓peeks, ↓peek, ↓pk, ↓slot, ↓setOwn, ↓setC, ↓freeze, ↓isOwn, ↓isIo, ↓slC, ↓isLst, ↓asV, ↓asS, ↓asVs, ↓asSs, ↓isT, ↓R.still, ↓setMany, ↓bindT, ↓wipeE, ↓unwipe, ↓binD, ↓intBin, ↓cmpD, ↓eqD, ↓ordD, ↓ordI, ↓startE, ↓endsOf, ↓ioOf, ↓newsOf, ↓Sl.r, ↓itemsOf, ↓slcD, ↓revD, ↓b1D, ↓b2D, ↓isNoneD, ↓noRefR, ↓noRef, ↓noRefs, ite_self, ↓isTy, ↓List.getElem?_cons_zero, ↓List.getElem?_cons_succ, ↓List.getElem?_nil, ↓Option.join_some, ↓Option.join_none, ↓Option.isSome_some, ↓Option.isSome_none, ↓List.set_cons_zero, ↓List.set_cons_succ, ↓List.replicate, ↓List.length_cons, ↓List.length_nil, ↓List.isEmpty_cons, ↓List.isEmpty_nil, ↓List.all_cons, ↓List.all_nil, ↓List.filterMap_cons, ↓List.filterMap_nil, ↓List.contains_cons, ↓List.contains_nil, ↓Bool.and_true, ↓Bool.true_and, ↓Bool.and_false, ↓Bool.false_and, ↓Bool.not_true, ↓Bool.not_false, ↓if_true, ↓sh_int, ↓sh_bool, ↓sh_none, ↓eqv_ii, ↓eqv_bb, ↓eqv_ss, ↓brn_true, ↓brn_false, brn_true, brn_false, ↓List.any_cons, ↓List.any_nil, ↓if_false, ↓ite_true, ↓ite_false, ↓true_and, ↓and_true, ↓Bool.false_eq_true, ↓reduceCtorEq, ↓decide_true, ↓decide_false, ↓List.map_cons, ↓List.map_nil, ↓Tg.slots, ↓List.nodup_cons, ↓List.nodup_nil, ↓List.not_mem_nil, ↓not_false_eq_true, ↓forall_const, ↓true_implies, ↓bI, Nat.reduceAdd, Nat.reduceSub, Nat.reduceEqDiff, Int.reduceLT, Int.reduceLE, Nat.reduceLT, Nat.reduceLeDiff, Int.reduceNeg, Nat.reduceBEq, ↓BEq.rfl, ↓beq_self_eq_true, ↓Bool.or_false, ↓Bool.or_true]
          obtain ⟨z1, z2, z3⟩ := hset d y1 y2
          exact ⟨_, ix_ok d1 d2, next _ ⟨_, pen4, _, _, _, rfl, rfl, .inr ⟨_, rfl⟩, z1, z2, z3, y4.mono (by omega)⟩⟩
        · simp -dsimp only [↓wpS, ↓wpE, ↓wpEs, ↓wpEs', ↓wpCs, ↓wpI, ↓callW, ↓okArgs, ↓sigOk, ↓inouts, ↓lents, ↓peeks, ↓peek, ↓pk, ↓slot, ↓setOwn, ↓setC, ↓freeze, ↓isOwn, ↓isIo, ↓slC, ↓isLst, ↓asV, ↓asS, ↓asVs, ↓asSs, ↓isT, ↓R.still, ↓setMany, ↓bindT, ↓wipeE, ↓unwipe, ↓binD, ↓intBin, ↓cmpD, ↓eqD, ↓ordD, ↓ordI, ↓startE, ↓endsOf, ↓ioOf, ↓newsOf, ↓Sl.r, ↓itemsOf, ↓slcD, ↓revD, ↓b1D, ↓b2D, ↓isNoneD, ↓noRefR, ↓noRef, ↓noRefs, ite_self, ↓isTy, ↓List.getElem?_cons_zero, ↓List.getElem?_cons_succ, ↓List.getElem?_nil, ↓Option.join_some, ↓Option.join_none, ↓Option.isSome_some, ↓Option.isSome_none, ↓List.set_cons_zero, ↓List.set_cons_succ, ↓List.replicate, ↓List.length_cons, ↓List.length_nil, ↓List.isEmpty_cons, ↓List.isEmpty_nil, ↓List.all_cons, ↓List.all_nil, ↓List.filterMap_cons, ↓List.filterMap_nil, ↓List.contains_cons, ↓List.contains_nil, ↓Bool.and_true, ↓Bool.true_and, ↓Bool.and_false, ↓Bool.false_and, ↓Bool.not_true, ↓Bool.not_false, ↓if_true, ↓sh_int, ↓sh_bool, ↓sh_none, ↓eqv_ii, ↓eqv_bb, ↓eqv_ss, ↓brn_true, ↓brn_false, brn_true, brn_false, ↓List.any_cons, ↓List.any_nil, ↓if_false, ↓ite_true, ↓ite_false, ↓true_and, ↓and_true, ↓Bool.false_eq_true, ↓reduceCtorEq, ↓decide_true, ↓decide_false, ↓List.map_cons, ↓List.map_nil, ↓Tg.slots, ↓List.nodup_cons, ↓List.nodup_nil, ↓List.not_mem_nil, ↓not_false_eq_true, ↓forall_const, ↓true_implies, ↓bI, Nat.reduceAdd, Nat.reduceSub, Nat.reduceEqDiff, Int.reduceLT, Int.reduceLE, Nat.reduceLT, Nat.reduceLeDiff, Int.reduceNeg, Nat.reduceBEq, ↓BEq.rfl, ↓beq_self_eq_true, ↓Bool.or_false, ↓Bool.or_true]
          obtain ⟨z1, z2, z3⟩ := hset (.list l2) y1 y2
          exact ⟨_, ix_ok d1 d2, next _ ⟨_, pen4, _, _, _, rfl, rfl, .inr ⟨_, rfl⟩, z1, z2, z3, y4.mono (by omega)⟩⟩
      · simp -dsimp only [↓wpS, ↓wpE, ↓wpEs, ↓wpEs', ↓wpCs, ↓wpI, ↓callW, ↓okArgs, ↓sigOk, ↓inouts, ↓lents, ↓peeks, ↓peek, ↓pk, ↓slot, ↓setOwn, ↓setC, ↓freeze, ↓isOwn, ↓isIo, ↓slC, ↓isLst, ↓asV, ↓asS, ↓asVs, ↓asSs, ↓isT, ↓R.still, ↓setMany, ↓bindT, ↓wipeE, ↓unwipe, ↓binD, ↓intBin, ↓cmpD, ↓eqD, ↓ordD, ↓ordI, ↓startE, ↓endsOf, ↓ioOf, ↓newsOf, ↓Sl.r, ↓itemsOf, ↓slcD, ↓revD, ↓b1D, ↓b2D, ↓isNoneD, ↓noRefR, ↓noRef, ↓noRefs, ite_self, ↓isTy, ↓List.getElem?_cons_zero, ↓List.getElem?_cons_succ, ↓List.getElem?_nil, ↓Option.join_some, ↓Option.join_none, ↓Option.isSome_some, ↓Option.isSome_none, ↓List.set_cons_zero, ↓List.set_cons_succ, ↓List.replicate, ↓List.length_cons, ↓List.length_nil, ↓List.isEmpty_cons, ↓List.isEmpty_nil, ↓List.all_cons, ↓List.all_nil, ↓List.filterMap_cons, ↓List.filterMap_nil, ↓List.contains_cons, ↓List.contains_nil, ↓Bool.and_true, ↓Bool.true_and, ↓Bool.and_false, ↓Bool.false_and, ↓Bool.not_true, ↓Bool.not_false, ↓if_true, ↓sh_int, ↓sh_bool, ↓sh_none, ↓eqv_ii, ↓eqv_bb, ↓eqv_ss, ↓brn_true, ↓brn_false, brn_true, brn_false, ↓List.any_cons, ↓List.any_nil, ↓if_false, ↓ite_true, ↓ite_false, ↓true_and, ↓and_true, ↓Bool.false_eq_true, ↓reduceCtorEq, ↓decide_true, ↓decide_false, ↓List.map_cons, ↓List.map_nil, ↓Tg.slots, ↓List.nodup_cons, ↓List.nodup_nil, ↓List.not_mem_nil, ↓not_false_eq_true, ↓forall_const, ↓true_implies, ↓bI, Nat.reduceAdd, Nat.reduceSub, Nat.reduceEqDiff, Int.reduceLT, Int.reduceLE, Nat.reduceLT, Nat.reduceLeDiff, Int.reduceNeg, Nat.reduceBEq, ↓BEq.rfl, ↓beq_self_eq_true, ↓Bool.or_false, ↓Bool.or_true]
        have hc1' := cut_len l none (some r2)
        have hc2' := cut_len l (some (r2 + 1)) none
        have hc3' := cut_len l (some r2) (some (r2 + 1))
        have hq : ∀ x ∈ l, gd B30 (c' + 1) (j + 2) x = true := fun x hx => gd_mono (by decide) (by omega) (by omega) (hv x hx)
        refine ⟨by show _ ≤ 16777216; omega, by show _ ≤ 16777216; omega, ?_⟩
        refine stp_at (by have : ¬ way < 7 := by simpa using hb
                          omega) (by show way - 7 < ((3 : Nat) : Int); omega) fun v hvm _ => ?_
        simp only [List.mem_cons, List.not_mem_nil, or_false] at hvm
        have e1 : cut l none (some r2) ++ cut l (some (r2 + 1)) none = l.take r2.toNat ++ l.drop (r2.toNat + 1) := by
          rw [cut_take d1 (by omega), cut_drop (by omega) (by omega)]
          congr 2; omega
        have e2 : l ++ cut l (some r2) (some (r2 + 1)) = l ++ [l[r2.toNat]] := by
          rw [cut_one d1 d2, List.drop_eq_getElem_cons hr2]; rfl
        have e3 : PyData.bulkAll l = PyData.bulkAll (l.take r2.toNat) + (l[r2.toNat].bulk + 1 + PyData.bulkAll (l.drop (r2.toNat + 1))) := by
          rw [← bulk_split l r2.toNat, List.drop_eq_getElem_cons hr2]; rfl
        have h1' : (cut l none (some r2) ++ cut l (some (r2 + 1)) none).length ≤ c' + 1 ∧ (∀ z ∈ cut l none (some r2) ++ cut l (some (r2 + 1)) none, gd B30 (c' + 1) (j + 2) z = true) ∧ PyData.bulkAll (cut l none (some r2) ++ cut l (some (r2 + 1)) none) ≤ 2 * PyData.bulkAll l + 2 := by
          rw [e1]
          refine ⟨by rw [List.length_append, List.length_take, List.length_drop]; omega, fun z hz => ?_, by rw [bulk_app]; omega⟩
          rcases List.mem_append.mp hz with hz | hz
          · exact hq z (List.mem_of_mem_take hz)
          · exact hq z (List.mem_of_mem_drop hz)
        have h2' : (l ++ cut l (some r2) (some (r2 + 1))).length ≤ c' + 1 ∧ (∀ z ∈ l ++ cut l (some r2) (some (r2 + 1)), gd B30 (c' + 1) (j + 2) z = true) ∧ PyData.bulkAll (l ++ cut l (some r2) (some (r2 + 1))) ≤ 2 * PyData.bulkAll l + 2 := by
          rw [e2]
          refine ⟨by rw [List.length_append]; simp; omega, fun z hz => ?_, by rw [bulk_app]; simp only [PyData.bulkAll]; omega⟩
          rcases List.mem_append.mp hz with hz | hz
          · exact hq z hz
          · rw [List.mem_singleton] at hz
            rw [hz]; exact hq _ (List.getElem_mem hr2)
        rcases hvm with rfl | rfl | rfl
        · simp -dsimp only [↓wpS, ↓wpE, ↓wpEs, ↓wpEs', ↓wpCs, ↓wpI, ↓callW, ↓okArgs, ↓sigOk, ↓inouts, ↓lents, ↓peeks, ↓peek, ↓pk, ↓slot, ↓setOwn, ↓setC, ↓freeze, ↓isOwn, ↓isIo, ↓slC, ↓isLst, ↓asV, ↓asS, ↓asVs, ↓asSs, ↓isT, ↓R.still, ↓setMany, ↓bindT, ↓wipeE, ↓unwipe, ↓binD, ↓intBin, ↓cmpD, ↓eqD, ↓ordD, ↓ordI, ↓startE, ↓endsOf, ↓ioOf, ↓newsOf, ↓Sl.r, ↓itemsOf, ↓slcD, ↓revD, ↓b1D, ↓b2D, ↓isNoneD, ↓noRefR, ↓noRef, ↓noRefs, ite_self, ↓isTy, ↓List.getElem?_cons_zero, ↓List.getElem?_cons_succ, ↓List.getElem?_nil, ↓Option.join_some, ↓Option.join_none, ↓Option.isSome_some, ↓Option.isSome_none, ↓List.set_cons_zero, ↓List.set_cons_succ, ↓List.replicate, ↓List.length_cons, ↓List.length_nil, ↓List.isEmpty_cons, ↓List.isEmpty_nil, ↓List.all_cons, ↓List.all_nil, ↓List.filterMap_cons, ↓List.filterMap_nil, ↓List.contains_cons, ↓List.contains_nil, ↓Bool.and_true, ↓Bool.true_and, ↓Bool.and_false, ↓Bool.false_and, ↓Bool.not_true, ↓Bool.not_false, ↓if_true, ↓sh_int, ↓sh_bool, ↓sh_none, ↓eqv_ii, ↓eqv_bb, ↓eqv_ss, ↓brn_true, ↓brn_false, brn_true, brn_false, ↓List.any_cons, ↓List.any_nil, ↓if_false, ↓ite_true, ↓ite_false, ↓true_and, ↓and_true, ↓Bool.false_eq_true, ↓reduceCtorEq, ↓decide_true, ↓decide_false, ↓List.map_cons, ↓List.map_nil, ↓Tg.slots, ↓List.nodup_cons, ↓List.nodup_nil, ↓List.not_mem_nil, ↓not_false_eq_true, ↓forall_const, ↓true_implies, ↓bI, Nat.reduceAdd, Nat.reduceSub, Nat.reduceEqDiff, Int.reduceLT, Int.reduceLE, Nat.reduceLT, Nat.reduceLeDiff, Int.reduceNeg, Nat.reduceBEq, ↓BEq.rfl, ↓beq_self_eq_true, ↓Bool.or_false, ↓Bool.or_true]
          exact next _ ⟨_, pen3, _, _, _, rfl, rfl, .inl ⟨_, rfl⟩, h1'.1, h1'.2.1, h1'.2.2, c3.mono (by omega)⟩
        · simp -dsimp only [↓wpS, ↓wpE, ↓wpEs, ↓wpEs', ↓wpCs, ↓wpI, ↓callW, ↓okArgs, ↓sigOk, ↓inouts, ↓lents, ↓peeks, ↓peek, ↓pk, ↓slot, ↓setOwn, ↓setC, ↓freeze, ↓isOwn, ↓isIo, ↓slC, ↓isLst, ↓asV, ↓asS, ↓asVs, ↓asSs, ↓isT, ↓R.still, ↓setMany, ↓bindT, ↓wipeE, ↓unwipe, ↓binD, ↓intBin, ↓cmpD, ↓eqD, ↓ordD, ↓ordI, ↓startE, ↓endsOf, ↓ioOf, ↓newsOf, ↓Sl.r, ↓itemsOf, ↓slcD, ↓revD, ↓b1D, ↓b2D, ↓isNoneD, ↓noRefR, ↓noRef, ↓noRefs, ite_self, ↓isTy, ↓List.getElem?_cons_zero, ↓List.getElem?_cons_succ, ↓List.getElem?_nil, ↓Option.join_some, ↓Option.join_none, ↓Option.isSome_some, ↓Option.isSome_none, ↓List.set_cons_zero, ↓List.set_cons_succ, ↓List.replicate, ↓List.length_cons, ↓List.length_nil, ↓List.isEmpty_cons, ↓List.isEmpty_nil, ↓List.all_cons, ↓List.all_nil, ↓List.filterMap_cons, ↓List.filterMap_nil, ↓List.contains_cons, ↓List.contains_nil, ↓Bool.and_true, ↓Bool.true_and, ↓Bool.and_false, ↓Bool.false_and, ↓Bool.not_true, ↓Bool.not_false, ↓if_true, ↓sh_int, ↓sh_bool, ↓sh_none, ↓eqv_ii, ↓eqv_bb, ↓eqv_ss, ↓brn_true, ↓brn_false, brn_true, brn_false, ↓List.any_cons, ↓List.any_nil, ↓if_false, ↓ite_true, ↓ite_false, ↓true_and, ↓and_true, ↓Bool.false_eq_true, ↓reduceCtorEq, ↓decide_true, ↓decide_false, ↓List.map_cons, ↓List.map_nil, ↓Tg.slots, ↓List.nodup_cons, ↓List.nodup_nil, ↓List.not_mem_nil, ↓not_false_eq_true, ↓forall_const, ↓true_implies, ↓bI, Nat.reduceAdd, Nat.reduceSub, Nat.reduceEqDiff, Int.reduceLT, Int.reduceLE, Nat.reduceLT, Nat.reduceLeDiff, Int.reduceNeg, Nat.reduceBEq, ↓BEq.rfl, ↓beq_self_eq_true, ↓Bool.or_false, ↓Bool.or_true]
          exact next _ ⟨_, pen3, _, _, _, rfl, rfl, .inl ⟨_, rfl⟩, h2'.1, h2'.2.1, h2'.2.2, c3.mono (by omega)⟩
        · simp -dsimp only [↓wpS, ↓wpE, ↓wpEs, ↓wpEs', ↓wpCs, ↓wpI, ↓callW, ↓okArgs, ↓sigOk, ↓inouts, ↓lents, ↓peeks, ↓peek, ↓pk, ↓slot, ↓setOwn, ↓setC, ↓freeze, ↓isOwn, ↓isIo, ↓slC, ↓isLst, ↓asV, ↓asS, ↓asVs, ↓asSs, ↓isT, ↓R.still, ↓setMany, ↓bindT, ↓wipeE, ↓unwipe, ↓binD, ↓intBin, ↓cmpD, ↓eqD, ↓ordD, ↓ordI, ↓startE, ↓endsOf, ↓ioOf, ↓newsOf, ↓Sl.r, ↓itemsOf, ↓slcD, ↓revD, ↓b1D, ↓b2D, ↓isNoneD, ↓noRefR, ↓noRef, ↓noRefs, ite_self, ↓isTy, ↓List.getElem?_cons_zero, ↓List.getElem?_cons_succ, ↓List.getElem?_nil, ↓Option.join_some, ↓Option.join_none, ↓Option.isSome_some, ↓Option.isSome_none, ↓List.set_cons_zero, ↓List.set_cons_succ, ↓List.replicate, ↓List.length_cons, ↓List.length_nil, ↓List.isEmpty_cons, ↓List.isEmpty_nil, ↓List.all_cons, ↓List.all_nil, ↓List.filterMap_cons, ↓List.filterMap_nil, ↓List.contains_cons, ↓List.contains_nil, ↓Bool.and_true, ↓Bool.true_and, ↓Bool.and_false, ↓Bool.false_and, ↓Bool.not_true, ↓Bool.not_false, ↓if_true, ↓sh_int, ↓sh_bool, ↓sh_none, ↓eqv_ii, ↓eqv_bb, ↓eqv_ss, ↓brn_true, ↓brn_false, brn_true, brn_false, ↓List.any_cons, ↓List.any_nil, ↓if_false, ↓ite_true, ↓ite_false, ↓true_and, ↓and_true, ↓Bool.false_eq_true, ↓reduceCtorEq, ↓decide_true, ↓decide_false, ↓List.map_cons, ↓List.map_nil, ↓Tg.slots, ↓List.nodup_cons, ↓List.nodup_nil, ↓List.not_mem_nil, ↓not_false_eq_true, ↓forall_const, ↓true_implies, ↓bI, Nat.reduceAdd, Nat.reduceSub, Nat.reduceEqDiff, Int.reduceLT, Int.reduceLE, Nat.reduceLT, Nat.reduceLeDiff, Int.reduceNeg, Nat.reduceBEq, ↓BEq.rfl, ↓beq_self_eq_true, ↓Bool.or_false, ↓Bool.or_true]
          exact next _ ⟨_, pen3, _, _, _, rfl, rfl, .inl ⟨_, rfl⟩, by rw [List.length_reverse]; omega, fun z hz => hq z (List.mem_reverse.mp hz), by rw [bulk_rev]; omega, c3.mono (by omega)⟩
    · rintro e ⟨l', pen', s2, s3, s4, rfl, hs2, hr2, g1, g2, g3, g4⟩
      simp -dsimp only [↓wpS, ↓wpE, ↓wpEs, ↓wpEs', ↓wpCs, ↓wpI, ↓callW, ↓okArgs, ↓sigOk, ↓inouts, ↓lents, ↓peeks, ↓peek, ↓pk, ↓slot, ↓setOwn, ↓setC, ↓freeze, ↓isOwn, ↓isIo, ↓slC, ↓isLst, ↓asV, ↓asS, ↓asVs, ↓asSs, ↓isT, ↓R.still, ↓setMany, ↓bindT, ↓wipeE, ↓unwipe, ↓binD, ↓intBin, ↓cmpD, ↓eqD, ↓ordD, ↓ordI, ↓startE, ↓endsOf, ↓ioOf, ↓newsOf, ↓Sl.r, ↓itemsOf, ↓slcD, ↓revD, ↓b1D, ↓b2D, ↓isNoneD, ↓noRefR, ↓noRef, ↓noRefs, ite_self, ↓isTy, ↓List.getElem?_cons_zero, ↓List.getElem?_cons_succ, ↓List.getElem?_nil, ↓Option.join_some, ↓Option.join_none, ↓Option.isSome_some, ↓Option.isSome_none, ↓List.set_cons_zero, ↓List.set_cons_succ, ↓List.replicate, ↓List.length_cons, ↓List.length_nil, ↓List.isEmpty_cons, ↓List.isEmpty_nil, ↓List.all_cons, ↓List.all_nil, ↓List.filterMap_cons, ↓List.filterMap_nil, ↓List.contains_cons, ↓List.contains_nil, ↓Bool.and_true, ↓Bool.true_and, ↓Bool.and_false, ↓Bool.false_and, ↓Bool.not_true, ↓Bool.not_false, ↓if_true, ↓sh_int, ↓sh_bool, ↓sh_none, ↓eqv_ii, ↓eqv_bb, ↓eqv_ss, ↓brn_true, ↓brn_false, brn_true, brn_false, ↓List.any_cons, ↓List.any_nil, ↓if_false, ↓ite_true, ↓ite_false, ↓true_and, ↓and_true, ↓Bool.false_eq_true, ↓reduceCtorEq, ↓decide_true, ↓decide_false, ↓List.map_cons, ↓List.map_nil, ↓Tg.slots, ↓List.nodup_cons, ↓List.nodup_nil, ↓List.not_mem_nil, ↓not_false_eq_true, ↓forall_const, ↓true_implies, ↓bI, Nat.reduceAdd, Nat.reduceSub, Nat.reduceEqDiff, Int.reduceLT, Int.reduceLE, Nat.reduceLT, Nat.reduceLeDiff, Int.reduceNeg, Nat.reduceBEq, ↓BEq.rfl, ↓beq_self_eq_true, ↓Bool.or_false, ↓Bool.or_true]
      refine ⟨_, rfl, ?_⟩
      rw [h]
      refine ⟨_, pen', _, rfl, g4, by omega, by omega, by omega, fun r pen4 a1 a2 c4 _ => ?_⟩
      have ft : ∀ {pen5}, Pen (t + 3 + 10 * (j + 1) + 1) pen5 → Q (.val (.tuple l')) [pen5] := fun hp5 => kk _ _ (gd_tuple.mpr ⟨by omega, g2⟩) (by show PyData.bulkAll l' ≤ _; omega) (.inl ⟨_, rfl⟩) (hp5.mono (by omega))
      have fl : ∀ {pen5}, Pen (t + 3 + 10 * (j + 1) + 1) pen5 → Q s2 [pen5] := fun hp5 => kk _ _ (by rw [hs2]; exact gd_list.mpr ⟨by omega, g2⟩) (by rw [hs2]; show PyData.bulkAll l' ≤ _; omega) hr2 (hp5.mono (by omega))
      rcases hr2 with ⟨d, rfl⟩ | ⟨l2, rfl⟩
      · have hd : d = .list l' := hs2
        subst hd
        simp -dsimp only [↓wpS, ↓wpE, ↓wpEs, ↓wpEs', ↓wpCs, ↓wpI, ↓callW, ↓okArgs, ↓sigOk, ↓inouts, ↓lents, ↓peeks, ↓peek, ↓pk, ↓slot, ↓setOwn, ↓setC, ↓freeze, ↓isOwn, ↓isIo, ↓slC, ↓isLst, ↓asV, ↓asS, ↓asVs, ↓asSs, ↓isT, ↓R.still, ↓setMany, ↓bindT, ↓wipeE, ↓unwipe, ↓binD, ↓intBin, ↓cmpD, ↓eqD, ↓ordD, ↓ordI, ↓startE, ↓endsOf, ↓ioOf, ↓newsOf, ↓Sl.r, ↓itemsOf, ↓slcD, ↓revD, ↓b1D, ↓b2D, ↓isNoneD, ↓noRefR, ↓noRef, ↓noRefs, ite_self, ↓isTy, ↓List.getElem?_cons_zero, ↓List.getElem?_cons_succ, ↓List.getElem?_nil, ↓Option.join_some, ↓Option.join_none, ↓Option.isSome_some, ↓Option.isSome_none, ↓List.set_cons_zero, ↓List.set_cons_succ, ↓List.replicate, ↓List.length_cons, ↓List.length_nil, ↓List.isEmpty_cons, ↓List.isEmpty_nil, ↓List.all_cons, ↓List.all_nil, ↓List.filterMap_cons, ↓List.filterMap_nil, ↓List.contains_cons, ↓List.contains_nil, ↓Bool.and_true, ↓Bool.true_and, ↓Bool.and_false, ↓Bool.false_and, ↓Bool.not_true, ↓Bool.not_false, ↓if_true, ↓sh_int, ↓sh_bool, ↓sh_none, ↓eqv_ii, ↓eqv_bb, ↓eqv_ss, ↓brn_true, ↓brn_false, brn_true, brn_false, ↓List.any_cons, ↓List.any_nil, ↓if_false, ↓ite_true, ↓ite_false, ↓true_and, ↓and_true, ↓Bool.false_eq_true, ↓reduceCtorEq, ↓decide_true, ↓decide_false, ↓List.map_cons, ↓List.map_nil, ↓Tg.slots, ↓List.nodup_cons, ↓List.nodup_nil, ↓List.not_mem_nil, ↓not_false_eq_true, ↓forall_const, ↓true_implies, ↓bI, Nat.reduceAdd, Nat.reduceSub, Nat.reduceEqDiff, Int.reduceLT, Int.reduceLE, Nat.reduceLT, Nat.reduceLeDiff, Int.reduceNeg, Nat.reduceBEq, ↓BEq.rfl, ↓beq_self_eq_true, ↓Bool.or_false, ↓Bool.or_true]
        refine brn_of (fun hb => ?_) (fun hb => ?_)
        · simp -dsimp only [↓wpS, ↓wpE, ↓wpEs, ↓wpEs', ↓wpCs, ↓wpI, ↓callW, ↓okArgs, ↓sigOk, ↓inouts, ↓lents, ↓peeks, ↓peek, ↓pk, ↓slot, ↓setOwn, ↓setC, ↓freeze, ↓isOwn, ↓isIo, ↓slC, ↓isLst, ↓asV, ↓asS, ↓asVs, ↓asSs, ↓isT, ↓R.still, ↓setMany, ↓bindT, ↓wipeE, ↓unwipe, ↓binD, ↓intBin, ↓cmpD, ↓eqD, ↓ordD, ↓ordI, ↓startE, ↓endsOf, ↓ioOf, ↓newsOf, ↓Sl.r, ↓itemsOf, ↓slcD, ↓revD, ↓b1D, ↓b2D, ↓isNoneD, ↓noRefR, ↓noRef, ↓noRefs, ite_self, ↓isTy, ↓List.getElem?_cons_zero, ↓List.getElem?_cons_succ, ↓List.getElem?_nil, ↓Option.join_some, ↓Option.join_none, ↓Option.isSome_some, ↓Option.isSome_none, ↓List.set_cons_zero, ↓List.set_cons_succ, ↓List.replicate, ↓List.length_cons, ↓List.length_nil, ↓List.isEmpty_cons, ↓List.isEmpty_nil, ↓List.all_cons, ↓List.all_nil, ↓List.filterMap_cons, ↓List.filterMap_nil, ↓List.contains_cons, ↓List.contains_nil, ↓Bool.and_true, ↓Bool.true_and, ↓Bool.and_false, ↓Bool.false_and, ↓Bool.not_true, ↓Bool.not_false, ↓if_true, ↓sh_int, ↓sh_bool, ↓sh_none, ↓eqv_ii, ↓eqv_bb, ↓eqv_ss, ↓brn_true, ↓brn_false, brn_true, brn_false, ↓List.any_cons, ↓List.any_nil, ↓if_false, ↓ite_true, ↓ite_false, ↓true_and, ↓and_true, ↓Bool.false_eq_true, ↓reduceCtorEq, ↓decide_true, ↓decide_false, ↓List.map_cons, ↓List.map_nil, ↓Tg.slots, ↓List.nodup_cons, ↓List.nodup_nil, ↓List.not_mem_nil, ↓not_false_eq_true, ↓forall_const, ↓true_implies, ↓bI, Nat.reduceAdd, Nat.reduceSub, Nat.reduceEqDiff, Int.reduceLT, Int.reduceLE, Nat.reduceLT, Nat.reduceLeDiff, Int.reduceNeg, Nat.reduceBEq, ↓BEq.rfl, ↓beq_self_eq_true, ↓Bool.or_false, ↓Bool.or_true]
          exact ft c4
        · simp -dsimp only [↓wpS, ↓wpE, ↓wpEs, ↓wpEs', ↓wpCs, ↓wpI, ↓callW, ↓okArgs, ↓sigOk, ↓inouts, ↓lents, ↓peeks, ↓peek, ↓pk, ↓slot, ↓setOwn, ↓setC, ↓freeze, ↓isOwn, ↓isIo, ↓slC, ↓isLst, ↓asV, ↓asS, ↓asVs, ↓asSs, ↓isT, ↓R.still, ↓setMany, ↓bindT, ↓wipeE, ↓unwipe, ↓binD, ↓intBin, ↓cmpD, ↓eqD, ↓ordD, ↓ordI, ↓startE, ↓endsOf, ↓ioOf, ↓newsOf, ↓Sl.r, ↓itemsOf, ↓slcD, ↓revD, ↓b1D, ↓b2D, ↓isNoneD, ↓noRefR, ↓noRef, ↓noRefs, ite_self, ↓isTy, ↓List.getElem?_cons_zero, ↓List.getElem?_cons_succ, ↓List.getElem?_nil, ↓Option.join_some, ↓Option.join_none, ↓Option.isSome_some, ↓Option.isSome_none, ↓List.set_cons_zero, ↓List.set_cons_succ, ↓List.replicate, ↓List.length_cons, ↓List.length_nil, ↓List.isEmpty_cons, ↓List.isEmpty_nil, ↓List.all_cons, ↓List.all_nil, ↓List.filterMap_cons, ↓List.filterMap_nil, ↓List.contains_cons, ↓List.contains_nil, ↓Bool.and_true, ↓Bool.true_and, ↓Bool.and_false, ↓Bool.false_and, ↓Bool.not_true, ↓Bool.not_false, ↓if_true, ↓sh_int, ↓sh_bool, ↓sh_none, ↓eqv_ii, ↓eqv_bb, ↓eqv_ss, ↓brn_true, ↓brn_false, brn_true, brn_false, ↓List.any_cons, ↓List.any_nil, ↓if_false, ↓ite_true, ↓ite_false, ↓true_and, ↓and_true, ↓Bool.false_eq_true, ↓reduceCtorEq, ↓decide_true, ↓decide_false, ↓List.map_cons, ↓List.map_nil, ↓Tg.slots, ↓List.nodup_cons, ↓List.nodup_nil, ↓List.not_mem_nil, ↓not_false_eq_true, ↓forall_const, ↓true_implies, ↓bI, Nat.reduceAdd, Nat.reduceSub, Nat.reduceEqDiff, Int.reduceLT, Int.reduceLE, Nat.reduceLT, Nat.reduceLeDiff, Int.reduceNeg, Nat.reduceBEq, ↓BEq.rfl, ↓beq_self_eq_true, ↓Bool.or_false, ↓Bool.or_true]
          exact fl c4
      · have hd : PyData.list l2 = .list l' := hs2
        cases hd
        simp -dsimp only [↓wpS, ↓wpE, ↓wpEs, ↓wpEs', ↓wpCs, ↓wpI, ↓callW, ↓okArgs, ↓sigOk, ↓inouts, ↓lents, ↓peeks, ↓peek, ↓pk, ↓slot, ↓setOwn, ↓setC, ↓freeze, ↓isOwn, ↓isIo, ↓slC, ↓isLst, ↓asV, ↓asS, ↓asVs, ↓asSs, ↓isT, ↓R.still, ↓setMany, ↓bindT, ↓wipeE, ↓unwipe, ↓binD, ↓intBin, ↓cmpD, ↓eqD, ↓ordD, ↓ordI, ↓startE, ↓endsOf, ↓ioOf, ↓newsOf, ↓Sl.r, ↓itemsOf, ↓slcD, ↓revD, ↓b1D, ↓b2D, ↓isNoneD, ↓noRefR, ↓noRef, ↓noRefs, ite_self, ↓isTy, ↓List.getElem?_cons_zero, ↓List.getElem?_cons_succ, ↓List.getElem?_nil, ↓Option.join_some, ↓Option.join_none, ↓Option.isSome_some, ↓Option.isSome_none, ↓List.set_cons_zero, ↓List.set_cons_succ, ↓List.replicate, ↓List.length_cons, ↓List.length_nil, ↓List.isEmpty_cons, ↓List.isEmpty_nil, ↓List.all_cons, ↓List.all_nil, ↓List.filterMap_cons, ↓List.filterMap_nil, ↓List.contains_cons, ↓List.contains_nil, ↓Bool.and_true, ↓Bool.true_and, ↓Bool.and_false, ↓Bool.false_and, ↓Bool.not_true, ↓Bool.not_false, ↓if_true, ↓sh_int, ↓sh_bool, ↓sh_none, ↓eqv_ii, ↓eqv_bb, ↓eqv_ss, ↓brn_true, ↓brn_false, brn_true, brn_false, ↓List.any_cons, ↓List.any_nil, ↓if_false, ↓ite_true, ↓ite_false, ↓true_and, ↓and_true, ↓Bool.false_eq_true, ↓reduceCtorEq, ↓decide_true, ↓decide_false, ↓List.map_cons, ↓List.map_nil, ↓Tg.slots, ↓List.nodup_cons, ↓List.nodup_nil, ↓List.not_mem_nil, ↓not_false_eq_true, ↓forall_const, ↓true_implies, ↓bI, Nat.reduceAdd, Nat.reduceSub, Nat.reduceEqDiff, Int.reduceLT, Int.reduceLE, Nat.reduceLT, Nat.reduceLeDiff, Int.reduceNeg, Nat.reduceBEq, ↓BEq.rfl, ↓beq_self_eq_true, ↓Bool.or_false, ↓Bool.or_true]
        refine brn_of (fun hb => ?_) (fun hb => ?_)
        · simp -dsimp only [↓wpS, ↓wpE, ↓wpEs, ↓wpEs', ↓wpCs, ↓wpI, ↓callW, ↓okArgs, ↓sigOk, ↓inouts, ↓lents, ↓peeks, ↓peek, ↓pk, ↓slot, ↓setOwn, ↓setC, ↓freeze, ↓isOwn, ↓isIo, ↓slC, ↓isLst, ↓asV, ↓asS, ↓asVs, ↓asSs, ↓isT, ↓R.still, ↓setMany, ↓bindT, ↓wipeE, ↓unwipe, ↓binD, ↓intBin, ↓cmpD, ↓eqD, ↓ordD, ↓ordI, ↓startE, ↓endsOf, ↓ioOf, ↓newsOf, ↓Sl.r, ↓itemsOf, ↓slcD, ↓revD, ↓b1D, ↓b2D, ↓isNoneD, ↓noRefR, ↓noRef, ↓noRefs, ite_self, ↓isTy, ↓List.getElem?_cons_zero, ↓List.getElem?_cons_succ, ↓List.getElem?_nil, ↓Option.join_some, ↓Option.join_none, ↓Option.isSome_some, ↓Option.isSome_none, ↓List.set_cons_zero, ↓List.set_cons_succ, ↓List.replicate, ↓List.length_cons, ↓List.length_nil, ↓List.isEmpty_cons, ↓List.isEmpty_nil, ↓List.all_cons, ↓List.all_nil, ↓List.filterMap_cons, ↓List.filterMap_nil, ↓List.contains_cons, ↓List.contains_nil, ↓Bool.and_true, ↓Bool.true_and, ↓Bool.and_false, ↓Bool.false_and, ↓Bool.not_true, ↓Bool.not_false, ↓if_true, ↓sh_int, ↓sh_bool, ↓sh_none, ↓eqv_ii, ↓eqv_bb, ↓eqv_ss, ↓brn_true, ↓brn_false, brn_true, brn_false, ↓List.any_cons, ↓List.any_nil, ↓if_false, ↓ite_true, ↓ite_false, ↓true_and, ↓and_true, ↓Bool.false_eq_true, ↓reduceCtorEq, ↓decide_true, ↓decide_false, ↓List.map_cons, ↓List.map_nil, ↓Tg.slots, ↓List.nodup_cons, ↓List.nodup_nil, ↓List.not_mem_nil, ↓not_false_eq_true, ↓forall_const, ↓true_implies, ↓bI, Nat.reduceAdd, Nat.reduceSub, Nat.reduceEqDiff, Int.reduceLT, Int.reduceLE, Nat.reduceLT, Nat.reduceLeDiff, Int.reduceNeg, Nat.reduceBEq, ↓BEq.rfl, ↓beq_self_eq_true, ↓Bool.or_false, ↓Bool.or_true]
          exact ft c4
        · simp -dsimp only [↓wpS, ↓wpE, ↓wpEs, ↓wpEs', ↓wpCs, ↓wpI, ↓callW, ↓okArgs, ↓sigOk, ↓inouts, ↓lents, ↓peeks, ↓peek, ↓pk, ↓slot, ↓setOwn, ↓setC, ↓freeze, ↓isOwn, ↓isIo, ↓slC, ↓isLst, ↓asV, ↓asS, ↓asVs, ↓asSs, ↓isT, ↓R.still, ↓setMany, ↓bindT, ↓wipeE, ↓unwipe, ↓binD, ↓intBin, ↓cmpD, ↓eqD, ↓ordD, ↓ordI, ↓startE, ↓endsOf, ↓ioOf, ↓newsOf, ↓Sl.r, ↓itemsOf, ↓slcD, ↓revD, ↓b1D, ↓b2D, ↓isNoneD, ↓noRefR, ↓noRef, ↓noRefs, ite_self, ↓isTy, ↓List.getElem?_cons_zero, ↓List.getElem?_cons_succ, ↓List.getElem?_nil, ↓Option.join_some, ↓Option.join_none, ↓Option.isSome_some, ↓Option.isSome_none, ↓List.set_cons_zero, ↓List.set_cons_succ, ↓List.replicate, ↓List.length_cons, ↓List.length_nil, ↓List.isEmpty_cons, ↓List.isEmpty_nil, ↓List.all_cons, ↓List.all_nil, ↓List.filterMap_cons, ↓List.filterMap_nil, ↓List.contains_cons, ↓List.contains_nil, ↓Bool.and_true, ↓Bool.true_and, ↓Bool.and_false, ↓Bool.false_and, ↓Bool.not_true, ↓Bool.not_false, ↓if_true, ↓sh_int, ↓sh_bool, ↓sh_none, ↓eqv_ii, ↓eqv_bb, ↓eqv_ss, ↓brn_true, ↓brn_false, brn_true, brn_false, ↓List.any_cons, ↓List.any_nil, ↓if_false, ↓ite_true, ↓ite_false, ↓true_and, ↓and_true, ↓Bool.false_eq_true, ↓reduceCtorEq, ↓decide_true, ↓decide_false, ↓List.map_cons, ↓List.map_nil, ↓Tg.slots, ↓List.nodup_cons, ↓List.nodup_nil, ↓List.not_mem_nil, ↓not_false_eq_true, ↓forall_const, ↓true_implies, ↓bI, Nat.reduceAdd, Nat.reduceSub, Nat.reduceEqDiff, Int.reduceLT, Int.reduceLE, Nat.reduceLT, Nat.reduceLeDiff, Int.reduceNeg, Nat.reduceBEq, ↓BEq.rfl, ↓beq_self_eq_true, ↓Bool.or_false, ↓Bool.or_true]
          exact fl c4
  | list l =>
    obtain ⟨j, rfl⟩ : ∃ j, k = j + 1 := by
      cases k with
      | zero => simp [gd] at hv
      | succ j => exact ⟨j, rfl⟩
    have hΦ : Φ "_law_bent" = bentSp j := by
      rcases hr with hr | ⟨j', e, hr⟩
      · cases hr
      · cases e; exact hr
    obtain ⟨hl, hv⟩ := gd_list.mp hv
    have hbl : (PyData.list l).bulk = PyData.bulkAll l := rfl
    rw [hbl] at kk
    refine wps_seq4 (fun e => ∃ (l' : List PyData) (pen' : PyData) (s2 : Sl) (s3 s4 : Option Sl), e = [some (.io pen'), some (.val (.list l)), some s2, s3, s4] ∧ s2.d = .list l' ∧ isR s2 ∧ l'.length ≤ c' + 1 ∧ (∀ x ∈ l', gd B30 (c' + 1) (j + 2) x = true) ∧ PyData.bulkAll l' ≤ 2 * PyData.bulkAll l + 2 ∧ Pen (t + 3 + 10 * (j + 1)) pen') (fun N next => ?_) ?_
    · simp -dsimp only [↓wpS, ↓wpE, ↓wpEs, ↓wpEs', ↓wpCs, ↓wpI, ↓callW, ↓okArgs, ↓sigOk, ↓inouts, ↓lents, ↓peeks, ↓peek, ↓pk, ↓slot, ↓setOwn, ↓setC, ↓freeze, ↓isOwn, ↓isIo, ↓slC, ↓isLst, ↓asV, ↓asS, ↓asVs, ↓asSs, ↓isT, ↓R.still, ↓setMany, ↓bindT, ↓wipeE, ↓unwipe, ↓binD, ↓intBin, ↓cmpD, ↓eqD, ↓ordD, ↓ordI, ↓startE, ↓endsOf, ↓ioOf, ↓newsOf, ↓Sl.r, ↓itemsOf, ↓slcD, ↓revD, ↓b1D, ↓b2D, ↓isNoneD, ↓noRefR, ↓noRef, ↓noRefs, ite_self, ↓isTy, ↓List.getElem?_cons_zero, ↓List.getElem?_cons_succ, ↓List.getElem?_nil, ↓Option.join_some, ↓Option.join_none, ↓Option.isSome_some, ↓Option.isSome_none, ↓List.set_cons_zero, ↓List.set_cons_succ, ↓List.replicate, ↓List.length_cons, ↓List.length_nil, ↓List.isEmpty_cons, ↓List.isEmpty_nil, ↓List.all_cons, ↓List.all_nil, ↓List.filterMap_cons, ↓List.filterMap_nil, ↓List.contains_cons, ↓List.contains_nil, ↓Bool.and_true, ↓Bool.true_and, ↓Bool.and_false, ↓Bool.false_and, ↓Bool.not_true, ↓Bool.not_false, ↓if_true, ↓sh_int, ↓sh_bool, ↓sh_none, ↓eqv_ii, ↓eqv_bb, ↓eqv_ss, ↓brn_true, ↓brn_false, brn_true, brn_false, ↓List.any_cons, ↓List.any_nil, ↓if_false, ↓ite_true, ↓ite_false, ↓true_and, ↓and_true, ↓Bool.false_eq_true, ↓reduceCtorEq, ↓decide_true, ↓decide_false, ↓List.map_cons, ↓List.map_nil, ↓Tg.slots, ↓List.nodup_cons, ↓List.nodup_nil, ↓List.not_mem_nil, ↓not_false_eq_true, ↓forall_const, ↓true_implies, ↓bI, Nat.reduceAdd, Nat.reduceSub, Nat.reduceEqDiff, Int.reduceLT, Int.reduceLE, Nat.reduceLT, Nat.reduceLeDiff, Int.reduceNeg, Nat.reduceBEq, ↓BEq.rfl, ↓beq_self_eq_true, ↓Bool.or_false, ↓Bool.or_true]
      refine brn_of (fun hb => ?_) (fun hb => ?_)
      · simp -dsimp only [↓wpS, ↓wpE, ↓wpEs, ↓wpEs', ↓wpCs, ↓wpI, ↓callW, ↓okArgs, ↓sigOk, ↓inouts, ↓lents, ↓peeks, ↓peek, ↓pk, ↓slot, ↓setOwn, ↓setC, ↓freeze, ↓isOwn, ↓isIo, ↓slC, ↓isLst, ↓asV, ↓asS, ↓asVs, ↓asSs, ↓isT, ↓R.still, ↓setMany, ↓bindT, ↓wipeE, ↓unwipe, ↓binD, ↓intBin, ↓cmpD, ↓eqD, ↓ordD, ↓ordI, ↓startE, ↓endsOf, ↓ioOf, ↓newsOf, ↓Sl.r, ↓itemsOf, ↓slcD, ↓revD, ↓b1D, ↓b2D, ↓isNoneD, ↓noRefR, ↓noRef, ↓noRefs, ite_self, ↓isTy, ↓List.getElem?_cons_zero, ↓List.getElem?_cons_succ, ↓List.getElem?_nil, ↓Option.join_some, ↓Option.join_none, ↓Option.isSome_some, ↓Option.isSome_none, ↓List.set_cons_zero, ↓List.set_cons_succ, ↓List.replicate, ↓List.length_cons, ↓List.length_nil, ↓List.isEmpty_cons, ↓List.isEmpty_nil, ↓List.all_cons, ↓List.all_nil, ↓List.filterMap_cons, ↓List.filterMap_nil, ↓List.contains_cons, ↓List.contains_nil, ↓Bool.and_true, ↓Bool.true_and, ↓Bool.and_false, ↓Bool.false_and, ↓Bool.not_true, ↓Bool.not_false, ↓if_true, ↓sh_int, ↓sh_bool, ↓sh_none, ↓eqv_ii, ↓eqv_bb, ↓eqv_ss, ↓brn_true, ↓brn_false, brn_true, brn_false, ↓List.any_cons, ↓List.any_nil, ↓if_false, ↓ite_true, ↓ite_false, ↓true_and, ↓and_true, ↓Bool.false_eq_true, ↓reduceCtorEq, ↓decide_true, ↓decide_false, ↓List.map_cons, ↓List.map_nil, ↓Tg.slots, ↓List.nodup_cons, ↓List.nodup_nil, ↓List.not_mem_nil, ↓not_false_eq_true, ↓forall_const, ↓true_implies, ↓bI, Nat.reduceAdd, Nat.reduceSub, Nat.reduceEqDiff, Int.reduceLT, Int.reduceLE, Nat.reduceLT, Nat.reduceLeDiff, Int.reduceNeg, Nat.reduceBEq, ↓BEq.rfl, ↓beq_self_eq_true, ↓Bool.or_false, ↓Bool.or_true]
        rw [h2]
        exact ⟨_, rfl, _, pen, rfl, hp, by omega, fun x pen' a b p _ => by
          simp -dsimp only [↓wpS, ↓wpE, ↓wpEs, ↓wpEs', ↓wpCs, ↓wpI, ↓callW, ↓okArgs, ↓sigOk, ↓inouts, ↓lents, ↓peeks, ↓peek, ↓pk, ↓slot, ↓setOwn, ↓setC, ↓freeze, ↓isOwn, ↓isIo, ↓slC, ↓isLst, ↓asV, ↓asS, ↓asVs, ↓asSs, ↓isT, ↓R.still, ↓setMany, ↓bindT, ↓wipeE, ↓unwipe, ↓binD, ↓intBin, ↓cmpD, ↓eqD, ↓ordD, ↓ordI, ↓startE, ↓endsOf, ↓ioOf, ↓newsOf, ↓Sl.r, ↓itemsOf, ↓slcD, ↓revD, ↓b1D, ↓b2D, ↓isNoneD, ↓noRefR, ↓noRef, ↓noRefs, ite_self, ↓isTy, ↓List.getElem?_cons_zero, ↓List.getElem?_cons_succ, ↓List.getElem?_nil, ↓Option.join_some, ↓Option.join_none, ↓Option.isSome_some, ↓Option.isSome_none, ↓List.set_cons_zero, ↓List.set_cons_succ, ↓List.replicate, ↓List.length_cons, ↓List.length_nil, ↓List.isEmpty_cons, ↓List.isEmpty_nil, ↓List.all_cons, ↓List.all_nil, ↓List.filterMap_cons, ↓List.filterMap_nil, ↓List.contains_cons, ↓List.contains_nil, ↓Bool.and_true, ↓Bool.true_and, ↓Bool.and_false, ↓Bool.false_and, ↓Bool.not_true, ↓Bool.not_false, ↓if_true, ↓sh_int, ↓sh_bool, ↓sh_none, ↓eqv_ii, ↓eqv_bb, ↓eqv_ss, ↓brn_true, ↓brn_false, brn_true, brn_false, ↓List.any_cons, ↓List.any_nil, ↓if_false, ↓ite_true, ↓ite_false, ↓true_and, ↓and_true, ↓Bool.false_eq_true, ↓reduceCtorEq, ↓decide_true, ↓decide_false, ↓List.map_cons, ↓List.map_nil, ↓Tg.slots, ↓List.nodup_cons, ↓List.nodup_nil, ↓List.not_mem_nil, ↓not_false_eq_true, ↓forall_const, ↓true_implies, ↓bI, Nat.reduceAdd, Nat.reduceSub, Nat.reduceEqDiff, Int.reduceLT, Int.reduceLE, Nat.reduceLT, Nat.reduceLeDiff, Int.reduceNeg, Nat.reduceBEq, ↓BEq.rfl, ↓beq_self_eq_true, ↓Bool.or_false, ↓Bool.or_true]
          exact oddC a b (p.mono (by omega))⟩
      have hl0 : 0 < l.length := by
        have : ¬ (l.length : Int) = 0 := by simpa using hb
        omega
      simp -dsimp only [↓wpS, ↓wpE, ↓wpEs, ↓wpEs', ↓wpCs, ↓wpI, ↓callW, ↓okArgs, ↓sigOk, ↓inouts, ↓lents, ↓peeks, ↓peek, ↓pk, ↓slot, ↓setOwn, ↓setC, ↓freeze, ↓isOwn, ↓isIo, ↓slC, ↓isLst, ↓asV, ↓asS, ↓asVs, ↓asSs, ↓isT, ↓R.still, ↓setMany, ↓bindT, ↓wipeE, ↓unwipe, ↓binD, ↓intBin, ↓cmpD, ↓eqD, ↓ordD, ↓ordI, ↓startE, ↓endsOf, ↓ioOf, ↓newsOf, ↓Sl.r, ↓itemsOf, ↓slcD, ↓revD, ↓b1D, ↓b2D, ↓isNoneD, ↓noRefR, ↓noRef, ↓noRefs, ite_self, ↓isTy, ↓List.getElem?_cons_zero, ↓List.getElem?_cons_succ, ↓List.getElem?_nil, ↓Option.join_some, ↓Option.join_none, ↓Option.isSome_some, ↓Option.isSome_none, ↓List.set_cons_zero, ↓List.set_cons_succ, ↓List.replicate, ↓List.length_cons, ↓List.length_nil, ↓List.isEmpty_cons, ↓List.isEmpty_nil, ↓List.all_cons, ↓List.all_nil, ↓List.filterMap_cons, ↓List.filterMap_nil, ↓List.contains_cons, ↓List.contains_nil, ↓Bool.and_true, ↓Bool.true_and, ↓Bool.and_false, ↓Bool.false_and, ↓Bool.not_true, ↓Bool.not_false, ↓if_true, ↓sh_int, ↓sh_bool, ↓sh_none, ↓eqv_ii, ↓eqv_bb, ↓eqv_ss, ↓brn_true, ↓brn_false, brn_true, brn_false, ↓List.any_cons, ↓List.any_nil, ↓if_false, ↓ite_true, ↓ite_false, ↓true_and, ↓and_true, ↓Bool.false_eq_true, ↓reduceCtorEq, ↓decide_true, ↓decide_false, ↓List.map_cons, ↓List.map_nil, ↓Tg.slots, ↓List.nodup_cons, ↓List.nodup_nil, ↓List.not_mem_nil, ↓not_false_eq_true, ↓forall_const, ↓true_implies, ↓bI, Nat.reduceAdd, Nat.reduceSub, Nat.reduceEqDiff, Int.reduceLT, Int.reduceLE, Nat.reduceLT, Nat.reduceLeDiff, Int.reduceNeg, Nat.reduceBEq, ↓BEq.rfl, ↓beq_self_eq_true, ↓Bool.or_false, ↓Bool.or_true]
      refine ⟨_, rfl, ?_⟩
      rw [h]
      refine ⟨t, pen, _, rfl, hp, by omega, by omega, by omega, fun r pen1 a1 a2 c1 _ => ?_⟩
      simp -dsimp only [↓wpS, ↓wpE, ↓wpEs, ↓wpEs', ↓wpCs, ↓wpI, ↓callW, ↓okArgs, ↓sigOk, ↓inouts, ↓lents, ↓peeks, ↓peek, ↓pk, ↓slot, ↓setOwn, ↓setC, ↓freeze, ↓isOwn, ↓isIo, ↓slC, ↓isLst, ↓asV, ↓asS, ↓asVs, ↓asSs, ↓isT, ↓R.still, ↓setMany, ↓bindT, ↓wipeE, ↓unwipe, ↓binD, ↓intBin, ↓cmpD, ↓eqD, ↓ordD, ↓ordI, ↓startE, ↓endsOf, ↓ioOf, ↓newsOf, ↓Sl.r, ↓itemsOf, ↓slcD, ↓revD, ↓b1D, ↓b2D, ↓isNoneD, ↓noRefR, ↓noRef, ↓noRefs, ite_self, ↓isTy, ↓List.getElem?_cons_zero, ↓List.getElem?_cons_succ, ↓List.getElem?_nil, ↓Option.join_some, ↓Option.join_none, ↓Option.isSome_some, ↓Option.isSome_none, ↓List.set_cons_zero, ↓List.set_cons_succ, ↓List.replicate, ↓List.length_cons, ↓List.length_nil, ↓List.isEmpty_cons, ↓List.isEmpty_nil, ↓List.all_cons, ↓List.all_nil, ↓List.filterMap_cons, ↓List.filterMap_nil, ↓List.contains_cons, ↓List.contains_nil, ↓Bool.and_true, ↓Bool.true_and, ↓Bool.and_false, ↓Bool.false_and, ↓Bool.not_true, ↓Bool.not_false, ↓if_true, ↓sh_int, ↓sh_bool, ↓sh_none, ↓eqv_ii, ↓eqv_bb, ↓eqv_ss, ↓brn_true, ↓brn_false, brn_true, brn_false, ↓List.any_cons, ↓List.any_nil, ↓if_false, ↓ite_true, ↓ite_false, ↓true_and, ↓and_true, ↓Bool.false_eq_true, ↓reduceCtorEq, ↓decide_true, ↓decide_false, ↓List.map_cons, ↓List.map_nil, ↓Tg.slots, ↓List.nodup_cons, ↓List.nodup_nil, ↓List.not_mem_nil, ↓not_false_eq_true, ↓forall_const, ↓true_implies, ↓bI, Nat.reduceAdd, Nat.reduceSub, Nat.reduceEqDiff, Int.reduceLT, Int.reduceLE, Nat.reduceLT, Nat.reduceLeDiff, Int.reduceNeg, Nat.reduceBEq, ↓BEq.rfl, ↓beq_self_eq_true, ↓Bool.or_false, ↓Bool.or_true]
      refine brn_of (fun hb => ?_) (fun hb => ?_)
      · simp -dsimp only [↓wpS, ↓wpE, ↓wpEs, ↓wpEs', ↓wpCs, ↓wpI, ↓callW, ↓okArgs, ↓sigOk, ↓inouts, ↓lents, ↓peeks, ↓peek, ↓pk, ↓slot, ↓setOwn, ↓setC, ↓freeze, ↓isOwn, ↓isIo, ↓slC, ↓isLst, ↓asV, ↓asS, ↓asVs, ↓asSs, ↓isT, ↓R.still, ↓setMany, ↓bindT, ↓wipeE, ↓unwipe, ↓binD, ↓intBin, ↓cmpD, ↓eqD, ↓ordD, ↓ordI, ↓startE, ↓endsOf, ↓ioOf, ↓newsOf, ↓Sl.r, ↓itemsOf, ↓slcD, ↓revD, ↓b1D, ↓b2D, ↓isNoneD, ↓noRefR, ↓noRef, ↓noRefs, ite_self, ↓isTy, ↓List.getElem?_cons_zero, ↓List.getElem?_cons_succ, ↓List.getElem?_nil, ↓Option.join_some, ↓Option.join_none, ↓Option.isSome_some, ↓Option.isSome_none, ↓List.set_cons_zero, ↓List.set_cons_succ, ↓List.replicate, ↓List.length_cons, ↓List.length_nil, ↓List.isEmpty_cons, ↓List.isEmpty_nil, ↓List.all_cons, ↓List.all_nil, ↓List.filterMap_cons, ↓List.filterMap_nil, ↓List.contains_cons, ↓List.contains_nil, ↓Bool.and_true, ↓Bool.true_and, ↓Bool.and_false, ↓Bool.false_and, ↓Bool.not_true, ↓Bool.not_false, ↓if_true, ↓sh_int, ↓sh_bool, ↓sh_none, ↓eqv_ii, ↓eqv_bb, ↓eqv_ss, ↓brn_true, ↓brn_false, brn_true, brn_false, ↓List.any_cons, ↓List.any_nil, ↓if_false, ↓ite_true, ↓ite_false, ↓true_and, ↓and_true, ↓Bool.false_eq_true, ↓reduceCtorEq, ↓decide_true, ↓decide_false, ↓List.map_cons, ↓List.map_nil, ↓Tg.slots, ↓List.nodup_cons, ↓List.nodup_nil, ↓List.not_mem_nil, ↓not_false_eq_true, ↓forall_const, ↓true_implies, ↓bI, Nat.reduceAdd, Nat.reduceSub, Nat.reduceEqDiff, Int.reduceLT, Int.reduceLE, Nat.reduceLT, Nat.reduceLeDiff, Int.reduceNeg, Nat.reduceBEq, ↓BEq.rfl, ↓beq_self_eq_true, ↓Bool.or_false, ↓Bool.or_true]
        rw [h2]
        exact ⟨_, rfl, _, pen1, rfl, c1, by omega, fun x pen' a b p _ => by
          simp -dsimp only [↓wpS, ↓wpE, ↓wpEs, ↓wpEs', ↓wpCs, ↓wpI, ↓callW, ↓okArgs, ↓sigOk, ↓inouts, ↓lents, ↓peeks, ↓peek, ↓pk, ↓slot, ↓setOwn, ↓setC, ↓freeze, ↓isOwn, ↓isIo, ↓slC, ↓isLst, ↓asV, ↓asS, ↓asVs, ↓asSs, ↓isT, ↓R.still, ↓setMany, ↓bindT, ↓wipeE, ↓unwipe, ↓binD, ↓intBin, ↓cmpD, ↓eqD, ↓ordD, ↓ordI, ↓startE, ↓endsOf, ↓ioOf, ↓newsOf, ↓Sl.r, ↓itemsOf, ↓slcD, ↓revD, ↓b1D, ↓b2D, ↓isNoneD, ↓noRefR, ↓noRef, ↓noRefs, ite_self, ↓isTy, ↓List.getElem?_cons_zero, ↓List.getElem?_cons_succ, ↓List.getElem?_nil, ↓Option.join_some, ↓Option.join_none, ↓Option.isSome_some, ↓Option.isSome_none, ↓List.set_cons_zero, ↓List.set_cons_succ, ↓List.replicate, ↓List.length_cons, ↓List.length_nil, ↓List.isEmpty_cons, ↓List.isEmpty_nil, ↓List.all_cons, ↓List.all_nil, ↓List.filterMap_cons, ↓List.filterMap_nil, ↓List.contains_cons, ↓List.contains_nil, ↓Bool.and_true, ↓Bool.true_and, ↓Bool.and_false, ↓Bool.false_and, ↓Bool.not_true, ↓Bool.not_false, ↓if_true, ↓sh_int, ↓sh_bool, ↓sh_none, ↓eqv_ii, ↓eqv_bb, ↓eqv_ss, ↓brn_true, ↓brn_false, brn_true, brn_false, ↓List.any_cons, ↓List.any_nil, ↓if_false, ↓ite_true, ↓ite_false, ↓true_and, ↓and_true, ↓Bool.false_eq_true, ↓reduceCtorEq, ↓decide_true, ↓decide_false, ↓List.map_cons, ↓List.map_nil, ↓Tg.slots, ↓List.nodup_cons, ↓List.nodup_nil, ↓List.not_mem_nil, ↓not_false_eq_true, ↓forall_const, ↓true_implies, ↓bI, Nat.reduceAdd, Nat.reduceSub, Nat.reduceEqDiff, Int.reduceLT, Int.reduceLE, Nat.reduceLT, Nat.reduceLeDiff, Int.reduceNeg, Nat.reduceBEq, ↓BEq.rfl, ↓beq_self_eq_true, ↓Bool.or_false, ↓Bool.or_true]
          exact oddC a b (p.mono (by omega))⟩
      simp -dsimp only [↓wpS, ↓wpE, ↓wpEs, ↓wpEs', ↓wpCs, ↓wpI, ↓callW, ↓okArgs, ↓sigOk, ↓inouts, ↓lents, ↓peeks, ↓peek, ↓pk, ↓slot, ↓setOwn, ↓setC, ↓freeze, ↓isOwn, ↓isIo, ↓slC, ↓isLst, ↓asV, ↓asS, ↓asVs, ↓asSs, ↓isT, ↓R.still, ↓setMany, ↓bindT, ↓wipeE, ↓unwipe, ↓binD, ↓intBin, ↓cmpD, ↓eqD, ↓ordD, ↓ordI, ↓startE, ↓endsOf, ↓ioOf, ↓newsOf, ↓Sl.r, ↓itemsOf, ↓slcD, ↓revD, ↓b1D, ↓b2D, ↓isNoneD, ↓noRefR, ↓noRef, ↓noRefs, ite_self, ↓isTy, ↓List.getElem?_cons_zero, ↓List.getElem?_cons_succ, ↓List.getElem?_nil, ↓Option.join_some, ↓Option.join_none, ↓Option.isSome_some, ↓Option.isSome_none, ↓List.set_cons_zero, ↓List.set_cons_succ, ↓List.replicate, ↓List.length_cons, ↓List.length_nil, ↓List.isEmpty_cons, ↓List.isEmpty_nil, ↓List.all_cons, ↓List.all_nil, ↓List.filterMap_cons, ↓List.filterMap_nil, ↓List.contains_cons, ↓List.contains_nil, ↓Bool.and_true, ↓Bool.true_and, ↓Bool.and_false, ↓Bool.false_and, ↓Bool.not_true, ↓Bool.not_false, ↓if_true, ↓sh_int, ↓sh_bool, ↓sh_none, ↓eqv_ii, ↓eqv_bb, ↓eqv_ss, ↓brn_true, ↓brn_false, brn_true, brn_false, ↓List.any_cons, ↓List.any_nil, ↓if_false, ↓ite_true, ↓ite_false, ↓true_and, ↓and_true, ↓Bool.false_eq_true, ↓reduceCtorEq, ↓decide_true, ↓decide_false, ↓List.map_cons, ↓List.map_nil, ↓Tg.slots, ↓List.nodup_cons, ↓List.nodup_nil, ↓List.not_mem_nil, ↓not_false_eq_true, ↓forall_const, ↓true_implies, ↓bI, Nat.reduceAdd, Nat.reduceSub, Nat.reduceEqDiff, Int.reduceLT, Int.reduceLE, Nat.reduceLT, Nat.reduceLeDiff, Int.reduceNeg, Nat.reduceBEq, ↓BEq.rfl, ↓beq_self_eq_true, ↓Bool.or_false, ↓Bool.or_true]
      refine ⟨_, rfl, ?_⟩
      rw [h]
      refine ⟨_, pen1, _, rfl, c1, by omega, by omega, by omega, fun way pen2 b1 b2 c2 _ => ?_⟩
      simp -dsimp only [↓wpS, ↓wpE, ↓wpEs, ↓wpEs', ↓wpCs, ↓wpI, ↓callW, ↓okArgs, ↓sigOk, ↓inouts, ↓lents, ↓peeks, ↓peek, ↓pk, ↓slot, ↓setOwn, ↓setC, ↓freeze, ↓isOwn, ↓isIo, ↓slC, ↓isLst, ↓asV, ↓asS, ↓asVs, ↓asSs, ↓isT, ↓R.still, ↓setMany, ↓bindT, ↓wipeE, ↓unwipe, ↓binD, ↓intBin, ↓cmpD, ↓eqD, ↓ordD, ↓ordI, ↓startE, ↓endsOf, ↓ioOf, ↓newsOf, ↓Sl.r, ↓itemsOf, ↓slcD, ↓revD, ↓b1D, ↓b2D, ↓isNoneD, ↓noRefR, ↓noRef, ↓noRefs, ite_self, ↓isTy, ↓List.getElem?_cons_zero, ↓List.getElem?_cons_succ, ↓List.getElem?_nil, ↓Option.join_some, ↓Option.join_none, ↓Option.isSome_some, ↓Option.isSome_none, ↓List.set_cons_zero, ↓List.set_cons_succ, ↓List.replicate, ↓List.length_cons, ↓List.length_nil, ↓List.isEmpty_cons, ↓List.isEmpty_nil, ↓List.all_cons, ↓List.all_nil, ↓List.filterMap_cons, ↓List.filterMap_nil, ↓List.contains_cons, ↓List.contains_nil, ↓Bool.and_true, ↓Bool.true_and, ↓Bool.and_false, ↓Bool.false_and, ↓Bool.not_true, ↓Bool.not_false, ↓if_true, ↓sh_int, ↓sh_bool, ↓sh_none, ↓eqv_ii, ↓eqv_bb, ↓eqv_ss, ↓brn_true, ↓brn_false, brn_true, brn_false, ↓List.any_cons, ↓List.any_nil, ↓if_false, ↓ite_true, ↓ite_false, ↓true_and, ↓and_true, ↓Bool.false_eq_true, ↓reduceCtorEq, ↓decide_true, ↓decide_false, ↓List.map_cons, ↓List.map_nil, ↓Tg.slots, ↓List.nodup_cons, ↓List.nodup_nil, ↓List.not_mem_nil, ↓not_false_eq_true, ↓forall_const, ↓true_implies, ↓bI, Nat.reduceAdd, Nat.reduceSub, Nat.reduceEqDiff, Int.reduceLT, Int.reduceLE, Nat.reduceLT, Nat.reduceLeDiff, Int.reduceNeg, Nat.reduceBEq, ↓BEq.rfl, ↓beq_self_eq_true, ↓Bool.or_false, ↓Bool.or_true]
      refine ⟨_, rfl, ?_⟩
      rw [h]
      refine ⟨_, pen2, _, rfl, c2, by omega, by omega, by omega, fun r2 pen3 d1 d2 c3 _ => ?_⟩
      have hr2 : r2.toNat < l.length := by omega
      have hb2 := bulk_ge (List.getElem_mem hr2)
      simp -dsimp only [↓wpS, ↓wpE, ↓wpEs, ↓wpEs', ↓wpCs, ↓wpI, ↓callW, ↓okArgs, ↓sigOk, ↓inouts, ↓lents, ↓peeks, ↓peek, ↓pk, ↓slot, ↓setOwn, ↓setC, ↓freeze, ↓isOwn, ↓isIo, ↓slC, ↓isLst, ↓asV, ↓asS, ↓asVs, ↓asSs, ↓isT, ↓R.still, ↓setMany, ↓bindT, ↓wipeE, ↓unwipe, ↓binD, ↓intBin, ↓cmpD, ↓eqD, ↓ordD, ↓ordI, ↓startE, ↓endsOf, ↓ioOf, ↓newsOf, ↓Sl.r, ↓itemsOf, ↓slcD, ↓revD, ↓b1D, ↓b2D, ↓isNoneD, ↓noRefR, ↓noRef, ↓noRefs, ite_self, ↓isTy, ↓List.getElem?_cons_zero, ↓List.getElem?_cons_succ, ↓List.getElem?_nil, ↓Option.join_some, ↓Option.join_none, ↓Option.isSome_some, ↓Option.isSome_none, ↓List.set_cons_zero, ↓List.set_cons_succ, ↓List.replicate, ↓List.length_cons, ↓List.length_nil, ↓List.isEmpty_cons, ↓List.isEmpty_nil, ↓List.all_cons, ↓List.all_nil, ↓List.filterMap_cons, ↓List.filterMap_nil, ↓List.contains_cons, ↓List.contains_nil, ↓Bool.and_true, ↓Bool.true_and, ↓Bool.and_false, ↓Bool.false_and, ↓Bool.not_true, ↓Bool.not_false, ↓if_true, ↓sh_int, ↓sh_bool, ↓sh_none, ↓eqv_ii, ↓eqv_bb, ↓eqv_ss, ↓brn_true, ↓brn_false, brn_true, brn_false, ↓List.any_cons, ↓List.any_nil, ↓if_false, ↓ite_true, ↓ite_false, ↓true_and, ↓and_true, ↓Bool.false_eq_true, ↓reduceCtorEq, ↓decide_true, ↓decide_false, ↓List.map_cons, ↓List.map_nil, ↓Tg.slots, ↓List.nodup_cons, ↓List.nodup_nil, ↓List.not_mem_nil, ↓not_false_eq_true, ↓forall_const, ↓true_implies, ↓bI, Nat.reduceAdd, Nat.reduceSub, Nat.reduceEqDiff, Int.reduceLT, Int.reduceLE, Nat.reduceLT, Nat.reduceLeDiff, Int.reduceNeg, Nat.reduceBEq, ↓BEq.rfl, ↓beq_self_eq_true, ↓Bool.or_false, ↓Bool.or_true]
      refine brn_of (fun hb => ?_) (fun hb => ?_)
      · simp -dsimp only [↓wpS, ↓wpE, ↓wpEs, ↓wpEs', ↓wpCs, ↓wpI, ↓callW, ↓okArgs, ↓sigOk, ↓inouts, ↓lents, ↓peeks, ↓peek, ↓pk, ↓slot, ↓setOwn, ↓setC, ↓freeze, ↓isOwn, ↓isIo, ↓slC, ↓isLst, ↓asV, ↓asS, ↓asVs, ↓asSs, ↓isT, ↓R.still, ↓setMany, ↓bindT, ↓wipeE, ↓unwipe, ↓binD, ↓intBin, ↓cmpD, ↓eqD, ↓ordD, ↓ordI, ↓startE, ↓endsOf, ↓ioOf, ↓newsOf, ↓Sl.r, ↓itemsOf, ↓slcD, ↓revD, ↓b1D, ↓b2D, ↓isNoneD, ↓noRefR, ↓noRef, ↓noRefs, ite_self, ↓isTy, ↓List.getElem?_cons_zero, ↓List.getElem?_cons_succ, ↓List.getElem?_nil, ↓Option.join_some, ↓Option.join_none, ↓Option.isSome_some, ↓Option.isSome_none, ↓List.set_cons_zero, ↓List.set_cons_succ, ↓List.replicate, ↓List.length_cons, ↓List.length_nil, ↓List.isEmpty_cons, ↓List.isEmpty_nil, ↓List.all_cons, ↓List.all_nil, ↓List.filterMap_cons, ↓List.filterMap_nil, ↓List.contains_cons, ↓List.contains_nil, ↓Bool.and_true, ↓Bool.true_and, ↓Bool.and_false, ↓Bool.false_and, ↓Bool.not_true, ↓Bool.not_false, ↓if_true, ↓sh_int, ↓sh_bool, ↓sh_none, ↓eqv_ii, ↓eqv_bb, ↓eqv_ss, ↓brn_true, ↓brn_false, brn_true, brn_false, ↓List.any_cons, ↓List.any_nil, ↓if_false, ↓ite_true, ↓ite_false, ↓true_and, ↓and_true, ↓Bool.false_eq_true, ↓reduceCtorEq, ↓decide_true, ↓decide_false, ↓List.map_cons, ↓List.map_nil, ↓Tg.slots, ↓List.nodup_cons, ↓List.nodup_nil, ↓List.not_mem_nil, ↓not_false_eq_true, ↓forall_const, ↓true_implies, ↓bI, Nat.reduceAdd, Nat.reduceSub, Nat.reduceEqDiff, Int.reduceLT, Int.reduceLE, Nat.reduceLT, Nat.reduceLeDiff, Int.reduceNeg, Nat.reduceBEq, ↓BEq.rfl, ↓beq_self_eq_true, ↓Bool.or_false, ↓Bool.or_true]
        refine stp_at d1 d2 fun x hx hxi => ?_
        simp -dsimp only [↓wpS, ↓wpE, ↓wpEs, ↓wpEs', ↓wpCs, ↓wpI, ↓callW, ↓okArgs, ↓sigOk, ↓inouts, ↓lents, ↓peeks, ↓peek, ↓pk, ↓slot, ↓setOwn, ↓setC, ↓freeze, ↓isOwn, ↓isIo, ↓slC, ↓isLst, ↓asV, ↓asS, ↓asVs, ↓asSs, ↓isT, ↓R.still, ↓setMany, ↓bindT, ↓wipeE, ↓unwipe, ↓binD, ↓intBin, ↓cmpD, ↓eqD, ↓ordD, ↓ordI, ↓startE, ↓endsOf, ↓ioOf, ↓newsOf, ↓Sl.r, ↓itemsOf, ↓slcD, ↓revD, ↓b1D, ↓b2D, ↓isNoneD, ↓noRefR, ↓noRef, ↓noRefs, ite_self, ↓isTy, ↓List.getElem?_cons_zero, ↓List.getElem?_cons_succ, ↓List.getElem?_nil, ↓Option.join_some, ↓Option.join_none, ↓Option.isSome_some, ↓Option.isSome_none, ↓List.set_cons_zero, ↓List.set_cons_succ, ↓List.replicate, ↓List.length_cons, ↓List.length_nil, ↓List.isEmpty_cons, ↓List.isEmpty_nil, ↓List.all_cons, ↓List.all_nil, ↓List.filterMap_cons, ↓List.filterMap_nil, ↓List.contains_cons, ↓List.contains_nil, ↓Bool.and_true, ↓Bool.true_and, ↓Bool.and_false, ↓Bool.false_and, ↓Bool.not_true, ↓Bool.not_false, ↓if_true, ↓sh_int, ↓sh_bool, ↓sh_none, ↓eqv_ii, ↓eqv_bb, ↓eqv_ss, ↓brn_true, ↓brn_false, brn_true, brn_false, ↓List.any_cons, ↓List.any_nil, ↓if_false, ↓ite_true, ↓ite_false, ↓true_and, ↓and_true, ↓Bool.false_eq_true, ↓reduceCtorEq, ↓decide_true, ↓decide_false, ↓List.map_cons, ↓List.map_nil, ↓Tg.slots, ↓List.nodup_cons, ↓List.nodup_nil, ↓List.not_mem_nil, ↓not_false_eq_true, ↓forall_const, ↓true_implies, ↓bI, Nat.reduceAdd, Nat.reduceSub, Nat.reduceEqDiff, Int.reduceLT, Int.reduceLE, Nat.reduceLT, Nat.reduceLeDiff, Int.reduceNeg, Nat.reduceBEq, ↓BEq.rfl, ↓beq_self_eq_true, ↓Bool.or_false, ↓Bool.or_true]
        refine ⟨_, rfl, ?_⟩
        rw [hΦ]
        have hxi' : l[r2.toNat]? = some x := hxi
        refine ⟨_, pen3, x, c', rfl, c3, by omega, by omega, hc1, hc2, hv x hx, fun r pen4 y1 y2 y3 y4 _ => ?_⟩
        have hset : ∀ y : PyData, gd B30 (c' + 1) (j + 2) y = true → y.bulk ≤ 2 * x.bulk + 2 → (l.set r2.toNat y).length ≤ c' + 1 ∧ (∀ z ∈ l.set r2.toNat y, gd B30 (c' + 1) (j + 2) z = true) ∧ PyData.bulkAll (l.set r2.toNat y) ≤ 2 * PyData.bulkAll l + 2 := fun y q1 q2 => by
          refine ⟨by rw [List.length_set]; omega, fun z hz => ?_, ?_⟩
          · rcases List.mem_or_eq_of_mem_set hz with hz | rfl
            · exact gd_mono (by decide) (by omega) (by omega) (hv z hz)
            · exact q1
          · have := bulk_set l r2.toNat y x hxi'
            have := bulk_ge hx
            omega
        rcases y3 with ⟨d, rfl⟩ | ⟨l2, rfl⟩
        · simp -dsimp only [↓wpS, ↓wpE, ↓wpEs, ↓wpEs', ↓wpCs, ↓wpI, ↓callW, ↓okArgs, ↓sigOk, ↓inouts, ↓lents, ↓peeks, ↓peek, ↓pk, ↓slot, ↓setOwn, ↓setC, ↓freeze, ↓isOwn, ↓isIo, ↓slC, ↓isLst, ↓asV, ↓asS, ↓asVs, ↓asSs, ↓isT, ↓R.still, ↓setMany, ↓bindT, ↓wipeE, ↓unwipe, ↓binD, ↓intBin, ↓cmpD, ↓eqD, ↓ordD, ↓ordI, ↓startE, ↓endsOf, ↓ioOf, ↓newsOf, ↓Sl.r, ↓itemsOf, ↓slcD, ↓revD, ↓b1D, ↓b2D, ↓isNoneD, ↓noRefR, ↓noRef, ↓noRefs, ite_self, ↓isTy, ↓List.getElem?_cons_zero, ↓List.getElem?_cons_succ, ↓List.getElem?_nil, ↓Option.join_some, ↓Option.join_none, ↓Option.isSome_some, ↓Option.isSome_none, ↓List.set_cons_zero, ↓List.set_cons_succ, ↓List.replicate, ↓List.length_cons, ↓List.length_nil, ↓List.isEmpty_cons, ↓List.isEmpty_nil, ↓List.all_cons, ↓List.all_nil, ↓List.filterMap_cons, ↓List.filterMap_nil, ↓List.contains_cons, ↓List.contains_nil, ↓Bool.and_true, ↓Bool.true_and, ↓Bool.and_false, ↓Bool.false_and, ↓Bool.not_true, ↓Bool.not_false, ↓if_true, ↓sh_int, ↓sh_bool, ↓sh_none, ↓eqv_ii, ↓eqv_bb, ↓eqv_ss, ↓brn_true, ↓brn_false, brn_true, brn_false, ↓List.any_cons, ↓List.any_nil, ↓if_false, ↓ite_true, ↓ite_false, ↓true_and, ↓and_true, ↓Bool.false_eq_true, ↓reduceCtorEq, ↓decide_true, ↓decide_false, ↓List.map_cons, ↓List.map_nil, ↓Tg.slots, ↓List.nodup_cons, ↓List.nodup_nil, ↓List.not_mem_nil, ↓not_false_eq_true, ↓forall_const, ↓true_implies, ↓bI, Nat.reduceAdd, Nat.reduceSub, Nat.reduceEqDiff, Int.reduceLT, Int.reduceLE, Nat.reduceLT, Nat.reduceLeDiff, Int.reduceNeg, Nat.reduceBEq, ↓BEq.rfl, ↓beq_self_eq_true, ↓Bool.or_false, ↓Bool.or_true]
          obtain ⟨z1, z2, z3⟩ := hset d y1 y2
          exact ⟨_, ix_ok d1 d2, next _ ⟨_, pen4, _, _, _, rfl, rfl, .inr ⟨_, rfl⟩, z1, z2, z3, y4.mono (by omega)⟩⟩
        · simp -dsimp only [↓wpS, ↓wpE, ↓wpEs, ↓wpEs', ↓wpCs, ↓wpI, ↓callW, ↓okArgs, ↓sigOk, ↓inouts, ↓lents, ↓peeks, ↓peek, ↓pk, ↓slot, ↓setOwn, ↓setC, ↓freeze, ↓isOwn, ↓isIo, ↓slC, ↓isLst, ↓asV, ↓asS, ↓asVs, ↓asSs, ↓isT, ↓R.still, ↓setMany, ↓bindT, ↓wipeE, ↓unwipe, ↓binD, ↓intBin, ↓cmpD, ↓eqD, ↓ordD, ↓ordI, ↓startE, ↓endsOf, ↓ioOf, ↓newsOf, ↓Sl.r, ↓itemsOf, ↓slcD, ↓revD, ↓b1D, ↓b2D, ↓isNoneD, ↓noRefR, ↓noRef, ↓noRefs, ite_self, ↓isTy, ↓List.getElem?_cons_zero, ↓List.getElem?_cons_succ, ↓List.getElem?_nil, ↓Option.join_some, ↓Option.join_none, ↓Option.isSome_some, ↓Option.isSome_none, ↓List.set_cons_zero, ↓List.set_cons_succ, ↓List.replicate, ↓List.length_cons, ↓List.length_nil, ↓List.isEmpty_cons, ↓List.isEmpty_nil, ↓List.all_cons, ↓List.all_nil, ↓List.filterMap_cons, ↓List.filterMap_nil, ↓List.contains_cons, ↓List.contains_nil, ↓Bool.and_true, ↓Bool.true_and, ↓Bool.and_false, ↓Bool.false_and, ↓Bool.not_true, ↓Bool.not_false, ↓if_true, ↓sh_int, ↓sh_bool, ↓sh_none, ↓eqv_ii, ↓eqv_bb, ↓eqv_ss, ↓brn_true, ↓brn_false, brn_true, brn_false, ↓List.any_cons, ↓List.any_nil, ↓if_false, ↓ite_true, ↓ite_false, ↓true_and, ↓and_true, ↓Bool.false_eq_true, ↓reduceCtorEq, ↓decide_true, ↓decide_false, ↓List.map_cons, ↓List.map_nil, ↓Tg.slots, ↓List.nodup_cons, ↓List.nodup_nil, ↓List.not_mem_nil, ↓not_false_eq_true, ↓forall_const, ↓true_implies, ↓bI, Nat.reduceAdd, Nat.reduceSub, Nat.reduceEqDiff, Int.reduceLT, Int.reduceLE, Nat.reduceLT, Nat.reduceLeDiff, Int.reduceNeg, Nat.reduceBEq, ↓BEq.rfl, ↓beq_self_eq_true, ↓Bool.or_false, ↓Bool.or_true]
          obtain ⟨z1, z2, z3⟩ := hset (.list l2) y1 y2
          exact ⟨_, ix_ok d1 d2, next _ ⟨_, pen4, _, _, _, rfl, rfl, .inr ⟨_, rfl⟩, z1, z2, z3, y4.mono (by omega)⟩⟩
      · simp -dsimp only [↓wpS, ↓wpE, ↓wpEs, ↓wpEs', ↓wpCs, ↓wpI, ↓callW, ↓okArgs, ↓sigOk, ↓inouts, ↓lents, ↓peeks, ↓peek, ↓pk, ↓slot, ↓setOwn, ↓setC, ↓freeze, ↓isOwn, ↓isIo, ↓slC, ↓isLst, ↓asV, ↓asS, ↓asVs, ↓asSs, ↓isT, ↓R.still, ↓setMany, ↓bindT, ↓wipeE, ↓unwipe, ↓binD, ↓intBin, ↓cmpD, ↓eqD, ↓ordD, ↓ordI, ↓startE, ↓endsOf, ↓ioOf, ↓newsOf, ↓Sl.r, ↓itemsOf, ↓slcD, ↓revD, ↓b1D, ↓b2D, ↓isNoneD, ↓noRefR, ↓noRef, ↓noRefs, ite_self, ↓isTy, ↓List.getElem?_cons_zero, ↓List.getElem?_cons_succ, ↓List.getElem?_nil, ↓Option.join_some, ↓Option.join_none, ↓Option.isSome_some, ↓Option.isSome_none, ↓List.set_cons_zero, ↓List.set_cons_succ, ↓List.replicate, ↓List.length_cons, ↓List.length_nil, ↓List.isEmpty_cons, ↓List.isEmpty_nil, ↓List.all_cons, ↓List.all_nil, ↓List.filterMap_cons, ↓List.filterMap_nil, ↓List.contains_cons, ↓List.contains_nil, ↓Bool.and_true, ↓Bool.true_and, ↓Bool.and_false, ↓Bool.false_and, ↓Bool.not_true, ↓Bool.not_false, ↓if_true, ↓sh_int, ↓sh_bool, ↓sh_none, ↓eqv_ii, ↓eqv_bb, ↓eqv_ss, ↓brn_true, ↓brn_false, brn_true, brn_false, ↓List.any_cons, ↓List.any_nil, ↓if_false, ↓ite_true, ↓ite_false, ↓true_and, ↓and_true, ↓Bool.false_eq_true, ↓reduceCtorEq, ↓decide_true, ↓decide_false, ↓List.map_cons, ↓List.map_nil, ↓Tg.slots, ↓List.nodup_cons, ↓List.nodup_nil, ↓List.not_mem_nil, ↓not_false_eq_true, ↓forall_const, ↓true_implies, ↓bI, Nat.reduceAdd, Nat.reduceSub, Nat.reduceEqDiff, Int.reduceLT, Int.reduceLE, Nat.reduceLT, Nat.reduceLeDiff, Int.reduceNeg, Nat.reduceBEq, ↓BEq.rfl, ↓beq_self_eq_true, ↓Bool.or_false, ↓Bool.or_true]
        have hc1' := cut_len l none (some r2)
        have hc2' := cut_len l (some (r2 + 1)) none
        have hc3' := cut_len l (some r2) (some (r2 + 1))
        have hq : ∀ x ∈ l, gd B30 (c' + 1) (j + 2) x = true := fun x hx => gd_mono (by decide) (by omega) (by omega) (hv x hx)
        refine ⟨by show _ ≤ 16777216; omega, by show _ ≤ 16777216; omega, ?_⟩
        refine stp_at (by have : ¬ way < 7 := by simpa using hb
                          omega) (by show way - 7 < ((3 : Nat) : Int); omega) fun v hvm _ => ?_
        simp only [List.mem_cons, List.not_mem_nil, or_false] at hvm
        have e1 : cut l none (some r2) ++ cut l (some (r2 + 1)) none = l.take r2.toNat ++ l.drop (r2.toNat + 1) := by
          rw [cut_take d1 (by omega), cut_drop (by omega) (by omega)]
          congr 2; omega
        have e2 : l ++ cut l (some r2) (some (r2 + 1)) = l ++ [l[r2.toNat]] := by
          rw [cut_one d1 d2, List.drop_eq_getElem_cons hr2]; rfl
        have e3 : PyData.bulkAll l = PyData.bulkAll (l.take r2.toNat) + (l[r2.toNat].bulk + 1 + PyData.bulkAll (l.drop (r2.toNat + 1))) := by
          rw [← bulk_split l r2.toNat, List.drop_eq_getElem_cons hr2]; rfl
        have h1' : (cut l none (some r2) ++ cut l (some (r2 + 1)) none).length ≤ c' + 1 ∧ (∀ z ∈ cut l none (some r2) ++ cut l (some (r2 + 1)) none, gd B30 (c' + 1) (j + 2) z = true) ∧ PyData.bulkAll (cut l none (some r2) ++ cut l (some (r2 + 1)) none) ≤ 2 * PyData.bulkAll l + 2 := by
          rw [e1]
          refine ⟨by rw [List.length_append, List.length_take, List.length_drop]; omega, fun z hz => ?_, by rw [bulk_app]; omega⟩
          rcases List.mem_append.mp hz with hz | hz
          · exact hq z (List.mem_of_mem_take hz)
          · exact hq z (List.mem_of_mem_drop hz)
        have h2' : (l ++ cut l (some r2) (some (r2 + 1))).length ≤ c' + 1 ∧ (∀ z ∈ l ++ cut l (some r2) (some (r2 + 1)), gd B30 (c' + 1) (j + 2) z = true) ∧ PyData.bulkAll (l ++ cut l (some r2) (some (r2 + 1))) ≤ 2 * PyData.bulkAll l + 2 := by
          rw [e2]
          refine ⟨by rw [List.length_append]; simp; omega, fun z hz => ?_, by rw [bulk_app]; simp only [PyData.bulkAll]; omega⟩
          rcases List.mem_append.mp hz with hz | hz
          · exact hq z hz
          · rw [List.mem_singleton] at hz
            rw [hz]; exact hq _ (List.getElem_mem hr2)
        rcases hvm with rfl | rfl | rfl
        · simp -dsimp only [↓wpS, ↓wpE, ↓wpEs, ↓wpEs', ↓wpCs, ↓wpI, ↓callW, ↓okArgs, ↓sigOk, ↓inouts, ↓lents, ↓peeks, ↓peek, ↓pk, ↓slot, ↓setOwn, ↓setC, ↓freeze, ↓isOwn, ↓isIo, ↓slC, ↓isLst, ↓asV, ↓asS, ↓asVs, ↓asSs, ↓isT, ↓R.still, ↓setMany, ↓bindT, ↓wipeE, ↓unwipe, ↓binD, ↓intBin, ↓cmpD, ↓eqD, ↓ordD, ↓ordI, ↓startE, ↓endsOf, ↓ioOf, ↓newsOf, ↓Sl.r, ↓itemsOf, ↓slcD, ↓revD, ↓b1D, ↓b2D, ↓isNoneD, ↓noRefR, ↓noRef, ↓noRefs, ite_self, ↓isTy, ↓List.getElem?_cons_zero, ↓List.getElem?_cons_succ, ↓List.getElem?_nil, ↓Option.join_some, ↓Option.join_none, ↓Option.isSome_some, ↓Option.isSome_none, ↓List.set_cons_zero, ↓List.set_cons_succ, ↓List.replicate, ↓List.length_cons, ↓List.length_nil, ↓List.isEmpty_cons, ↓List.isEmpty_nil, ↓List.all_cons, ↓List.all_nil, ↓List.filterMap_cons, ↓List.filterMap_nil, ↓List.contains_cons, ↓List.contains_nil, ↓Bool.and_true, ↓Bool.true_and, ↓Bool.and_false, ↓Bool.false_and, ↓Bool.not_true, ↓Bool.not_false, ↓if_true, ↓sh_int, ↓sh_bool, ↓sh_none, ↓eqv_ii, ↓eqv_bb, ↓eqv_ss, ↓brn_true, ↓brn_false, brn_true, brn_false, ↓List.any_cons, ↓List.any_nil, ↓if_false, ↓ite_true, ↓ite_false, ↓true_and, ↓and_true, ↓Bool.false_eq_true, ↓reduceCtorEq, ↓decide_true, ↓decide_false, ↓List.map_cons, ↓List.map_nil, ↓Tg.slots, ↓List.nodup_cons, ↓List.nodup_nil, ↓List.not_mem_nil, ↓not_false_eq_true, ↓forall_const, ↓true_implies, ↓bI, Nat.reduceAdd, Nat.reduceSub, Nat.reduceEqDiff, Int.reduceLT, Int.reduceLE, Nat.reduceLT, Nat.reduceLeDiff, Int.reduceNeg, Nat.reduceBEq, ↓BEq.rfl, ↓beq_self_eq_true, ↓Bool.or_false, ↓Bool.or_true]
          exact next _ ⟨_, pen3, _, _, _, rfl, rfl, .inl ⟨_, rfl⟩, h1'.1, h1'.2.1, h1'.2.2, c3.mono (by omega)⟩
        · simp -dsimp only [↓wpS, ↓wpE, ↓wpEs, ↓wpEs', ↓wpCs, ↓wpI, ↓callW, ↓okArgs, ↓sigOk, ↓inouts, ↓lents, ↓peeks, ↓peek, ↓pk, ↓slot, ↓setOwn, ↓setC, ↓freeze, ↓isOwn, ↓isIo, ↓slC, ↓isLst, ↓asV, ↓asS, ↓asVs, ↓asSs, ↓isT, ↓R.still, ↓setMany, ↓bindT, ↓wipeE, ↓unwipe, ↓binD, ↓intBin, ↓cmpD, ↓eqD, ↓ordD, ↓ordI, ↓startE, ↓endsOf, ↓ioOf, ↓newsOf, ↓Sl.r, ↓itemsOf, ↓slcD, ↓revD, ↓b1D, ↓b2D, ↓isNoneD, ↓noRefR, ↓noRef, ↓noRefs, ite_self, ↓isTy, ↓List.getElem?_cons_zero, ↓List.getElem?_cons_succ, ↓List.getElem?_nil, ↓Option.join_some, ↓Option.join_none, ↓Option.isSome_some, ↓Option.isSome_none, ↓List.set_cons_zero, ↓List.set_cons_succ, ↓List.replicate, ↓List.length_cons, ↓List.length_nil, ↓List.isEmpty_cons, ↓List.isEmpty_nil, ↓List.all_cons, ↓List.all_nil, ↓List.filterMap_cons, ↓List.filterMap_nil, ↓List.contains_cons, ↓List.contains_nil, ↓Bool.and_true, ↓Bool.true_and, ↓Bool.and_false, ↓Bool.false_and, ↓Bool.not_true, ↓Bool.not_false, ↓if_true, ↓sh_int, ↓sh_bool, ↓sh_none, ↓eqv_ii, ↓eqv_bb, ↓eqv_ss, ↓brn_true, ↓brn_false, brn_true, brn_false, ↓List.any_cons, ↓List.any_nil, ↓if_false, ↓ite_true, ↓ite_false, ↓true_and, ↓and_true, ↓Bool.false_eq_true, ↓reduceCtorEq, ↓decide_true, ↓decide_false, ↓List.map_cons, ↓List.map_nil, ↓Tg.slots, ↓List.nodup_cons, ↓List.nodup_nil, ↓List.not_mem_nil, ↓not_false_eq_true, ↓forall_const, ↓true_implies, ↓bI, Nat.reduceAdd, Nat.reduceSub, Nat.reduceEqDiff, Int.reduceLT, Int.reduceLE, Nat.reduceLT, Nat.reduceLeDiff, Int.reduceNeg, Nat.reduceBEq, ↓BEq.rfl, ↓beq_self_eq_true, ↓Bool.or_false, ↓Bool.or_true]
          exact next _ ⟨_, pen3, _, _, _, rfl, rfl, .inl ⟨_, rfl⟩, h2'.1, h2'.2.1, h2'.2.2, c3.mono (by omega)⟩
        · simp -dsimp only [↓wpS, ↓wpE, ↓wpEs, ↓wpEs', ↓wpCs, ↓wpI, ↓callW, ↓okArgs, ↓sigOk, ↓inouts, ↓lents, ↓peeks, ↓peek, ↓pk, ↓slot, ↓setOwn, ↓setC, ↓freeze, ↓isOwn, ↓isIo, ↓slC, ↓isLst, ↓asV, ↓asS, ↓asVs, ↓asSs, ↓isT, ↓R.still, ↓setMany, ↓bindT, ↓wipeE, ↓unwipe, ↓binD, ↓intBin, ↓cmpD, ↓eqD, ↓ordD, ↓ordI, ↓startE, ↓endsOf, ↓ioOf, ↓newsOf, ↓Sl.r, ↓itemsOf, ↓slcD, ↓revD, ↓b1D, ↓b2D, ↓isNoneD, ↓noRefR, ↓noRef, ↓noRefs, ite_self, ↓isTy, ↓List.getElem?_cons_zero, ↓List.getElem?_cons_succ, ↓List.getElem?_nil, ↓Option.join_some, ↓Option.join_none, ↓Option.isSome_some, ↓Option.isSome_none, ↓List.set_cons_zero, ↓List.set_cons_succ, ↓List.replicate, ↓List.length_cons, ↓List.length_nil, ↓List.isEmpty_cons, ↓List.isEmpty_nil, ↓List.all_cons, ↓List.all_nil, ↓List.filterMap_cons, ↓List.filterMap_nil, ↓List.contains_cons, ↓List.contains_nil, ↓Bool.and_true, ↓Bool.true_and, ↓Bool.and_false, ↓Bool.false_and, ↓Bool.not_true, ↓Bool.not_false, ↓if_true, ↓sh_int, ↓sh_bool, ↓sh_none, ↓eqv_ii, ↓eqv_bb, ↓eqv_ss, ↓brn_true, ↓brn_false, brn_true, brn_false, ↓List.any_cons, ↓List.any_nil, ↓if_false, ↓ite_true, ↓ite_false, ↓true_and, ↓and_true, ↓Bool.false_eq_true, ↓reduceCtorEq, ↓decide_true, ↓decide_false, ↓List.map_cons, ↓List.map_nil, ↓Tg.slots, ↓List.nodup_cons, ↓List.nodup_nil, ↓List.not_mem_nil, ↓not_false_eq_true, ↓forall_const, ↓true_implies, ↓bI, Nat.reduceAdd, Nat.reduceSub, Nat.reduceEqDiff, Int.reduceLT, Int.reduceLE, Nat.reduceLT, Nat.reduceLeDiff, Int.reduceNeg, Nat.reduceBEq, ↓BEq.rfl, ↓beq_self_eq_true, ↓Bool.or_false, ↓Bool.or_true]
          exact next _ ⟨_, pen3, _, _, _, rfl, rfl, .inl ⟨_, rfl⟩, by rw [List.length_reverse]; omega, fun z hz => hq z (List.mem_reverse.mp hz), by rw [bulk_rev]; omega, c3.mono (by omega)⟩
    · rintro e ⟨l', pen', s2, s3, s4, rfl, hs2, hr2, g1, g2, g3, g4⟩
      simp -dsimp only [↓wpS, ↓wpE, ↓wpEs, ↓wpEs', ↓wpCs, ↓wpI, ↓callW, ↓okArgs, ↓sigOk, ↓inouts, ↓lents, ↓peeks, ↓peek, ↓pk, ↓slot, ↓setOwn, ↓setC, ↓freeze, ↓isOwn, ↓isIo, ↓slC, ↓isLst, ↓asV, ↓asS, ↓asVs, ↓asSs, ↓isT, ↓R.still, ↓setMany, ↓bindT, ↓wipeE, ↓unwipe, ↓binD, ↓intBin, ↓cmpD, ↓eqD, ↓ordD, ↓ordI, ↓startE, ↓endsOf, ↓ioOf, ↓newsOf, ↓Sl.r, ↓itemsOf, ↓slcD, ↓revD, ↓b1D, ↓b2D, ↓isNoneD, ↓noRefR, ↓noRef, ↓noRefs, ite_self, ↓isTy, ↓List.getElem?_cons_zero, ↓List.getElem?_cons_succ, ↓List.getElem?_nil, ↓Option.join_some, ↓Option.join_none, ↓Option.isSome_some, ↓Option.isSome_none, ↓List.set_cons_zero, ↓List.set_cons_succ, ↓List.replicate, ↓List.length_cons, ↓List.length_nil, ↓List.isEmpty_cons, ↓List.isEmpty_nil, ↓List.all_cons, ↓List.all_nil, ↓List.filterMap_cons, ↓List.filterMap_nil, ↓List.contains_cons, ↓List.contains_nil, ↓Bool.and_true, ↓Bool.true_and, ↓Bool.and_false, ↓Bool.false_and, ↓Bool.not_true, ↓Bool.not_false, ↓if_true, ↓sh_int, ↓sh_bool, ↓sh_none, ↓eqv_ii, ↓eqv_bb, ↓eqv_ss, ↓brn_true, ↓brn_false, brn_true, brn_false, ↓List.any_cons, ↓List.any_nil, ↓if_false, ↓ite_true, ↓ite_false, ↓true_and, ↓and_true, ↓Bool.false_eq_true, ↓reduceCtorEq, ↓decide_true, ↓decide_false, ↓List.map_cons, ↓List.map_nil, ↓Tg.slots, ↓List.nodup_cons, ↓List.nodup_nil, ↓List.not_mem_nil, ↓not_false_eq_true, ↓forall_const, ↓true_implies, ↓bI, Nat.reduceAdd, Nat.reduceSub, Nat.reduceEqDiff, Int.reduceLT, Int.reduceLE, Nat.reduceLT, Nat.reduceLeDiff, Int.reduceNeg, Nat.reduceBEq, ↓BEq.rfl, ↓beq_self_eq_true, ↓Bool.or_false, ↓Bool.or_true]
      refine ⟨_, rfl, ?_⟩
      rw [h]
      refine ⟨_, pen', _, rfl, g4, by omega, by omega, by omega, fun r pen4 a1 a2 c4 _ => ?_⟩
      have ft : ∀ {pen5}, Pen (t + 3 + 10 * (j + 1) + 1) pen5 → Q (.val (.tuple l')) [pen5] := fun hp5 => kk _ _ (gd_tuple.mpr ⟨by omega, g2⟩) (by show PyData.bulkAll l' ≤ _; omega) (.inl ⟨_, rfl⟩) (hp5.mono (by omega))
      have fl : ∀ {pen5}, Pen (t + 3 + 10 * (j + 1) + 1) pen5 → Q s2 [pen5] := fun hp5 => kk _ _ (by rw [hs2]; exact gd_list.mpr ⟨by omega, g2⟩) (by rw [hs2]; show PyData.bulkAll l' ≤ _; omega) hr2 (hp5.mono (by omega))
      rcases hr2 with ⟨d, rfl⟩ | ⟨l2, rfl⟩
      · have hd : d = .list l' := hs2
        subst hd
        simp -dsimp only [↓wpS, ↓wpE, ↓wpEs, ↓wpEs', ↓wpCs, ↓wpI, ↓callW, ↓okArgs, ↓sigOk, ↓inouts, ↓lents, ↓peeks, ↓peek, ↓pk, ↓slot, ↓setOwn, ↓setC, ↓freeze, ↓isOwn, ↓isIo, ↓slC, ↓isLst, ↓asV, ↓asS, ↓asVs, ↓asSs, ↓isT, ↓R.still, ↓setMany, ↓bindT, ↓wipeE, ↓unwipe, ↓binD, ↓intBin, ↓cmpD, ↓eqD, ↓ordD, ↓ordI, ↓startE, ↓endsOf, ↓ioOf, ↓newsOf, ↓Sl.r, ↓itemsOf, ↓slcD, ↓revD, ↓b1D, ↓b2D, ↓isNoneD, ↓noRefR, ↓noRef, ↓noRefs, ite_self, ↓isTy, ↓List.getElem?_cons_zero, ↓List.getElem?_cons_succ, ↓List.getElem?_nil, ↓Option.join_some, ↓Option.join_none, ↓Option.isSome_some, ↓Option.isSome_none, ↓List.set_cons_zero, ↓List.set_cons_succ, ↓List.replicate, ↓List.length_cons, ↓List.length_nil, ↓List.isEmpty_cons, ↓List.isEmpty_nil, ↓List.all_cons, ↓List.all_nil, ↓List.filterMap_cons, ↓List.filterMap_nil, ↓List.contains_cons, ↓List.contains_nil, ↓Bool.and_true, ↓Bool.true_and, ↓Bool.and_false, ↓Bool.false_and, ↓Bool.not_true, ↓Bool.not_false, ↓if_true, ↓sh_int, ↓sh_bool, ↓sh_none, ↓eqv_ii, ↓eqv_bb, ↓eqv_ss, ↓brn_true, ↓brn_false, brn_true, brn_false, ↓List.any_cons, ↓List.any_nil, ↓if_false, ↓ite_true, ↓ite_false, ↓true_and, ↓and_true, ↓Bool.false_eq_true, ↓reduceCtorEq, ↓decide_true, ↓decide_false, ↓List.map_cons, ↓List.map_nil, ↓Tg.slots, ↓List.nodup_cons, ↓List.nodup_nil, ↓List.not_mem_nil, ↓not_false_eq_true, ↓forall_const, ↓true_implies, ↓bI, Nat.reduceAdd, Nat.reduceSub, Nat.reduceEqDiff, Int.reduceLT, Int.reduceLE, Nat.reduceLT, Nat.reduceLeDiff, Int.reduceNeg, Nat.reduceBEq, ↓BEq.rfl, ↓beq_self_eq_true, ↓Bool.or_false, ↓Bool.or_true]
        refine brn_of (fun hb => ?_) (fun hb => ?_)
        · simp -dsimp only [↓wpS, ↓wpE, ↓wpEs, ↓wpEs', ↓wpCs, ↓wpI, ↓callW, ↓okArgs, ↓sigOk, ↓inouts, ↓lents, ↓peeks, ↓peek, ↓pk, ↓slot, ↓setOwn, ↓setC, ↓freeze, ↓isOwn, ↓isIo, ↓slC, ↓isLst, ↓asV, ↓asS, ↓asVs, ↓asSs, ↓isT, ↓R.still, ↓setMany, ↓bindT, ↓wipeE, ↓unwipe, ↓binD, ↓intBin, ↓cmpD, ↓eqD, ↓ordD, ↓ordI, ↓startE, ↓endsOf, ↓ioOf, ↓newsOf, ↓Sl.r, ↓itemsOf, ↓slcD, ↓revD, ↓b1D, ↓b2D, ↓isNoneD, ↓noRefR, ↓noRef, ↓noRefs, ite_self, ↓isTy, ↓List.getElem?_cons_zero, ↓List.getElem?_cons_succ, ↓List.getElem?_nil, ↓Option.join_some, ↓Option.join_none, ↓Option.isSome_some, ↓Option.isSome_none, ↓List.set_cons_zero, ↓List.set_cons_succ, ↓List.replicate, ↓List.length_cons, ↓List.length_nil, ↓List.isEmpty_cons, ↓List.isEmpty_nil, ↓List.all_cons, ↓List.all_nil, ↓List.filterMap_cons, ↓List.filterMap_nil, ↓List.contains_cons, ↓List.contains_nil, ↓Bool.and_true, ↓Bool.true_and, ↓Bool.and_false, ↓Bool.false_and, ↓Bool.not_true, ↓Bool.not_false, ↓if_true, ↓sh_int, ↓sh_bool, ↓sh_none, ↓eqv_ii, ↓eqv_bb, ↓eqv_ss, ↓brn_true, ↓brn_false, brn_true, brn_false, ↓List.any_cons, ↓List.any_nil, ↓if_false, ↓ite_true, ↓ite_false, ↓true_and, ↓and_true, ↓Bool.false_eq_true, ↓reduceCtorEq, ↓decide_true, ↓decide_false, ↓List.map_cons, ↓List.map_nil, ↓Tg.slots, ↓List.nodup_cons, ↓List.nodup_nil, ↓List.not_mem_nil, ↓not_false_eq_true, ↓forall_const, ↓true_implies, ↓bI, Nat.reduceAdd, Nat.reduceSub, Nat.reduceEqDiff, Int.reduceLT, Int.reduceLE, Nat.reduceLT, Nat.reduceLeDiff, Int.reduceNeg, Nat.reduceBEq, ↓BEq.rfl, ↓beq_self_eq_true, ↓Bool.or_false, ↓Bool.or_true]
          exact ft c4
        · simp -dsimp only [↓wpS, ↓wpE, ↓wpEs, ↓wpEs', ↓wpCs, ↓wpI, ↓callW, ↓okArgs, ↓sigOk, ↓inouts, ↓lents, ↓peeks, ↓peek, ↓pk, ↓slot, ↓setOwn, ↓setC, ↓freeze, ↓isOwn, ↓isIo, ↓slC, ↓isLst, ↓asV, ↓asS, ↓asVs, ↓asSs, ↓isT, ↓R.still, ↓setMany, ↓bindT, ↓wipeE, ↓unwipe, ↓binD, ↓intBin, ↓cmpD, ↓eqD, ↓ordD, ↓ordI, ↓startE, ↓endsOf, ↓ioOf, ↓newsOf, ↓Sl.r, ↓itemsOf, ↓slcD, ↓revD, ↓b1D, ↓b2D, ↓isNoneD, ↓noRefR, ↓noRef, ↓noRefs, ite_self, ↓isTy, ↓List.getElem?_cons_zero, ↓List.getElem?_cons_succ, ↓List.getElem?_nil, ↓Option.join_some, ↓Option.join_none, ↓Option.isSome_some, ↓Option.isSome_none, ↓List.set_cons_zero, ↓List.set_cons_succ, ↓List.replicate, ↓List.length_cons, ↓List.length_nil, ↓List.isEmpty_cons, ↓List.isEmpty_nil, ↓List.all_cons, ↓List.all_nil, ↓List.filterMap_cons, ↓List.filterMap_nil, ↓List.contains_cons, ↓List.contains_nil, ↓Bool.and_true, ↓Bool.true_and, ↓Bool.and_false, ↓Bool.false_and, ↓Bool.not_true, ↓Bool.not_false, ↓if_true, ↓sh_int, ↓sh_bool, ↓sh_none, ↓eqv_ii, ↓eqv_bb, ↓eqv_ss, ↓brn_true, ↓brn_false, brn_true, brn_false, ↓List.any_cons, ↓List.any_nil, ↓if_false, ↓ite_true, ↓ite_false, ↓true_and, ↓and_true, ↓Bool.false_eq_true, ↓reduceCtorEq, ↓decide_true, ↓decide_false, ↓List.map_cons, ↓List.map_nil, ↓Tg.slots, ↓List.nodup_cons, ↓List.nodup_nil, ↓List.not_mem_nil, ↓not_false_eq_true, ↓forall_const, ↓true_implies, ↓bI, Nat.reduceAdd, Nat.reduceSub, Nat.reduceEqDiff, Int.reduceLT, Int.reduceLE, Nat.reduceLT, Nat.reduceLeDiff, Int.reduceNeg, Nat.reduceBEq, ↓BEq.rfl, ↓beq_self_eq_true, ↓Bool.or_false, ↓Bool.or_true]
          exact fl c4
      · have hd : PyData.list l2 = .list l' := hs2
        cases hd
        simp -dsimp only [↓wpS, ↓wpE, ↓wpEs, ↓wpEs', ↓wpCs, ↓wpI, ↓callW, ↓okArgs, ↓sigOk, ↓inouts, ↓lents, ↓peeks, ↓peek, ↓pk, ↓slot, ↓setOwn, ↓setC, ↓freeze, ↓isOwn, ↓isIo, ↓slC, ↓isLst, ↓asV, ↓asS, ↓asVs, ↓asSs, ↓isT, ↓R.still, ↓setMany, ↓bindT, ↓wipeE, ↓unwipe, ↓binD, ↓intBin, ↓cmpD, ↓eqD, ↓ordD, ↓ordI, ↓startE, ↓endsOf, ↓ioOf, ↓newsOf, ↓Sl.r, ↓itemsOf, ↓slcD, ↓revD, ↓b1D, ↓b2D, ↓isNoneD, ↓noRefR, ↓noRef, ↓noRefs, ite_self, ↓isTy, ↓List.getElem?_cons_zero, ↓List.getElem?_cons_succ, ↓List.getElem?_nil, ↓Option.join_some, ↓Option.join_none, ↓Option.isSome_some, ↓Option.isSome_none, ↓List.set_cons_zero, ↓List.set_cons_succ, ↓List.replicate, ↓List.length_cons, ↓List.length_nil, ↓List.isEmpty_cons, ↓List.isEmpty_nil, ↓List.all_cons, ↓List.all_nil, ↓List.filterMap_cons, ↓List.filterMap_nil, ↓List.contains_cons, ↓List.contains_nil, ↓Bool.and_true, ↓Bool.true_and, ↓Bool.and_false, ↓Bool.false_and, ↓Bool.not_true, ↓Bool.not_false, ↓if_true, ↓sh_int, ↓sh_bool, ↓sh_none, ↓eqv_ii, ↓eqv_bb, ↓eqv_ss, ↓brn_true, ↓brn_false, brn_true, brn_false, ↓List.any_cons, ↓List.any_nil, ↓if_false, ↓ite_true, ↓ite_false, ↓true_and, ↓and_true, ↓Bool.false_eq_true, ↓reduceCtorEq, ↓decide_true, ↓decide_false, ↓List.map_cons, ↓List.map_nil, ↓Tg.slots, ↓List.nodup_cons, ↓List.nodup_nil, ↓List.not_mem_nil, ↓not_false_eq_true, ↓forall_const, ↓true_implies, ↓bI, Nat.reduceAdd, Nat.reduceSub, Nat.reduceEqDiff, Int.reduceLT, Int.reduceLE, Nat.reduceLT, Nat.reduceLeDiff, Int.reduceNeg, Nat.reduceBEq, ↓BEq.rfl, ↓beq_self_eq_true, ↓Bool.or_false, ↓Bool.or_true]
        refine brn_of (fun hb => ?_) (fun hb => ?_)
        · simp -dsimp only [↓wpS, ↓wpE, ↓wpEs, ↓wpEs', ↓wpCs, ↓wpI, ↓callW, ↓okArgs, ↓sigOk, ↓inouts, ↓lents, ↓peeks, ↓peek, ↓pk, ↓slot, ↓setOwn, ↓setC, ↓freeze, ↓isOwn, ↓isIo, ↓slC, ↓isLst, ↓asV, ↓asS, ↓asVs, ↓asSs, ↓isT, ↓R.still, ↓setMany, ↓bindT, ↓wipeE, ↓unwipe, ↓binD, ↓intBin, ↓cmpD, ↓eqD, ↓ordD, ↓ordI, ↓startE, ↓endsOf, ↓ioOf, ↓newsOf, ↓Sl.r, ↓itemsOf, ↓slcD, ↓revD, ↓b1D, ↓b2D, ↓isNoneD, ↓noRefR, ↓noRef, ↓noRefs, ite_self, ↓isTy, ↓List.getElem?_cons_zero, ↓List.getElem?_cons_succ, ↓List.getElem?_nil, ↓Option.join_some, ↓Option.join_none, ↓Option.isSome_some, ↓Option.isSome_none, ↓List.set_cons_zero, ↓List.set_cons_succ, ↓List.replicate, ↓List.length_cons, ↓List.length_nil, ↓List.isEmpty_cons, ↓List.isEmpty_nil, ↓List.all_cons, ↓List.all_nil, ↓List.filterMap_cons, ↓List.filterMap_nil, ↓List.contains_cons, ↓List.contains_nil, ↓Bool.and_true, ↓Bool.true_and, ↓Bool.and_false, ↓Bool.false_and, ↓Bool.not_true, ↓Bool.not_false, ↓if_true, ↓sh_int, ↓sh_bool, ↓sh_none, ↓eqv_ii, ↓eqv_bb, ↓eqv_ss, ↓brn_true, ↓brn_false, brn_true, brn_false, ↓List.any_cons, ↓List.any_nil, ↓if_false, ↓ite_true, ↓ite_false, ↓true_and, ↓and_true, ↓Bool.false_eq_true, ↓reduceCtorEq, ↓decide_true, ↓decide_false, ↓List.map_cons, ↓List.map_nil, ↓Tg.slots, ↓List.nodup_cons, ↓List.nodup_nil, ↓List.not_mem_nil, ↓not_false_eq_true, ↓forall_const, ↓true_implies, ↓bI, Nat.reduceAdd, Nat.reduceSub, Nat.reduceEqDiff, Int.reduceLT, Int.reduceLE, Nat.reduceLT, Nat.reduceLeDiff, Int.reduceNeg, Nat.reduceBEq, ↓BEq.rfl, ↓beq_self_eq_true, ↓Bool.or_false, ↓Bool.or_true]
          exact ft c4
        · simp -dsimp only [↓wpS, ↓wpE, ↓wpEs, ↓wpEs', ↓wpCs, ↓wpI, ↓callW, ↓okArgs, ↓sigOk, ↓inouts, ↓lents, ↓peeks, ↓peek, ↓pk, ↓slot, ↓setOwn, ↓setC, ↓freeze, ↓isOwn, ↓isIo, ↓slC, ↓isLst, ↓asV, ↓asS, ↓asVs, ↓asSs, ↓isT, ↓R.still, ↓setMany, ↓bindT, ↓wipeE, ↓unwipe, ↓binD, ↓intBin, ↓cmpD, ↓eqD, ↓ordD, ↓ordI, ↓startE, ↓endsOf, ↓ioOf, ↓newsOf, ↓Sl.r, ↓itemsOf, ↓slcD, ↓revD, ↓b1D, ↓b2D, ↓isNoneD, ↓noRefR, ↓noRef, ↓noRefs, ite_self, ↓isTy, ↓List.getElem?_cons_zero, ↓List.getElem?_cons_succ, ↓List.getElem?_nil, ↓Option.join_some, ↓Option.join_none, ↓Option.isSome_some, ↓Option.isSome_none, ↓List.set_cons_zero, ↓List.set_cons_succ, ↓List.replicate, ↓List.length_cons, ↓List.length_nil, ↓List.isEmpty_cons, ↓List.isEmpty_nil, ↓List.all_cons, ↓List.all_nil, ↓List.filterMap_cons, ↓List.filterMap_nil, ↓List.contains_cons, ↓List.contains_nil, ↓Bool.and_true, ↓Bool.true_and, ↓Bool.and_false, ↓Bool.false_and, ↓Bool.not_true, ↓Bool.not_false, ↓if_true, ↓sh_int, ↓sh_bool, ↓sh_none, ↓eqv_ii, ↓eqv_bb, ↓eqv_ss, ↓brn_true, ↓brn_false, brn_true, brn_false, ↓List.any_cons, ↓List.any_nil, ↓if_false, ↓ite_true, ↓ite_false, ↓true_and, ↓and_true, ↓Bool.false_eq_true, ↓reduceCtorEq, ↓decide_true, ↓decide_false, ↓List.map_cons, ↓List.map_nil, ↓Tg.slots, ↓List.nodup_cons, ↓List.nodup_nil, ↓List.not_mem_nil, ↓not_false_eq_true, ↓forall_const, ↓true_implies, ↓bI, Nat.reduceAdd, Nat.reduceSub, Nat.reduceEqDiff, Int.reduceLT, Int.reduceLE, Nat.reduceLT, Nat.reduceLeDiff, Int.reduceNeg, Nat.reduceBEq, ↓BEq.rfl, ↓beq_self_eq_true, ↓Bool.or_false, ↓Bool.or_true]
          exact fl c4
end Co

set_option linter.all false
namespace Co
open PySem
theorem eqv_nil {ns : List Int} : PyData.eqv (.list (ns.map .int)) (.list []) = decide (ns = []) := by
  cases ns <;> simp [PyData.eqv, PyData.eqvAll]
theorem eqv_nilT {ns : List Int} : PyData.eqv (.tuple (ns.map .int)) (.tuple []) = decide (ns = []) := by
  cases ns <;> simp [PyData.eqv, PyData.eqvAll]
theorem eqvAll_ints : ∀ {a b : List Int}, PyData.eqvAll (a.map .int) (b.map .int) = decide (a = b)
  | [], [] => rfl
  | [], y :: b => by simp [PyData.eqvAll]
  | x :: a, [] => by simp [PyData.eqvAll]
  | x :: a, y :: b => by
    simp only [List.map_cons, PyData.eqvAll, eqvAll_ints (a := a) (b := b), eqv_ii]
    by_cases h : x = y <;> simp [h]
theorem eqv_ints {a b : List Int} : PyData.eqv (.list (a.map .int)) (.list (b.map .int)) = decide (a = b) := by
  simp only [PyData.eqv, eqvAll_ints]
theorem sh_intsL {l : List Int} : SeqAt.shaped (.list (l.map .int)) = true := (ok_list (k := 0) fun x hx => by
  obtain ⟨_, _, rfl⟩ := List.mem_map.mp hx
  exact ok_int).sh (by decide)
theorem sh_intsT {l : List Int} : SeqAt.shaped (.tuple (l.map .int)) = true := (ok_tuple (k := 0) fun x hx => by
  obtain ⟨_, _, rfl⟩ := List.mem_map.mp hx
  exact ok_int).sh (by decide)
/-! ### in a drawn order -/
theorem er_map {α β : Type} (f : α → β) : ∀ (l : List α) (i : Nat), (l.map f).eraseIdx i = (l.eraseIdx i).map f
  | [], i => by simp
  | x :: l, 0 => rfl
  | x :: l, i + 1 => by simp [er_map f l i]
theorem er_perm {α : Type} : ∀ (l : List α) (i : Nat) (h : i < l.length), (l[i] :: l.eraseIdx i).Perm l
  | [], i, h => by simp at h
  | x :: l, 0, h => List.Perm.refl _
  | x :: l, i + 1, h => by
    have := er_perm l i (by simpa using h)
    exact (List.Perm.swap x _ _).trans (this.cons x)
def shufSp : Spec := fun ds Q => ∃ t pen, ∃ ns : List Int, ds = [pen, .tuple (ns.map .int)] ∧ Pen t pen ∧ t < 800000 ∧ ns.length ≤ 1000 ∧ ∀ (ns' : List Int) pen', ns'.Perm ns → Pen (t + ns.length) pen' → Q (.val (.tuple (ns'.map .int))) [pen']
theorem shuffled_ok (Φ : Tbl) (h : Φ "_law_take" = takeSp) : Impl Φ [true, false] 4 f_law_shuffled shufSp := by
  rintro ds Q ⟨t, pen, ns, rfl, hp, ht, hl, k⟩ _
  unfold f_law_shuffled
  simp -dsimp only [↓wpS, ↓wpE, ↓wpEs, ↓wpEs', ↓wpCs, ↓wpI, ↓callW, ↓okArgs, ↓sigOk, ↓inouts, ↓lents, ↓peeks, ↓peek, ↓pk, ↓slot, ↓setOwn, ↓setC, ↓freeze, ↓isOwn, ↓isIo, ↓slC, ↓isLst, ↓asV, ↓asS, ↓asVs, ↓asSs, ↓isT, ↓R.still, ↓setMany, ↓bindT, ↓wipeE, ↓unwipe, ↓binD, ↓intBin, ↓cmpD, ↓eqD, ↓ordD, ↓ordI, ↓startE, ↓endsOf, ↓ioOf, ↓newsOf, ↓Sl.r, ↓itemsOf, ↓slcD, ↓revD, ↓b1D, ↓b2D, ↓isNoneD, ↓noRefR, ↓noRef, ↓noRefs, ite_self, ↓isTy, ↓List.getElem?_cons_zero, ↓List.getElem?_cons_succ, ↓List.getElem?_nil, ↓Option.join_some, ↓Option.join_none, ↓Option.isSome_some, ↓Option.isSome_none, ↓List.set_cons_zero, ↓List.set_cons_succ, ↓List.replicate, ↓List.length_cons, ↓List.length_nil, ↓List.isEmpty_cons, ↓List.isEmpty_nil, ↓List.all_cons, ↓List.all_nil, ↓List.filterMap_cons, ↓List.filterMap_nil, ↓List.contains_cons, ↓List.contains_nil, ↓Bool.and_true, ↓Bool.true_and, ↓Bool.and_false, ↓Bool.false_and, ↓Bool.not_true, ↓Bool.not_false, ↓if_true, ↓sh_int, ↓sh_bool, ↓sh_none, ↓eqv_ii, ↓eqv_bb, ↓eqv_ss, ↓brn_true, ↓brn_false, brn_true, brn_false, ↓List.any_cons, ↓List.any_nil, ↓if_false, ↓ite_true, ↓ite_false, ↓true_and, ↓and_true, ↓Bool.false_eq_true, ↓reduceCtorEq, ↓decide_true, ↓decide_false, ↓List.map_cons, ↓List.map_nil, ↓Tg.slots, ↓List.nodup_cons, ↓List.nodup_nil, ↓List.not_mem_nil, ↓not_false_eq_true, ↓forall_const, ↓true_implies, ↓bI, Nat.reduceAdd, Nat.reduceSub, Nat.reduceEqDiff, Int.reduceLT, Int.reduceLE, Nat.reduceLT, Nat.reduceLeDiff, Int.reduceNeg, Nat.reduceBEq, ↓BEq.rfl, ↓beq_self_eq_true, ↓Bool.or_false, ↓Bool.or_true]
  refine ⟨fun m e => ∃ (left found : List Int) (pen' : PyData), e = [some (.io pen'), some (.val (.tuple (ns.map .int))), some (.own (.list (left.map .int))), some (.own (.list (found.map .int)))] ∧ left.length = m ∧ (left ++ found).Perm ns ∧ Pen (t + found.length) pen',
    ⟨_, ns, [], pen, rfl, rfl, by simp, hp⟩, ?_⟩
  rintro m e ⟨left, found, pen', rfl, hm, hpm, hp'⟩
  have hlen := hpm.length_eq
  rw [List.length_append] at hlen
  unfold f_law_shuffled_t1 f_law_shuffled_b1
  simp -dsimp only [↓wpS, ↓wpE, ↓wpEs, ↓wpEs', ↓wpCs, ↓wpI, ↓callW, ↓okArgs, ↓sigOk, ↓inouts, ↓lents, ↓peeks, ↓peek, ↓pk, ↓slot, ↓setOwn, ↓setC, ↓freeze, ↓isOwn, ↓isIo, ↓slC, ↓isLst, ↓asV, ↓asS, ↓asVs, ↓asSs, ↓isT, ↓R.still, ↓setMany, ↓bindT, ↓wipeE, ↓unwipe, ↓binD, ↓intBin, ↓cmpD, ↓eqD, ↓ordD, ↓ordI, ↓startE, ↓endsOf, ↓ioOf, ↓newsOf, ↓Sl.r, ↓itemsOf, ↓slcD, ↓revD, ↓b1D, ↓b2D, ↓isNoneD, ↓noRefR, ↓noRef, ↓noRefs, ite_self, ↓isTy, ↓List.getElem?_cons_zero, ↓List.getElem?_cons_succ, ↓List.getElem?_nil, ↓Option.join_some, ↓Option.join_none, ↓Option.isSome_some, ↓Option.isSome_none, ↓List.set_cons_zero, ↓List.set_cons_succ, ↓List.replicate, ↓List.length_cons, ↓List.length_nil, ↓List.isEmpty_cons, ↓List.isEmpty_nil, ↓List.all_cons, ↓List.all_nil, ↓List.filterMap_cons, ↓List.filterMap_nil, ↓List.contains_cons, ↓List.contains_nil, ↓Bool.and_true, ↓Bool.true_and, ↓Bool.and_false, ↓Bool.false_and, ↓Bool.not_true, ↓Bool.not_false, ↓if_true, ↓sh_int, ↓sh_bool, ↓sh_none, ↓eqv_ii, ↓eqv_bb, ↓eqv_ss, ↓brn_true, ↓brn_false, brn_true, brn_false, ↓List.any_cons, ↓List.any_nil, ↓if_false, ↓ite_true, ↓ite_false, ↓true_and, ↓and_true, ↓Bool.false_eq_true, ↓reduceCtorEq, ↓decide_true, ↓decide_false, ↓List.map_cons, ↓List.map_nil, ↓Tg.slots, ↓List.nodup_cons, ↓List.nodup_nil, ↓List.not_mem_nil, ↓not_false_eq_true, ↓forall_const, ↓true_implies, ↓bI, Nat.reduceAdd, Nat.reduceSub, Nat.reduceEqDiff, Int.reduceLT, Int.reduceLE, Nat.reduceLT, Nat.reduceLeDiff, Int.reduceNeg, Nat.reduceBEq, ↓BEq.rfl, ↓beq_self_eq_true, ↓Bool.or_false, ↓Bool.or_true]
  refine ⟨sh_intsL, by decide, ?_⟩
  rw [eqv_nil]
  refine brn_of (fun hb => ?_) (fun hb => ?_)
  · have hne : left ≠ [] := by simpa using hb
    have h0 : 0 < left.length := List.length_pos_iff.mpr hne
    simp -dsimp only [↓wpS, ↓wpE, ↓wpEs, ↓wpEs', ↓wpCs, ↓wpI, ↓callW, ↓okArgs, ↓sigOk, ↓inouts, ↓lents, ↓peeks, ↓peek, ↓pk, ↓slot, ↓setOwn, ↓setC, ↓freeze, ↓isOwn, ↓isIo, ↓slC, ↓isLst, ↓asV, ↓asS, ↓asVs, ↓asSs, ↓isT, ↓R.still, ↓setMany, ↓bindT, ↓wipeE, ↓unwipe, ↓binD, ↓intBin, ↓cmpD, ↓eqD, ↓ordD, ↓ordI, ↓startE, ↓endsOf, ↓ioOf, ↓newsOf, ↓Sl.r, ↓itemsOf, ↓slcD, ↓revD, ↓b1D, ↓b2D, ↓isNoneD, ↓noRefR, ↓noRef, ↓noRefs, ite_self, ↓isTy, ↓List.getElem?_cons_zero, ↓List.getElem?_cons_succ, ↓List.getElem?_nil, ↓Option.join_some, ↓Option.join_none, ↓Option.isSome_some, ↓Option.isSome_none, ↓List.set_cons_zero, ↓List.set_cons_succ, ↓List.replicate, ↓List.length_cons, ↓List.length_nil, ↓List.isEmpty_cons, ↓List.isEmpty_nil, ↓List.all_cons, ↓List.all_nil, ↓List.filterMap_cons, ↓List.filterMap_nil, ↓List.contains_cons, ↓List.contains_nil, ↓Bool.and_true, ↓Bool.true_and, ↓Bool.and_false, ↓Bool.false_and, ↓Bool.not_true, ↓Bool.not_false, ↓if_true, ↓sh_int, ↓sh_bool, ↓sh_none, ↓eqv_ii, ↓eqv_bb, ↓eqv_ss, ↓brn_true, ↓brn_false, brn_true, brn_false, ↓List.any_cons, ↓List.any_nil, ↓if_false, ↓ite_true, ↓ite_false, ↓true_and, ↓and_true, ↓Bool.false_eq_true, ↓reduceCtorEq, ↓decide_true, ↓decide_false, ↓List.map_cons, ↓List.map_nil, ↓Tg.slots, ↓List.nodup_cons, ↓List.nodup_nil, ↓List.not_mem_nil, ↓not_false_eq_true, ↓forall_const, ↓true_implies, ↓bI, Nat.reduceAdd, Nat.reduceSub, Nat.reduceEqDiff, Int.reduceLT, Int.reduceLE, Nat.reduceLT, Nat.reduceLeDiff, Int.reduceNeg, Nat.reduceBEq, ↓BEq.rfl, ↓beq_self_eq_true, ↓Bool.or_false, ↓Bool.or_true]
    refine ⟨_, rfl, ?_⟩
    rw [h]
    refine ⟨_, pen', _, rfl, hp', by omega, by simpa using h0, by simp; omega, fun r pen2 a1 a2 c1 _ => ?_⟩
    rw [List.length_map] at a2
    simp -dsimp only [↓wpS, ↓wpE, ↓wpEs, ↓wpEs', ↓wpCs, ↓wpI, ↓callW, ↓okArgs, ↓sigOk, ↓inouts, ↓lents, ↓peeks, ↓peek, ↓pk, ↓slot, ↓setOwn, ↓setC, ↓freeze, ↓isOwn, ↓isIo, ↓slC, ↓isLst, ↓asV, ↓asS, ↓asVs, ↓asSs, ↓isT, ↓R.still, ↓setMany, ↓bindT, ↓wipeE, ↓unwipe, ↓binD, ↓intBin, ↓cmpD, ↓eqD, ↓ordD, ↓ordI, ↓startE, ↓endsOf, ↓ioOf, ↓newsOf, ↓Sl.r, ↓itemsOf, ↓slcD, ↓revD, ↓b1D, ↓b2D, ↓isNoneD, ↓noRefR, ↓noRef, ↓noRefs, ite_self, ↓isTy, ↓List.getElem?_cons_zero, ↓List.getElem?_cons_succ, ↓List.getElem?_nil, ↓Option.join_some, ↓Option.join_none, ↓Option.isSome_some, ↓Option.isSome_none, ↓List.set_cons_zero, ↓List.set_cons_succ, ↓List.replicate, ↓List.length_cons, ↓List.length_nil, ↓List.isEmpty_cons, ↓List.isEmpty_nil, ↓List.all_cons, ↓List.all_nil, ↓List.filterMap_cons, ↓List.filterMap_nil, ↓List.contains_cons, ↓List.contains_nil, ↓Bool.and_true, ↓Bool.true_and, ↓Bool.and_false, ↓Bool.false_and, ↓Bool.not_true, ↓Bool.not_false, ↓if_true, ↓sh_int, ↓sh_bool, ↓sh_none, ↓eqv_ii, ↓eqv_bb, ↓eqv_ss, ↓brn_true, ↓brn_false, brn_true, brn_false, ↓List.any_cons, ↓List.any_nil, ↓if_false, ↓ite_true, ↓ite_false, ↓true_and, ↓and_true, ↓Bool.false_eq_true, ↓reduceCtorEq, ↓decide_true, ↓decide_false, ↓List.map_cons, ↓List.map_nil, ↓Tg.slots, ↓List.nodup_cons, ↓List.nodup_nil, ↓List.not_mem_nil, ↓not_false_eq_true, ↓forall_const, ↓true_implies, ↓bI, Nat.reduceAdd, Nat.reduceSub, Nat.reduceEqDiff, Int.reduceLT, Int.reduceLE, Nat.reduceLT, Nat.reduceLeDiff, Int.reduceNeg, Nat.reduceBEq, ↓BEq.rfl, ↓beq_self_eq_true, ↓Bool.or_false, ↓Bool.or_true]
    have hr : r.toNat < left.length := by omega
    refine ⟨by omega, by omega, ⟨r.toNat, .int left[r.toNat], by rw [List.length_map]; exact ix_ok a1 a2, by simp [hr], ?_⟩⟩
    simp -dsimp only [↓wpS, ↓wpE, ↓wpEs, ↓wpEs', ↓wpCs, ↓wpI, ↓callW, ↓okArgs, ↓sigOk, ↓inouts, ↓lents, ↓peeks, ↓peek, ↓pk, ↓slot, ↓setOwn, ↓setC, ↓freeze, ↓isOwn, ↓isIo, ↓slC, ↓isLst, ↓asV, ↓asS, ↓asVs, ↓asSs, ↓isT, ↓R.still, ↓setMany, ↓bindT, ↓wipeE, ↓unwipe, ↓binD, ↓intBin, ↓cmpD, ↓eqD, ↓ordD, ↓ordI, ↓startE, ↓endsOf, ↓ioOf, ↓newsOf, ↓Sl.r, ↓itemsOf, ↓slcD, ↓revD, ↓b1D, ↓b2D, ↓isNoneD, ↓noRefR, ↓noRef, ↓noRefs, ite_self, ↓isTy, ↓List.getElem?_cons_zero, ↓List.getElem?_cons_succ, ↓List.getElem?_nil, ↓Option.join_some, ↓Option.join_none, ↓Option.isSome_some, ↓Option.isSome_none, ↓List.set_cons_zero, ↓List.set_cons_succ, ↓List.replicate, ↓List.length_cons, ↓List.length_nil, ↓List.isEmpty_cons, ↓List.isEmpty_nil, ↓List.all_cons, ↓List.all_nil, ↓List.filterMap_cons, ↓List.filterMap_nil, ↓List.contains_cons, ↓List.contains_nil, ↓Bool.and_true, ↓Bool.true_and, ↓Bool.and_false, ↓Bool.false_and, ↓Bool.not_true, ↓Bool.not_false, ↓if_true, ↓sh_int, ↓sh_bool, ↓sh_none, ↓eqv_ii, ↓eqv_bb, ↓eqv_ss, ↓brn_true, ↓brn_false, brn_true, brn_false, ↓List.any_cons, ↓List.any_nil, ↓if_false, ↓ite_true, ↓ite_false, ↓true_and, ↓and_true, ↓Bool.false_eq_true, ↓reduceCtorEq, ↓decide_true, ↓decide_false, ↓List.map_cons, ↓List.map_nil, ↓Tg.slots, ↓List.nodup_cons, ↓List.nodup_nil, ↓List.not_mem_nil, ↓not_false_eq_true, ↓forall_const, ↓true_implies, ↓bI, Nat.reduceAdd, Nat.reduceSub, Nat.reduceEqDiff, Int.reduceLT, Int.reduceLE, Nat.reduceLT, Nat.reduceLeDiff, Int.reduceNeg, Nat.reduceBEq, ↓BEq.rfl, ↓beq_self_eq_true, ↓Bool.or_false, ↓Bool.or_true]
    refine ⟨by simp; show _ < 16777216; omega, ?_⟩
    refine ⟨_, ?_, left.eraseIdx r.toNat, found ++ [left[r.toNat]], pen2, by rw [List.map_append, er_map]; rfl, rfl, ?_, ?_⟩
    · rw [List.length_eraseIdx, if_pos hr]; omega
    · refine List.Perm.trans ?_ hpm
      have h1 := er_perm left r.toNat hr
      have h2 : (left.eraseIdx r.toNat ++ (found ++ [left[r.toNat]])).Perm ((left[r.toNat] :: left.eraseIdx r.toNat) ++ found) := by
        rw [← List.append_assoc, List.cons_append]
        exact List.perm_append_comm.trans (List.Perm.refl _)
      exact h2.trans (h1.append_right found)
    · rw [List.length_append]; exact c1
  · have hne : left = [] := by simpa using hb
    subst hne
    simp -dsimp only [↓wpS, ↓wpE, ↓wpEs, ↓wpEs', ↓wpCs, ↓wpI, ↓callW, ↓okArgs, ↓sigOk, ↓inouts, ↓lents, ↓peeks, ↓peek, ↓pk, ↓slot, ↓setOwn, ↓setC, ↓freeze, ↓isOwn, ↓isIo, ↓slC, ↓isLst, ↓asV, ↓asS, ↓asVs, ↓asSs, ↓isT, ↓R.still, ↓setMany, ↓bindT, ↓wipeE, ↓unwipe, ↓binD, ↓intBin, ↓cmpD, ↓eqD, ↓ordD, ↓ordI, ↓startE, ↓endsOf, ↓ioOf, ↓newsOf, ↓Sl.r, ↓itemsOf, ↓slcD, ↓revD, ↓b1D, ↓b2D, ↓isNoneD, ↓noRefR, ↓noRef, ↓noRefs, ite_self, ↓isTy, ↓List.getElem?_cons_zero, ↓List.getElem?_cons_succ, ↓List.getElem?_nil, ↓Option.join_some, ↓Option.join_none, ↓Option.isSome_some, ↓Option.isSome_none, ↓List.set_cons_zero, ↓List.set_cons_succ, ↓List.replicate, ↓List.length_cons, ↓List.length_nil, ↓List.isEmpty_cons, ↓List.isEmpty_nil, ↓List.all_cons, ↓List.all_nil, ↓List.filterMap_cons, ↓List.filterMap_nil, ↓List.contains_cons, ↓List.contains_nil, ↓Bool.and_true, ↓Bool.true_and, ↓Bool.and_false, ↓Bool.false_and, ↓Bool.not_true, ↓Bool.not_false, ↓if_true, ↓sh_int, ↓sh_bool, ↓sh_none, ↓eqv_ii, ↓eqv_bb, ↓eqv_ss, ↓brn_true, ↓brn_false, brn_true, brn_false, ↓List.any_cons, ↓List.any_nil, ↓if_false, ↓ite_true, ↓ite_false, ↓true_and, ↓and_true, ↓Bool.false_eq_true, ↓reduceCtorEq, ↓decide_true, ↓decide_false, ↓List.map_cons, ↓List.map_nil, ↓Tg.slots, ↓List.nodup_cons, ↓List.nodup_nil, ↓List.not_mem_nil, ↓not_false_eq_true, ↓forall_const, ↓true_implies, ↓bI, Nat.reduceAdd, Nat.reduceSub, Nat.reduceEqDiff, Int.reduceLT, Int.reduceLE, Nat.reduceLT, Nat.reduceLeDiff, Int.reduceNeg, Nat.reduceBEq, ↓BEq.rfl, ↓beq_self_eq_true, ↓Bool.or_false, ↓Bool.or_true]
    refine k found pen' (by simpa using hpm) ?_
    rw [List.length_nil, Nat.zero_add] at hlen
    rw [← hlen]; exact hp'
/-! ### integers within bounds -/
def isI : PyData → Bool
  | .int _ => true
  | _ => false
def inR (lo hi : Int) : PyData → Bool
  | .int i => decide (lo ≤ i) && decide (i ≤ hi)
  | _ => false
def intSp : Spec := fun ds Q => ∃ d, ds = [d] ∧ Q (.val (.bool (isI d))) []
theorem is_integer_ok (Φ : Tbl) : Impl Φ [false] 1 f_is_integer intSp := by
  rintro ds Q ⟨d, rfl, k⟩ _
  unfold f_is_integer
  cases d <;> (simp -dsimp only [↓wpS, ↓wpE, ↓wpEs, ↓wpEs', ↓wpCs, ↓wpI, ↓callW, ↓okArgs, ↓sigOk, ↓inouts, ↓lents, ↓peeks, ↓peek, ↓pk, ↓slot, ↓setOwn, ↓setC, ↓freeze, ↓isOwn, ↓isIo, ↓slC, ↓isLst, ↓asV, ↓asS, ↓asVs, ↓asSs, ↓isT, ↓R.still, ↓setMany, ↓bindT, ↓wipeE, ↓unwipe, ↓binD, ↓intBin, ↓cmpD, ↓eqD, ↓ordD, ↓ordI, ↓startE, ↓endsOf, ↓ioOf, ↓newsOf, ↓Sl.r, ↓itemsOf, ↓slcD, ↓revD, ↓b1D, ↓b2D, ↓isNoneD, ↓noRefR, ↓noRef, ↓noRefs, ite_self, ↓isTy, ↓List.getElem?_cons_zero, ↓List.getElem?_cons_succ, ↓List.getElem?_nil, ↓Option.join_some, ↓Option.join_none, ↓Option.isSome_some, ↓Option.isSome_none, ↓List.set_cons_zero, ↓List.set_cons_succ, ↓List.replicate, ↓List.length_cons, ↓List.length_nil, ↓List.isEmpty_cons, ↓List.isEmpty_nil, ↓List.all_cons, ↓List.all_nil, ↓List.filterMap_cons, ↓List.filterMap_nil, ↓List.contains_cons, ↓List.contains_nil, ↓Bool.and_true, ↓Bool.true_and, ↓Bool.and_false, ↓Bool.false_and, ↓Bool.not_true, ↓Bool.not_false, ↓if_true, ↓sh_int, ↓sh_bool, ↓sh_none, ↓eqv_ii, ↓eqv_bb, ↓eqv_ss, ↓brn_true, ↓brn_false, brn_true, brn_false, ↓List.any_cons, ↓List.any_nil, ↓if_false, ↓ite_true, ↓ite_false, ↓true_and, ↓and_true, ↓Bool.false_eq_true, ↓reduceCtorEq, ↓decide_true, ↓decide_false, ↓List.map_cons, ↓List.map_nil, ↓Tg.slots, ↓List.nodup_cons, ↓List.nodup_nil, ↓List.not_mem_nil, ↓not_false_eq_true, ↓forall_const, ↓true_implies, ↓bI, Nat.reduceAdd, Nat.reduceSub, Nat.reduceEqDiff, Int.reduceLT, Int.reduceLE, Nat.reduceLT, Nat.reduceLeDiff, Int.reduceNeg, Nat.reduceBEq, ↓BEq.rfl, ↓beq_self_eq_true, ↓Bool.or_false, ↓Bool.or_true]; exact k)
def withinSp : Spec := fun ds Q => ∃ d, ∃ lo hi : Int, ds = [d, .int lo, .int hi] ∧ Q (.val (.bool (inR lo hi d))) []
theorem is_within_ok (Φ : Tbl) (h : Φ "is_integer" = intSp) : Impl Φ [false, false, false] 3 f_is_within withinSp := by
  rintro ds Q ⟨d, lo, hi, rfl, k⟩ _
  unfold f_is_within
  simp -dsimp only [↓wpS, ↓wpE, ↓wpEs, ↓wpEs', ↓wpCs, ↓wpI, ↓callW, ↓okArgs, ↓sigOk, ↓inouts, ↓lents, ↓peeks, ↓peek, ↓pk, ↓slot, ↓setOwn, ↓setC, ↓freeze, ↓isOwn, ↓isIo, ↓slC, ↓isLst, ↓asV, ↓asS, ↓asVs, ↓asSs, ↓isT, ↓R.still, ↓setMany, ↓bindT, ↓wipeE, ↓unwipe, ↓binD, ↓intBin, ↓cmpD, ↓eqD, ↓ordD, ↓ordI, ↓startE, ↓endsOf, ↓ioOf, ↓newsOf, ↓Sl.r, ↓itemsOf, ↓slcD, ↓revD, ↓b1D, ↓b2D, ↓isNoneD, ↓noRefR, ↓noRef, ↓noRefs, ite_self, ↓isTy, ↓List.getElem?_cons_zero, ↓List.getElem?_cons_succ, ↓List.getElem?_nil, ↓Option.join_some, ↓Option.join_none, ↓Option.isSome_some, ↓Option.isSome_none, ↓List.set_cons_zero, ↓List.set_cons_succ, ↓List.replicate, ↓List.length_cons, ↓List.length_nil, ↓List.isEmpty_cons, ↓List.isEmpty_nil, ↓List.all_cons, ↓List.all_nil, ↓List.filterMap_cons, ↓List.filterMap_nil, ↓List.contains_cons, ↓List.contains_nil, ↓Bool.and_true, ↓Bool.true_and, ↓Bool.and_false, ↓Bool.false_and, ↓Bool.not_true, ↓Bool.not_false, ↓if_true, ↓sh_int, ↓sh_bool, ↓sh_none, ↓eqv_ii, ↓eqv_bb, ↓eqv_ss, ↓brn_true, ↓brn_false, brn_true, brn_false, ↓List.any_cons, ↓List.any_nil, ↓if_false, ↓ite_true, ↓ite_false, ↓true_and, ↓and_true, ↓Bool.false_eq_true, ↓reduceCtorEq, ↓decide_true, ↓decide_false, ↓List.map_cons, ↓List.map_nil, ↓Tg.slots, ↓List.nodup_cons, ↓List.nodup_nil, ↓List.not_mem_nil, ↓not_false_eq_true, ↓forall_const, ↓true_implies, ↓bI, Nat.reduceAdd, Nat.reduceSub, Nat.reduceEqDiff, Int.reduceLT, Int.reduceLE, Nat.reduceLT, Nat.reduceLeDiff, Int.reduceNeg, Nat.reduceBEq, ↓BEq.rfl, ↓beq_self_eq_true, ↓Bool.or_false, ↓Bool.or_true]
  refine ⟨_, rfl, ?_⟩
  rw [h]
  refine ⟨d, rfl, fun _ => ?_⟩
  cases d with
  | int i =>
    simp only [isI]
    simp -dsimp only [↓wpS, ↓wpE, ↓wpEs, ↓wpEs', ↓wpCs, ↓wpI, ↓callW, ↓okArgs, ↓sigOk, ↓inouts, ↓lents, ↓peeks, ↓peek, ↓pk, ↓slot, ↓setOwn, ↓setC, ↓freeze, ↓isOwn, ↓isIo, ↓slC, ↓isLst, ↓asV, ↓asS, ↓asVs, ↓asSs, ↓isT, ↓R.still, ↓setMany, ↓bindT, ↓wipeE, ↓unwipe, ↓binD, ↓intBin, ↓cmpD, ↓eqD, ↓ordD, ↓ordI, ↓startE, ↓endsOf, ↓ioOf, ↓newsOf, ↓Sl.r, ↓itemsOf, ↓slcD, ↓revD, ↓b1D, ↓b2D, ↓isNoneD, ↓noRefR, ↓noRef, ↓noRefs, ite_self, ↓isTy, ↓List.getElem?_cons_zero, ↓List.getElem?_cons_succ, ↓List.getElem?_nil, ↓Option.join_some, ↓Option.join_none, ↓Option.isSome_some, ↓Option.isSome_none, ↓List.set_cons_zero, ↓List.set_cons_succ, ↓List.replicate, ↓List.length_cons, ↓List.length_nil, ↓List.isEmpty_cons, ↓List.isEmpty_nil, ↓List.all_cons, ↓List.all_nil, ↓List.filterMap_cons, ↓List.filterMap_nil, ↓List.contains_cons, ↓List.contains_nil, ↓Bool.and_true, ↓Bool.true_and, ↓Bool.and_false, ↓Bool.false_and, ↓Bool.not_true, ↓Bool.not_false, ↓if_true, ↓sh_int, ↓sh_bool, ↓sh_none, ↓eqv_ii, ↓eqv_bb, ↓eqv_ss, ↓brn_true, ↓brn_false, brn_true, brn_false, ↓List.any_cons, ↓List.any_nil, ↓if_false, ↓ite_true, ↓ite_false, ↓true_and, ↓and_true, ↓Bool.false_eq_true, ↓reduceCtorEq, ↓decide_true, ↓decide_false, ↓List.map_cons, ↓List.map_nil, ↓Tg.slots, ↓List.nodup_cons, ↓List.nodup_nil, ↓List.not_mem_nil, ↓not_false_eq_true, ↓forall_const, ↓true_implies, ↓bI, Nat.reduceAdd, Nat.reduceSub, Nat.reduceEqDiff, Int.reduceLT, Int.reduceLE, Nat.reduceLT, Nat.reduceLeDiff, Int.reduceNeg, Nat.reduceBEq, ↓BEq.rfl, ↓beq_self_eq_true, ↓Bool.or_false, ↓Bool.or_true]
    have e : inR lo hi (.int i) = (decide (lo ≤ i) && decide (i ≤ hi)) := rfl
    rw [e] at k
    refine brn_of (fun hb => ?_) (fun hb => ?_)
    · simp -dsimp only [↓wpS, ↓wpE, ↓wpEs, ↓wpEs', ↓wpCs, ↓wpI, ↓callW, ↓okArgs, ↓sigOk, ↓inouts, ↓lents, ↓peeks, ↓peek, ↓pk, ↓slot, ↓setOwn, ↓setC, ↓freeze, ↓isOwn, ↓isIo, ↓slC, ↓isLst, ↓asV, ↓asS, ↓asVs, ↓asSs, ↓isT, ↓R.still, ↓setMany, ↓bindT, ↓wipeE, ↓unwipe, ↓binD, ↓intBin, ↓cmpD, ↓eqD, ↓ordD, ↓ordI, ↓startE, ↓endsOf, ↓ioOf, ↓newsOf, ↓Sl.r, ↓itemsOf, ↓slcD, ↓revD, ↓b1D, ↓b2D, ↓isNoneD, ↓noRefR, ↓noRef, ↓noRefs, ite_self, ↓isTy, ↓List.getElem?_cons_zero, ↓List.getElem?_cons_succ, ↓List.getElem?_nil, ↓Option.join_some, ↓Option.join_none, ↓Option.isSome_some, ↓Option.isSome_none, ↓List.set_cons_zero, ↓List.set_cons_succ, ↓List.replicate, ↓List.length_cons, ↓List.length_nil, ↓List.isEmpty_cons, ↓List.isEmpty_nil, ↓List.all_cons, ↓List.all_nil, ↓List.filterMap_cons, ↓List.filterMap_nil, ↓List.contains_cons, ↓List.contains_nil, ↓Bool.and_true, ↓Bool.true_and, ↓Bool.and_false, ↓Bool.false_and, ↓Bool.not_true, ↓Bool.not_false, ↓if_true, ↓sh_int, ↓sh_bool, ↓sh_none, ↓eqv_ii, ↓eqv_bb, ↓eqv_ss, ↓brn_true, ↓brn_false, brn_true, brn_false, ↓List.any_cons, ↓List.any_nil, ↓if_false, ↓ite_true, ↓ite_false, ↓true_and, ↓and_true, ↓Bool.false_eq_true, ↓reduceCtorEq, ↓decide_true, ↓decide_false, ↓List.map_cons, ↓List.map_nil, ↓Tg.slots, ↓List.nodup_cons, ↓List.nodup_nil, ↓List.not_mem_nil, ↓not_false_eq_true, ↓forall_const, ↓true_implies, ↓bI, Nat.reduceAdd, Nat.reduceSub, Nat.reduceEqDiff, Int.reduceLT, Int.reduceLE, Nat.reduceLT, Nat.reduceLeDiff, Int.reduceNeg, Nat.reduceBEq, ↓BEq.rfl, ↓beq_self_eq_true, ↓Bool.or_false, ↓Bool.or_true]
      rw [hb] at k; exact k
    · simp -dsimp only [↓wpS, ↓wpE, ↓wpEs, ↓wpEs', ↓wpCs, ↓wpI, ↓callW, ↓okArgs, ↓sigOk, ↓inouts, ↓lents, ↓peeks, ↓peek, ↓pk, ↓slot, ↓setOwn, ↓setC, ↓freeze, ↓isOwn, ↓isIo, ↓slC, ↓isLst, ↓asV, ↓asS, ↓asVs, ↓asSs, ↓isT, ↓R.still, ↓setMany, ↓bindT, ↓wipeE, ↓unwipe, ↓binD, ↓intBin, ↓cmpD, ↓eqD, ↓ordD, ↓ordI, ↓startE, ↓endsOf, ↓ioOf, ↓newsOf, ↓Sl.r, ↓itemsOf, ↓slcD, ↓revD, ↓b1D, ↓b2D, ↓isNoneD, ↓noRefR, ↓noRef, ↓noRefs, ite_self, ↓isTy, ↓List.getElem?_cons_zero, ↓List.getElem?_cons_succ, ↓List.getElem?_nil, ↓Option.join_some, ↓Option.join_none, ↓Option.isSome_some, ↓Option.isSome_none, ↓List.set_cons_zero, ↓List.set_cons_succ, ↓List.replicate, ↓List.length_cons, ↓List.length_nil, ↓List.isEmpty_cons, ↓List.isEmpty_nil, ↓List.all_cons, ↓List.all_nil, ↓List.filterMap_cons, ↓List.filterMap_nil, ↓List.contains_cons, ↓List.contains_nil, ↓Bool.and_true, ↓Bool.true_and, ↓Bool.and_false, ↓Bool.false_and, ↓Bool.not_true, ↓Bool.not_false, ↓if_true, ↓sh_int, ↓sh_bool, ↓sh_none, ↓eqv_ii, ↓eqv_bb, ↓eqv_ss, ↓brn_true, ↓brn_false, brn_true, brn_false, ↓List.any_cons, ↓List.any_nil, ↓if_false, ↓ite_true, ↓ite_false, ↓true_and, ↓and_true, ↓Bool.false_eq_true, ↓reduceCtorEq, ↓decide_true, ↓decide_false, ↓List.map_cons, ↓List.map_nil, ↓Tg.slots, ↓List.nodup_cons, ↓List.nodup_nil, ↓List.not_mem_nil, ↓not_false_eq_true, ↓forall_const, ↓true_implies, ↓bI, Nat.reduceAdd, Nat.reduceSub, Nat.reduceEqDiff, Int.reduceLT, Int.reduceLE, Nat.reduceLT, Nat.reduceLeDiff, Int.reduceNeg, Nat.reduceBEq, ↓BEq.rfl, ↓beq_self_eq_true, ↓Bool.or_false, ↓Bool.or_true]
      rw [hb] at k; exact k
  | _ =>
    simp only [isI]
    simp -dsimp only [↓wpS, ↓wpE, ↓wpEs, ↓wpEs', ↓wpCs, ↓wpI, ↓callW, ↓okArgs, ↓sigOk, ↓inouts, ↓lents, ↓peeks, ↓peek, ↓pk, ↓slot, ↓setOwn, ↓setC, ↓freeze, ↓isOwn, ↓isIo, ↓slC, ↓isLst, ↓asV, ↓asS, ↓asVs, ↓asSs, ↓isT, ↓R.still, ↓setMany, ↓bindT, ↓wipeE, ↓unwipe, ↓binD, ↓intBin, ↓cmpD, ↓eqD, ↓ordD, ↓ordI, ↓startE, ↓endsOf, ↓ioOf, ↓newsOf, ↓Sl.r, ↓itemsOf, ↓slcD, ↓revD, ↓b1D, ↓b2D, ↓isNoneD, ↓noRefR, ↓noRef, ↓noRefs, ite_self, ↓isTy, ↓List.getElem?_cons_zero, ↓List.getElem?_cons_succ, ↓List.getElem?_nil, ↓Option.join_some, ↓Option.join_none, ↓Option.isSome_some, ↓Option.isSome_none, ↓List.set_cons_zero, ↓List.set_cons_succ, ↓List.replicate, ↓List.length_cons, ↓List.length_nil, ↓List.isEmpty_cons, ↓List.isEmpty_nil, ↓List.all_cons, ↓List.all_nil, ↓List.filterMap_cons, ↓List.filterMap_nil, ↓List.contains_cons, ↓List.contains_nil, ↓Bool.and_true, ↓Bool.true_and, ↓Bool.and_false, ↓Bool.false_and, ↓Bool.not_true, ↓Bool.not_false, ↓if_true, ↓sh_int, ↓sh_bool, ↓sh_none, ↓eqv_ii, ↓eqv_bb, ↓eqv_ss, ↓brn_true, ↓brn_false, brn_true, brn_false, ↓List.any_cons, ↓List.any_nil, ↓if_false, ↓ite_true, ↓ite_false, ↓true_and, ↓and_true, ↓Bool.false_eq_true, ↓reduceCtorEq, ↓decide_true, ↓decide_false, ↓List.map_cons, ↓List.map_nil, ↓Tg.slots, ↓List.nodup_cons, ↓List.nodup_nil, ↓List.not_mem_nil, ↓not_false_eq_true, ↓forall_const, ↓true_implies, ↓bI, Nat.reduceAdd, Nat.reduceSub, Nat.reduceEqDiff, Int.reduceLT, Int.reduceLE, Nat.reduceLT, Nat.reduceLeDiff, Int.reduceNeg, Nat.reduceBEq, ↓BEq.rfl, ↓beq_self_eq_true, ↓Bool.or_false, ↓Bool.or_true]
    exact k
theorem law_is_integer_ok (Φ : Tbl) : Impl Φ [false, false, false] 3 f_law_is_integer withinSp := by
  rintro ds Q ⟨d, lo, hi, rfl, k⟩ _
  unfold f_law_is_integer
  cases d with
  | int i =>
    simp -dsimp only [↓wpS, ↓wpE, ↓wpEs, ↓wpEs', ↓wpCs, ↓wpI, ↓callW, ↓okArgs, ↓sigOk, ↓inouts, ↓lents, ↓peeks, ↓peek, ↓pk, ↓slot, ↓setOwn, ↓setC, ↓freeze, ↓isOwn, ↓isIo, ↓slC, ↓isLst, ↓asV, ↓asS, ↓asVs, ↓asSs, ↓isT, ↓R.still, ↓setMany, ↓bindT, ↓wipeE, ↓unwipe, ↓binD, ↓intBin, ↓cmpD, ↓eqD, ↓ordD, ↓ordI, ↓startE, ↓endsOf, ↓ioOf, ↓newsOf, ↓Sl.r, ↓itemsOf, ↓slcD, ↓revD, ↓b1D, ↓b2D, ↓isNoneD, ↓noRefR, ↓noRef, ↓noRefs, ite_self, ↓isTy, ↓List.getElem?_cons_zero, ↓List.getElem?_cons_succ, ↓List.getElem?_nil, ↓Option.join_some, ↓Option.join_none, ↓Option.isSome_some, ↓Option.isSome_none, ↓List.set_cons_zero, ↓List.set_cons_succ, ↓List.replicate, ↓List.length_cons, ↓List.length_nil, ↓List.isEmpty_cons, ↓List.isEmpty_nil, ↓List.all_cons, ↓List.all_nil, ↓List.filterMap_cons, ↓List.filterMap_nil, ↓List.contains_cons, ↓List.contains_nil, ↓Bool.and_true, ↓Bool.true_and, ↓Bool.and_false, ↓Bool.false_and, ↓Bool.not_true, ↓Bool.not_false, ↓if_true, ↓sh_int, ↓sh_bool, ↓sh_none, ↓eqv_ii, ↓eqv_bb, ↓eqv_ss, ↓brn_true, ↓brn_false, brn_true, brn_false, ↓List.any_cons, ↓List.any_nil, ↓if_false, ↓ite_true, ↓ite_false, ↓true_and, ↓and_true, ↓Bool.false_eq_true, ↓reduceCtorEq, ↓decide_true, ↓decide_false, ↓List.map_cons, ↓List.map_nil, ↓Tg.slots, ↓List.nodup_cons, ↓List.nodup_nil, ↓List.not_mem_nil, ↓not_false_eq_true, ↓forall_const, ↓true_implies, ↓bI, Nat.reduceAdd, Nat.reduceSub, Nat.reduceEqDiff, Int.reduceLT, Int.reduceLE, Nat.reduceLT, Nat.reduceLeDiff, Int.reduceNeg, Nat.reduceBEq, ↓BEq.rfl, ↓beq_self_eq_true, ↓Bool.or_false, ↓Bool.or_true]
    have e : inR lo hi (.int i) = (decide (lo ≤ i) && decide (i ≤ hi)) := rfl
    rw [e] at k
    refine brn_of (fun hb => ?_) (fun hb => ?_)
    · simp -dsimp only [↓wpS, ↓wpE, ↓wpEs, ↓wpEs', ↓wpCs, ↓wpI, ↓callW, ↓okArgs, ↓sigOk, ↓inouts, ↓lents, ↓peeks, ↓peek, ↓pk, ↓slot, ↓setOwn, ↓setC, ↓freeze, ↓isOwn, ↓isIo, ↓slC, ↓isLst, ↓asV, ↓asS, ↓asVs, ↓asSs, ↓isT, ↓R.still, ↓setMany, ↓bindT, ↓wipeE, ↓unwipe, ↓binD, ↓intBin, ↓cmpD, ↓eqD, ↓ordD, ↓ordI, ↓startE, ↓endsOf, ↓ioOf, ↓newsOf, ↓Sl.r, ↓itemsOf, ↓slcD, ↓revD, ↓b1D, ↓b2D, ↓isNoneD, ↓noRefR, ↓noRef, ↓noRefs, ite_self, ↓isTy, ↓List.getElem?_cons_zero, ↓List.getElem?_cons_succ, ↓List.getElem?_nil, ↓Option.join_some, ↓Option.join_none, ↓Option.isSome_some, ↓Option.isSome_none, ↓List.set_cons_zero, ↓List.set_cons_succ, ↓List.replicate, ↓List.length_cons, ↓List.length_nil, ↓List.isEmpty_cons, ↓List.isEmpty_nil, ↓List.all_cons, ↓List.all_nil, ↓List.filterMap_cons, ↓List.filterMap_nil, ↓List.contains_cons, ↓List.contains_nil, ↓Bool.and_true, ↓Bool.true_and, ↓Bool.and_false, ↓Bool.false_and, ↓Bool.not_true, ↓Bool.not_false, ↓if_true, ↓sh_int, ↓sh_bool, ↓sh_none, ↓eqv_ii, ↓eqv_bb, ↓eqv_ss, ↓brn_true, ↓brn_false, brn_true, brn_false, ↓List.any_cons, ↓List.any_nil, ↓if_false, ↓ite_true, ↓ite_false, ↓true_and, ↓and_true, ↓Bool.false_eq_true, ↓reduceCtorEq, ↓decide_true, ↓decide_false, ↓List.map_cons, ↓List.map_nil, ↓Tg.slots, ↓List.nodup_cons, ↓List.nodup_nil, ↓List.not_mem_nil, ↓not_false_eq_true, ↓forall_const, ↓true_implies, ↓bI, Nat.reduceAdd, Nat.reduceSub, Nat.reduceEqDiff, Int.reduceLT, Int.reduceLE, Nat.reduceLT, Nat.reduceLeDiff, Int.reduceNeg, Nat.reduceBEq, ↓BEq.rfl, ↓beq_self_eq_true, ↓Bool.or_false, ↓Bool.or_true]
      rw [hb] at k; exact k
    · simp -dsimp only [↓wpS, ↓wpE, ↓wpEs, ↓wpEs', ↓wpCs, ↓wpI, ↓callW, ↓okArgs, ↓sigOk, ↓inouts, ↓lents, ↓peeks, ↓peek, ↓pk, ↓slot, ↓setOwn, ↓setC, ↓freeze, ↓isOwn, ↓isIo, ↓slC, ↓isLst, ↓asV, ↓asS, ↓asVs, ↓asSs, ↓isT, ↓R.still, ↓setMany, ↓bindT, ↓wipeE, ↓unwipe, ↓binD, ↓intBin, ↓cmpD, ↓eqD, ↓ordD, ↓ordI, ↓startE, ↓endsOf, ↓ioOf, ↓newsOf, ↓Sl.r, ↓itemsOf, ↓slcD, ↓revD, ↓b1D, ↓b2D, ↓isNoneD, ↓noRefR, ↓noRef, ↓noRefs, ite_self, ↓isTy, ↓List.getElem?_cons_zero, ↓List.getElem?_cons_succ, ↓List.getElem?_nil, ↓Option.join_some, ↓Option.join_none, ↓Option.isSome_some, ↓Option.isSome_none, ↓List.set_cons_zero, ↓List.set_cons_succ, ↓List.replicate, ↓List.length_cons, ↓List.length_nil, ↓List.isEmpty_cons, ↓List.isEmpty_nil, ↓List.all_cons, ↓List.all_nil, ↓List.filterMap_cons, ↓List.filterMap_nil, ↓List.contains_cons, ↓List.contains_nil, ↓Bool.and_true, ↓Bool.true_and, ↓Bool.and_false, ↓Bool.false_and, ↓Bool.not_true, ↓Bool.not_false, ↓if_true, ↓sh_int, ↓sh_bool, ↓sh_none, ↓eqv_ii, ↓eqv_bb, ↓eqv_ss, ↓brn_true, ↓brn_false, brn_true, brn_false, ↓List.any_cons, ↓List.any_nil, ↓if_false, ↓ite_true, ↓ite_false, ↓true_and, ↓and_true, ↓Bool.false_eq_true, ↓reduceCtorEq, ↓decide_true, ↓decide_false, ↓List.map_cons, ↓List.map_nil, ↓Tg.slots, ↓List.nodup_cons, ↓List.nodup_nil, ↓List.not_mem_nil, ↓not_false_eq_true, ↓forall_const, ↓true_implies, ↓bI, Nat.reduceAdd, Nat.reduceSub, Nat.reduceEqDiff, Int.reduceLT, Int.reduceLE, Nat.reduceLT, Nat.reduceLeDiff, Int.reduceNeg, Nat.reduceBEq, ↓BEq.rfl, ↓beq_self_eq_true, ↓Bool.or_false, ↓Bool.or_true]
      rw [hb] at k; exact k
  | _ =>
    simp -dsimp only [↓wpS, ↓wpE, ↓wpEs, ↓wpEs', ↓wpCs, ↓wpI, ↓callW, ↓okArgs, ↓sigOk, ↓inouts, ↓lents, ↓peeks, ↓peek, ↓pk, ↓slot, ↓setOwn, ↓setC, ↓freeze, ↓isOwn, ↓isIo, ↓slC, ↓isLst, ↓asV, ↓asS, ↓asVs, ↓asSs, ↓isT, ↓R.still, ↓setMany, ↓bindT, ↓wipeE, ↓unwipe, ↓binD, ↓intBin, ↓cmpD, ↓eqD, ↓ordD, ↓ordI, ↓startE, ↓endsOf, ↓ioOf, ↓newsOf, ↓Sl.r, ↓itemsOf, ↓slcD, ↓revD, ↓b1D, ↓b2D, ↓isNoneD, ↓noRefR, ↓noRef, ↓noRefs, ite_self, ↓isTy, ↓List.getElem?_cons_zero, ↓List.getElem?_cons_succ, ↓List.getElem?_nil, ↓Option.join_some, ↓Option.join_none, ↓Option.isSome_some, ↓Option.isSome_none, ↓List.set_cons_zero, ↓List.set_cons_succ, ↓List.replicate, ↓List.length_cons, ↓List.length_nil, ↓List.isEmpty_cons, ↓List.isEmpty_nil, ↓List.all_cons, ↓List.all_nil, ↓List.filterMap_cons, ↓List.filterMap_nil, ↓List.contains_cons, ↓List.contains_nil, ↓Bool.and_true, ↓Bool.true_and, ↓Bool.and_false, ↓Bool.false_and, ↓Bool.not_true, ↓Bool.not_false, ↓if_true, ↓sh_int, ↓sh_bool, ↓sh_none, ↓eqv_ii, ↓eqv_bb, ↓eqv_ss, ↓brn_true, ↓brn_false, brn_true, brn_false, ↓List.any_cons, ↓List.any_nil, ↓if_false, ↓ite_true, ↓ite_false, ↓true_and, ↓and_true, ↓Bool.false_eq_true, ↓reduceCtorEq, ↓decide_true, ↓decide_false, ↓List.map_cons, ↓List.map_nil, ↓Tg.slots, ↓List.nodup_cons, ↓List.nodup_nil, ↓List.not_mem_nil, ↓not_false_eq_true, ↓forall_const, ↓true_implies, ↓bI, Nat.reduceAdd, Nat.reduceSub, Nat.reduceEqDiff, Int.reduceLT, Int.reduceLE, Nat.reduceLT, Nat.reduceLeDiff, Int.reduceNeg, Nat.reduceBEq, ↓BEq.rfl, ↓beq_self_eq_true, ↓Bool.or_false, ↓Bool.or_true]
    exact k
end Co

set_option linter.all false
namespace Co
open PySem
/-! ### ascending tuples -/
def adj : List Int → Bool
  | x :: y :: l => decide (x < y) && adj (y :: l)
  | _ => true
theorem adj_iff : ∀ {l : List Int}, adj l = true ↔ l.Pairwise (· < ·)
  | [] => by simp [adj]
  | [x] => by simp [adj]
  | x :: y :: l => by
    rw [adj, Bool.and_eq_true, decide_eq_true_eq, adj_iff (l := y :: l)]
    constructor
    · rintro ⟨h1, h2⟩
      refine List.Pairwise.cons (fun z hz => ?_) h2
      rcases List.mem_cons.mp hz with rfl | hz
      · exact h1
      · exact Int.lt_trans h1 ((List.pairwise_cons.mp h2).1 z hz)
    · intro h
      exact ⟨(List.pairwise_cons.mp h).1 y List.mem_cons_self, (List.pairwise_cons.mp h).2⟩
/-- whether d is an ascending tuple of ints from 0 to below m -/
def ascB (m : Int) : PyData → Bool
  | .tuple l => l.all (inR 0 (m - 1)) && (match intsOf l with
    | some ns => adj ns
    | none => false)
  | _ => false
theorem intsOf_map' (l : List Int) : intsOf (l.map .int) = some l := by
  induction l with
  | nil => rfl
  | cons x l ih => simp [intsOf, ih]
theorem all_inR {lo hi : Int} : ∀ {l : List PyData}, l.all (inR lo hi) = true → ∃ ns : List Int, l = ns.map .int ∧ ∀ x ∈ ns, lo ≤ x ∧ x ≤ hi
  | [], _ => ⟨[], rfl, by simp⟩
  | x :: l, h => by
    rw [List.all_cons, Bool.and_eq_true] at h
    obtain ⟨ns, rfl, hn⟩ := all_inR h.2
    cases x <;> simp only [inR, Bool.false_eq_true, false_and] at h
    rename_i i
    have h1 := h.1
    rw [Bool.and_eq_true, decide_eq_true_eq, decide_eq_true_eq] at h1
    exact ⟨i :: ns, rfl, fun y hy => by
      rcases List.mem_cons.mp hy with rfl | hy
      · exact h1
      · exact hn y hy⟩
theorem ascB_true {m : Int} {d : PyData} (h : ascB m d = true) : ∃ ns : List Int, d = .tuple (ns.map .int) ∧ ns.Pairwise (· < ·) ∧ ∀ x ∈ ns, 0 ≤ x ∧ x < m := by
  cases d <;> simp only [ascB, Bool.false_eq_true] at h
  rw [Bool.and_eq_true] at h
  obtain ⟨ns, rfl, hn⟩ := all_inR h.1
  have h2 := h.2
  rw [intsOf_map'] at h2
  exact ⟨ns, rfl, adj_iff.mp h2, fun x hx => by have := hn x hx; omega⟩
theorem boolsOf_map {α : Type} (f : α → Bool) (l : List α) : boolsOf (l.map fun x => PyData.bool (f x)) = some (l.map f) := by
  induction l with
  | nil => rfl
  | cons x l ih => simp [boolsOf, ih]
theorem all_id {α : Type} (f : α → Bool) (l : List α) : ((l.map f).all id) = l.all f := by simp [List.all_map, Function.comp_def]
theorem any_id {α : Type} (f : α → Bool) (l : List α) : ((l.map f).any id) = l.any f := by simp [List.any_map, Function.comp_def]
theorem adj_zip : ∀ (l : List Int), ((l.zip (l.drop 1)).all fun p => decide (p.1 < p.2)) = adj l
  | [] => rfl
  | [x] => rfl
  | x :: y :: l => by
    have := adj_zip (y :: l)
    simp only [List.drop_succ_cons, List.drop_zero, List.zip_cons_cons, List.all_cons] at this ⊢
    rw [adj, this]
theorem cut_drop1 (l : List PyData) : cut l (some 1) none = l.drop 1 := by
  cases l with
  | nil => simp [cut]
  | cons x l => rw [cut_drop (by decide) (by simp; omega)]; rfl
theorem pairs2_ints (a b : List Int) : pairs2 (a.map .int) (b.map .int) = (a.zip b).map fun p => .tuple [.int p.1, .int p.2] := by
  unfold pairs2
  rw [List.zip_map, List.map_map]; rfl
theorem any_false {α : Type} (f : α → Bool) : ∀ l : List α, ((l.map fun x => PyData.bool (f x)).any fun z => PyData.eqv z (.bool false)) = !(l.all f)
  | [] => rfl
  | x :: l => by
    rw [List.map_cons, List.any_cons, List.all_cons, eqv_bb, any_false f l]
    cases f x <;> simp
theorem mem_false {α : Type} {f : α → Bool} {l : List α} {K : Bool → Prop} (h1 : l.all f = false → K true) (h2 : l.all f = true → K false) : memD (.bool false) (.list (l.map fun x => .bool (f x))) K := by
  refine ⟨rfl, (ok_list (k := 0) fun x hx => ?_).sh (by decide), ?_⟩
  · obtain ⟨_, _, rfl⟩ := List.mem_map.mp hx
    exact ok_bool
  · rw [any_false]
    cases h : l.all f
    · exact h1 h
    · exact h2 h
def ascSp : Spec := fun ds Q => ∃ d, ∃ m : Int, ds = [d, .int m] ∧ (∀ l, d = .tuple l → l.length ≤ 63) ∧ Q (.val (.bool (ascB m d))) []
theorem is_ascending_ok (Φ : Tbl) (h : Φ "is_within" = withinSp) : Impl Φ [false, false] 4 f_is_ascending ascSp := by
  rintro ds Q ⟨d, m, rfl, hl, k⟩ _
  unfold f_is_ascending
  cases d with
  | tuple l =>
    have hl := hl l rfl
    simp -dsimp only [↓wpS, ↓wpE, ↓wpEs, ↓wpEs', ↓wpCs, ↓wpI, ↓callW, ↓okArgs, ↓sigOk, ↓inouts, ↓lents, ↓peeks, ↓peek, ↓pk, ↓slot, ↓setOwn, ↓setC, ↓freeze, ↓isOwn, ↓isIo, ↓slC, ↓isLst, ↓asV, ↓asS, ↓asVs, ↓asSs, ↓isT, ↓R.still, ↓setMany, ↓bindT, ↓wipeE, ↓unwipe, ↓binD, ↓intBin, ↓cmpD, ↓eqD, ↓ordD, ↓ordI, ↓startE, ↓endsOf, ↓ioOf, ↓newsOf, ↓Sl.r, ↓itemsOf, ↓slcD, ↓revD, ↓b1D, ↓b2D, ↓isNoneD, ↓noRefR, ↓noRef, ↓noRefs, ite_self, ↓isTy, ↓List.getElem?_cons_zero, ↓List.getElem?_cons_succ, ↓List.getElem?_nil, ↓Option.join_some, ↓Option.join_none, ↓Option.isSome_some, ↓Option.isSome_none, ↓List.set_cons_zero, ↓List.set_cons_succ, ↓List.replicate, ↓List.length_cons, ↓List.length_nil, ↓List.isEmpty_cons, ↓List.isEmpty_nil, ↓List.all_cons, ↓List.all_nil, ↓List.filterMap_cons, ↓List.filterMap_nil, ↓List.contains_cons, ↓List.contains_nil, ↓Bool.and_true, ↓Bool.true_and, ↓Bool.and_false, ↓Bool.false_and, ↓Bool.not_true, ↓Bool.not_false, ↓if_true, ↓sh_int, ↓sh_bool, ↓sh_none, ↓eqv_ii, ↓eqv_bb, ↓eqv_ss, ↓brn_true, ↓brn_false, brn_true, brn_false, ↓List.any_cons, ↓List.any_nil, ↓if_false, ↓ite_true, ↓ite_false, ↓true_and, ↓and_true, ↓Bool.false_eq_true, ↓reduceCtorEq, ↓decide_true, ↓decide_false, ↓List.map_cons, ↓List.map_nil, ↓Tg.slots, ↓List.nodup_cons, ↓List.nodup_nil, ↓List.not_mem_nil, ↓not_false_eq_true, ↓forall_const, ↓true_implies, ↓bI, Nat.reduceAdd, Nat.reduceSub, Nat.reduceEqDiff, Int.reduceLT, Int.reduceLE, Nat.reduceLT, Nat.reduceLeDiff, Int.reduceNeg, Nat.reduceBEq, ↓BEq.rfl, ↓beq_self_eq_true, ↓Bool.or_false, ↓Bool.or_true]
    refine ⟨by show l.length < 16777216; omega, lc_map (fun x => .bool (inR 0 (m - 1) x)) (fun x acc N hx next => ?_) ?_⟩
    · unfold f_is_ascending_e2
      simp -dsimp only [↓wpS, ↓wpE, ↓wpEs, ↓wpEs', ↓wpCs, ↓wpI, ↓callW, ↓okArgs, ↓sigOk, ↓inouts, ↓lents, ↓peeks, ↓peek, ↓pk, ↓slot, ↓setOwn, ↓setC, ↓freeze, ↓isOwn, ↓isIo, ↓slC, ↓isLst, ↓asV, ↓asS, ↓asVs, ↓asSs, ↓isT, ↓R.still, ↓setMany, ↓bindT, ↓wipeE, ↓unwipe, ↓binD, ↓intBin, ↓cmpD, ↓eqD, ↓ordD, ↓ordI, ↓startE, ↓endsOf, ↓ioOf, ↓newsOf, ↓Sl.r, ↓itemsOf, ↓slcD, ↓revD, ↓b1D, ↓b2D, ↓isNoneD, ↓noRefR, ↓noRef, ↓noRefs, ite_self, ↓isTy, ↓List.getElem?_cons_zero, ↓List.getElem?_cons_succ, ↓List.getElem?_nil, ↓Option.join_some, ↓Option.join_none, ↓Option.isSome_some, ↓Option.isSome_none, ↓List.set_cons_zero, ↓List.set_cons_succ, ↓List.replicate, ↓List.length_cons, ↓List.length_nil, ↓List.isEmpty_cons, ↓List.isEmpty_nil, ↓List.all_cons, ↓List.all_nil, ↓List.filterMap_cons, ↓List.filterMap_nil, ↓List.contains_cons, ↓List.contains_nil, ↓Bool.and_true, ↓Bool.true_and, ↓Bool.and_false, ↓Bool.false_and, ↓Bool.not_true, ↓Bool.not_false, ↓if_true, ↓sh_int, ↓sh_bool, ↓sh_none, ↓eqv_ii, ↓eqv_bb, ↓eqv_ss, ↓brn_true, ↓brn_false, brn_true, brn_false, ↓List.any_cons, ↓List.any_nil, ↓if_false, ↓ite_true, ↓ite_false, ↓true_and, ↓and_true, ↓Bool.false_eq_true, ↓reduceCtorEq, ↓decide_true, ↓decide_false, ↓List.map_cons, ↓List.map_nil, ↓Tg.slots, ↓List.nodup_cons, ↓List.nodup_nil, ↓List.not_mem_nil, ↓not_false_eq_true, ↓forall_const, ↓true_implies, ↓bI, Nat.reduceAdd, Nat.reduceSub, Nat.reduceEqDiff, Int.reduceLT, Int.reduceLE, Nat.reduceLT, Nat.reduceLeDiff, Int.reduceNeg, Nat.reduceBEq, ↓BEq.rfl, ↓beq_self_eq_true, ↓Bool.or_false, ↓Bool.or_true]
      refine ⟨_, rfl, ?_⟩
      rw [h]
      refine ⟨x, 0, m - 1, rfl, fun _ => ?_⟩
      simp -dsimp only [↓wpS, ↓wpE, ↓wpEs, ↓wpEs', ↓wpCs, ↓wpI, ↓callW, ↓okArgs, ↓sigOk, ↓inouts, ↓lents, ↓peeks, ↓peek, ↓pk, ↓slot, ↓setOwn, ↓setC, ↓freeze, ↓isOwn, ↓isIo, ↓slC, ↓isLst, ↓asV, ↓asS, ↓asVs, ↓asSs, ↓isT, ↓R.still, ↓setMany, ↓bindT, ↓wipeE, ↓unwipe, ↓binD, ↓intBin, ↓cmpD, ↓eqD, ↓ordD, ↓ordI, ↓startE, ↓endsOf, ↓ioOf, ↓newsOf, ↓Sl.r, ↓itemsOf, ↓slcD, ↓revD, ↓b1D, ↓b2D, ↓isNoneD, ↓noRefR, ↓noRef, ↓noRefs, ite_self, ↓isTy, ↓List.getElem?_cons_zero, ↓List.getElem?_cons_succ, ↓List.getElem?_nil, ↓Option.join_some, ↓Option.join_none, ↓Option.isSome_some, ↓Option.isSome_none, ↓List.set_cons_zero, ↓List.set_cons_succ, ↓List.replicate, ↓List.length_cons, ↓List.length_nil, ↓List.isEmpty_cons, ↓List.isEmpty_nil, ↓List.all_cons, ↓List.all_nil, ↓List.filterMap_cons, ↓List.filterMap_nil, ↓List.contains_cons, ↓List.contains_nil, ↓Bool.and_true, ↓Bool.true_and, ↓Bool.and_false, ↓Bool.false_and, ↓Bool.not_true, ↓Bool.not_false, ↓if_true, ↓sh_int, ↓sh_bool, ↓sh_none, ↓eqv_ii, ↓eqv_bb, ↓eqv_ss, ↓brn_true, ↓brn_false, brn_true, brn_false, ↓List.any_cons, ↓List.any_nil, ↓if_false, ↓ite_true, ↓ite_false, ↓true_and, ↓and_true, ↓Bool.false_eq_true, ↓reduceCtorEq, ↓decide_true, ↓decide_false, ↓List.map_cons, ↓List.map_nil, ↓Tg.slots, ↓List.nodup_cons, ↓List.nodup_nil, ↓List.not_mem_nil, ↓not_false_eq_true, ↓forall_const, ↓true_implies, ↓bI, Nat.reduceAdd, Nat.reduceSub, Nat.reduceEqDiff, Int.reduceLT, Int.reduceLE, Nat.reduceLT, Nat.reduceLeDiff, Int.reduceNeg, Nat.reduceBEq, ↓BEq.rfl, ↓beq_self_eq_true, ↓Bool.or_false, ↓Bool.or_true]
      exact next _ rfl
    · simp -dsimp only [↓wpS, ↓wpE, ↓wpEs, ↓wpEs', ↓wpCs, ↓wpI, ↓callW, ↓okArgs, ↓sigOk, ↓inouts, ↓lents, ↓peeks, ↓peek, ↓pk, ↓slot, ↓setOwn, ↓setC, ↓freeze, ↓isOwn, ↓isIo, ↓slC, ↓isLst, ↓asV, ↓asS, ↓asVs, ↓asSs, ↓isT, ↓R.still, ↓setMany, ↓bindT, ↓wipeE, ↓unwipe, ↓binD, ↓intBin, ↓cmpD, ↓eqD, ↓ordD, ↓ordI, ↓startE, ↓endsOf, ↓ioOf, ↓newsOf, ↓Sl.r, ↓itemsOf, ↓slcD, ↓revD, ↓b1D, ↓b2D, ↓isNoneD, ↓noRefR, ↓noRef, ↓noRefs, ite_self, ↓isTy, ↓List.getElem?_cons_zero, ↓List.getElem?_cons_succ, ↓List.getElem?_nil, ↓Option.join_some, ↓Option.join_none, ↓Option.isSome_some, ↓Option.isSome_none, ↓List.set_cons_zero, ↓List.set_cons_succ, ↓List.replicate, ↓List.length_cons, ↓List.length_nil, ↓List.isEmpty_cons, ↓List.isEmpty_nil, ↓List.all_cons, ↓List.all_nil, ↓List.filterMap_cons, ↓List.filterMap_nil, ↓List.contains_cons, ↓List.contains_nil, ↓Bool.and_true, ↓Bool.true_and, ↓Bool.and_false, ↓Bool.false_and, ↓Bool.not_true, ↓Bool.not_false, ↓if_true, ↓sh_int, ↓sh_bool, ↓sh_none, ↓eqv_ii, ↓eqv_bb, ↓eqv_ss, ↓brn_true, ↓brn_false, brn_true, brn_false, ↓List.any_cons, ↓List.any_nil, ↓if_false, ↓ite_true, ↓ite_false, ↓true_and, ↓and_true, ↓Bool.false_eq_true, ↓reduceCtorEq, ↓decide_true, ↓decide_false, ↓List.map_cons, ↓List.map_nil, ↓Tg.slots, ↓List.nodup_cons, ↓List.nodup_nil, ↓List.not_mem_nil, ↓not_false_eq_true, ↓forall_const, ↓true_implies, ↓bI, Nat.reduceAdd, Nat.reduceSub, Nat.reduceEqDiff, Int.reduceLT, Int.reduceLE, Nat.reduceLT, Nat.reduceLeDiff, Int.reduceNeg, Nat.reduceBEq, ↓BEq.rfl, ↓beq_self_eq_true, ↓Bool.or_false, ↓Bool.or_true]
      rw [boolsOf_map]
      refine ⟨_, rfl, ?_⟩
      rw [all_id]
      refine brn_of (fun hb => ?_) (fun hb => ?_)
      · have hb' : l.all (inR 0 (m - 1)) = false := by simpa using hb
        have e : ascB m (.tuple l) = false := by simp only [ascB, hb', Bool.false_and]
        rw [e] at k
        simp -dsimp only [↓wpS, ↓wpE, ↓wpEs, ↓wpEs', ↓wpCs, ↓wpI, ↓callW, ↓okArgs, ↓sigOk, ↓inouts, ↓lents, ↓peeks, ↓peek, ↓pk, ↓slot, ↓setOwn, ↓setC, ↓freeze, ↓isOwn, ↓isIo, ↓slC, ↓isLst, ↓asV, ↓asS, ↓asVs, ↓asSs, ↓isT, ↓R.still, ↓setMany, ↓bindT, ↓wipeE, ↓unwipe, ↓binD, ↓intBin, ↓cmpD, ↓eqD, ↓ordD, ↓ordI, ↓startE, ↓endsOf, ↓ioOf, ↓newsOf, ↓Sl.r, ↓itemsOf, ↓slcD, ↓revD, ↓b1D, ↓b2D, ↓isNoneD, ↓noRefR, ↓noRef, ↓noRefs, ite_self, ↓isTy, ↓List.getElem?_cons_zero, ↓List.getElem?_cons_succ, ↓List.getElem?_nil, ↓Option.join_some, ↓Option.join_none, ↓Option.isSome_some, ↓Option.isSome_none, ↓List.set_cons_zero, ↓List.set_cons_succ, ↓List.replicate, ↓List.length_cons, ↓List.length_nil, ↓List.isEmpty_cons, ↓List.isEmpty_nil, ↓List.all_cons, ↓List.all_nil, ↓List.filterMap_cons, ↓List.filterMap_nil, ↓List.contains_cons, ↓List.contains_nil, ↓Bool.and_true, ↓Bool.true_and, ↓Bool.and_false, ↓Bool.false_and, ↓Bool.not_true, ↓Bool.not_false, ↓if_true, ↓sh_int, ↓sh_bool, ↓sh_none, ↓eqv_ii, ↓eqv_bb, ↓eqv_ss, ↓brn_true, ↓brn_false, brn_true, brn_false, ↓List.any_cons, ↓List.any_nil, ↓if_false, ↓ite_true, ↓ite_false, ↓true_and, ↓and_true, ↓Bool.false_eq_true, ↓reduceCtorEq, ↓decide_true, ↓decide_false, ↓List.map_cons, ↓List.map_nil, ↓Tg.slots, ↓List.nodup_cons, ↓List.nodup_nil, ↓List.not_mem_nil, ↓not_false_eq_true, ↓forall_const, ↓true_implies, ↓bI, Nat.reduceAdd, Nat.reduceSub, Nat.reduceEqDiff, Int.reduceLT, Int.reduceLE, Nat.reduceLT, Nat.reduceLeDiff, Int.reduceNeg, Nat.reduceBEq, ↓BEq.rfl, ↓beq_self_eq_true, ↓Bool.or_false, ↓Bool.or_true]
        exact k
      · have hb' : l.all (inR 0 (m - 1)) = true := by simpa using hb
        obtain ⟨ns, rfl, hn⟩ := all_inR hb'
        have e : ascB m (.tuple (ns.map .int)) = adj ns := by simp only [ascB, hb', Bool.true_and, intsOf_map']
        rw [e] at k
        simp -dsimp only [↓wpS, ↓wpE, ↓wpEs, ↓wpEs', ↓wpCs, ↓wpI, ↓callW, ↓okArgs, ↓sigOk, ↓inouts, ↓lents, ↓peeks, ↓peek, ↓pk, ↓slot, ↓setOwn, ↓setC, ↓freeze, ↓isOwn, ↓isIo, ↓slC, ↓isLst, ↓asV, ↓asS, ↓asVs, ↓asSs, ↓isT, ↓R.still, ↓setMany, ↓bindT, ↓wipeE, ↓unwipe, ↓binD, ↓intBin, ↓cmpD, ↓eqD, ↓ordD, ↓ordI, ↓startE, ↓endsOf, ↓ioOf, ↓newsOf, ↓Sl.r, ↓itemsOf, ↓slcD, ↓revD, ↓b1D, ↓b2D, ↓isNoneD, ↓noRefR, ↓noRef, ↓noRefs, ite_self, ↓isTy, ↓List.getElem?_cons_zero, ↓List.getElem?_cons_succ, ↓List.getElem?_nil, ↓Option.join_some, ↓Option.join_none, ↓Option.isSome_some, ↓Option.isSome_none, ↓List.set_cons_zero, ↓List.set_cons_succ, ↓List.replicate, ↓List.length_cons, ↓List.length_nil, ↓List.isEmpty_cons, ↓List.isEmpty_nil, ↓List.all_cons, ↓List.all_nil, ↓List.filterMap_cons, ↓List.filterMap_nil, ↓List.contains_cons, ↓List.contains_nil, ↓Bool.and_true, ↓Bool.true_and, ↓Bool.and_false, ↓Bool.false_and, ↓Bool.not_true, ↓Bool.not_false, ↓if_true, ↓sh_int, ↓sh_bool, ↓sh_none, ↓eqv_ii, ↓eqv_bb, ↓eqv_ss, ↓brn_true, ↓brn_false, brn_true, brn_false, ↓List.any_cons, ↓List.any_nil, ↓if_false, ↓ite_true, ↓ite_false, ↓true_and, ↓and_true, ↓Bool.false_eq_true, ↓reduceCtorEq, ↓decide_true, ↓decide_false, ↓List.map_cons, ↓List.map_nil, ↓Tg.slots, ↓List.nodup_cons, ↓List.nodup_nil, ↓List.not_mem_nil, ↓not_false_eq_true, ↓forall_const, ↓true_implies, ↓bI, Nat.reduceAdd, Nat.reduceSub, Nat.reduceEqDiff, Int.reduceLT, Int.reduceLE, Nat.reduceLT, Nat.reduceLeDiff, Int.reduceNeg, Nat.reduceBEq, ↓BEq.rfl, ↓beq_self_eq_true, ↓Bool.or_false, ↓Bool.or_true]
        rw [cut_drop1, ← List.map_drop, pairs2_ints]
        rw [List.length_map] at hl
        refine ⟨fun z => z.elim, by rw [List.length_map, List.length_zip]; show _ < 16777216; omega, lc_map (fun d => match d with | .tuple [.int a, .int b] => .bool (decide (a < b)) | _ => .none) (fun x acc N hx next => ?_) ?_⟩
        · obtain ⟨p, _, rfl⟩ := List.mem_map.mp hx
          unfold f_is_ascending_e1
          simp -dsimp only [↓wpS, ↓wpE, ↓wpEs, ↓wpEs', ↓wpCs, ↓wpI, ↓callW, ↓okArgs, ↓sigOk, ↓inouts, ↓lents, ↓peeks, ↓peek, ↓pk, ↓slot, ↓setOwn, ↓setC, ↓freeze, ↓isOwn, ↓isIo, ↓slC, ↓isLst, ↓asV, ↓asS, ↓asVs, ↓asSs, ↓isT, ↓R.still, ↓setMany, ↓bindT, ↓wipeE, ↓unwipe, ↓binD, ↓intBin, ↓cmpD, ↓eqD, ↓ordD, ↓ordI, ↓startE, ↓endsOf, ↓ioOf, ↓newsOf, ↓Sl.r, ↓itemsOf, ↓slcD, ↓revD, ↓b1D, ↓b2D, ↓isNoneD, ↓noRefR, ↓noRef, ↓noRefs, ite_self, ↓isTy, ↓List.getElem?_cons_zero, ↓List.getElem?_cons_succ, ↓List.getElem?_nil, ↓Option.join_some, ↓Option.join_none, ↓Option.isSome_some, ↓Option.isSome_none, ↓List.set_cons_zero, ↓List.set_cons_succ, ↓List.replicate, ↓List.length_cons, ↓List.length_nil, ↓List.isEmpty_cons, ↓List.isEmpty_nil, ↓List.all_cons, ↓List.all_nil, ↓List.filterMap_cons, ↓List.filterMap_nil, ↓List.contains_cons, ↓List.contains_nil, ↓Bool.and_true, ↓Bool.true_and, ↓Bool.and_false, ↓Bool.false_and, ↓Bool.not_true, ↓Bool.not_false, ↓if_true, ↓sh_int, ↓sh_bool, ↓sh_none, ↓eqv_ii, ↓eqv_bb, ↓eqv_ss, ↓brn_true, ↓brn_false, brn_true, brn_false, ↓List.any_cons, ↓List.any_nil, ↓if_false, ↓ite_true, ↓ite_false, ↓true_and, ↓and_true, ↓Bool.false_eq_true, ↓reduceCtorEq, ↓decide_true, ↓decide_false, ↓List.map_cons, ↓List.map_nil, ↓Tg.slots, ↓List.nodup_cons, ↓List.nodup_nil, ↓List.not_mem_nil, ↓not_false_eq_true, ↓forall_const, ↓true_implies, ↓bI, Nat.reduceAdd, Nat.reduceSub, Nat.reduceEqDiff, Int.reduceLT, Int.reduceLE, Nat.reduceLT, Nat.reduceLeDiff, Int.reduceNeg, Nat.reduceBEq, ↓BEq.rfl, ↓beq_self_eq_true, ↓Bool.or_false, ↓Bool.or_true]
          exact next _ rfl
        · simp -dsimp only [↓wpS, ↓wpE, ↓wpEs, ↓wpEs', ↓wpCs, ↓wpI, ↓callW, ↓okArgs, ↓sigOk, ↓inouts, ↓lents, ↓peeks, ↓peek, ↓pk, ↓slot, ↓setOwn, ↓setC, ↓freeze, ↓isOwn, ↓isIo, ↓slC, ↓isLst, ↓asV, ↓asS, ↓asVs, ↓asSs, ↓isT, ↓R.still, ↓setMany, ↓bindT, ↓wipeE, ↓unwipe, ↓binD, ↓intBin, ↓cmpD, ↓eqD, ↓ordD, ↓ordI, ↓startE, ↓endsOf, ↓ioOf, ↓newsOf, ↓Sl.r, ↓itemsOf, ↓slcD, ↓revD, ↓b1D, ↓b2D, ↓isNoneD, ↓noRefR, ↓noRef, ↓noRefs, ite_self, ↓isTy, ↓List.getElem?_cons_zero, ↓List.getElem?_cons_succ, ↓List.getElem?_nil, ↓Option.join_some, ↓Option.join_none, ↓Option.isSome_some, ↓Option.isSome_none, ↓List.set_cons_zero, ↓List.set_cons_succ, ↓List.replicate, ↓List.length_cons, ↓List.length_nil, ↓List.isEmpty_cons, ↓List.isEmpty_nil, ↓List.all_cons, ↓List.all_nil, ↓List.filterMap_cons, ↓List.filterMap_nil, ↓List.contains_cons, ↓List.contains_nil, ↓Bool.and_true, ↓Bool.true_and, ↓Bool.and_false, ↓Bool.false_and, ↓Bool.not_true, ↓Bool.not_false, ↓if_true, ↓sh_int, ↓sh_bool, ↓sh_none, ↓eqv_ii, ↓eqv_bb, ↓eqv_ss, ↓brn_true, ↓brn_false, brn_true, brn_false, ↓List.any_cons, ↓List.any_nil, ↓if_false, ↓ite_true, ↓ite_false, ↓true_and, ↓and_true, ↓Bool.false_eq_true, ↓reduceCtorEq, ↓decide_true, ↓decide_false, ↓List.map_cons, ↓List.map_nil, ↓Tg.slots, ↓List.nodup_cons, ↓List.nodup_nil, ↓List.not_mem_nil, ↓not_false_eq_true, ↓forall_const, ↓true_implies, ↓bI, Nat.reduceAdd, Nat.reduceSub, Nat.reduceEqDiff, Int.reduceLT, Int.reduceLE, Nat.reduceLT, Nat.reduceLeDiff, Int.reduceNeg, Nat.reduceBEq, ↓BEq.rfl, ↓beq_self_eq_true, ↓Bool.or_false, ↓Bool.or_true]
          rw [List.map_map]
          have e2 : ((fun d => match d with | .tuple [.int a, .int b] => PyData.bool (decide (a < b)) | _ => .none) ∘ fun p : Int × Int => PyData.tuple [.int p.1, .int p.2]) = fun p : Int × Int => PyData.bool (decide (p.1 < p.2)) := rfl
          rw [e2, boolsOf_map]
          refine ⟨_, rfl, ?_⟩
          rw [all_id, adj_zip]
          exact k
  | _ =>
    simp -dsimp only [↓wpS, ↓wpE, ↓wpEs, ↓wpEs', ↓wpCs, ↓wpI, ↓callW, ↓okArgs, ↓sigOk, ↓inouts, ↓lents, ↓peeks, ↓peek, ↓pk, ↓slot, ↓setOwn, ↓setC, ↓freeze, ↓isOwn, ↓isIo, ↓slC, ↓isLst, ↓asV, ↓asS, ↓asVs, ↓asSs, ↓isT, ↓R.still, ↓setMany, ↓bindT, ↓wipeE, ↓unwipe, ↓binD, ↓intBin, ↓cmpD, ↓eqD, ↓ordD, ↓ordI, ↓startE, ↓endsOf, ↓ioOf, ↓newsOf, ↓Sl.r, ↓itemsOf, ↓slcD, ↓revD, ↓b1D, ↓b2D, ↓isNoneD, ↓noRefR, ↓noRef, ↓noRefs, ite_self, ↓isTy, ↓List.getElem?_cons_zero, ↓List.getElem?_cons_succ, ↓List.getElem?_nil, ↓Option.join_some, ↓Option.join_none, ↓Option.isSome_some, ↓Option.isSome_none, ↓List.set_cons_zero, ↓List.set_cons_succ, ↓List.replicate, ↓List.length_cons, ↓List.length_nil, ↓List.isEmpty_cons, ↓List.isEmpty_nil, ↓List.all_cons, ↓List.all_nil, ↓List.filterMap_cons, ↓List.filterMap_nil, ↓List.contains_cons, ↓List.contains_nil, ↓Bool.and_true, ↓Bool.true_and, ↓Bool.and_false, ↓Bool.false_and, ↓Bool.not_true, ↓Bool.not_false, ↓if_true, ↓sh_int, ↓sh_bool, ↓sh_none, ↓eqv_ii, ↓eqv_bb, ↓eqv_ss, ↓brn_true, ↓brn_false, brn_true, brn_false, ↓List.any_cons, ↓List.any_nil, ↓if_false, ↓ite_true, ↓ite_false, ↓true_and, ↓and_true, ↓Bool.false_eq_true, ↓reduceCtorEq, ↓decide_true, ↓decide_false, ↓List.map_cons, ↓List.map_nil, ↓Tg.slots, ↓List.nodup_cons, ↓List.nodup_nil, ↓List.not_mem_nil, ↓not_false_eq_true, ↓forall_const, ↓true_implies, ↓bI, Nat.reduceAdd, Nat.reduceSub, Nat.reduceEqDiff, Int.reduceLT, Int.reduceLE, Nat.reduceLT, Nat.reduceLeDiff, Int.reduceNeg, Nat.reduceBEq, ↓BEq.rfl, ↓beq_self_eq_true, ↓Bool.or_false, ↓Bool.or_true]
    exact k
theorem sorted_uniq {a b : List Int} (ha : a.Pairwise (· < ·)) (hb : b.Pairwise (· < ·)) (h : ∀ x, x ∈ a ↔ x ∈ b) : a = b := by
  have na : a.Nodup := ha.imp fun h => by omega
  have nb : b.Nodup := hb.imp fun h => by omega
  exact List.Perm.eq_of_pairwise (le := fun x y : Int => x < y) (fun x y _ _ h1 h2 => by omega) ha hb ((List.perm_ext_iff_of_nodup na nb).mpr h)
theorem law_is_tuple_ok (Φ : Tbl) (h : Φ "_law_is_integer" = withinSp) : Impl Φ [false, false] 3 f_law_is_tuple ascSp := by
  rintro ds Q ⟨d, m, rfl, hl, k⟩ _
  unfold f_law_is_tuple
  cases d with
  | tuple l =>
    have hl := hl l rfl
    simp -dsimp only [↓wpS, ↓wpE, ↓wpEs, ↓wpEs', ↓wpCs, ↓wpI, ↓callW, ↓okArgs, ↓sigOk, ↓inouts, ↓lents, ↓peeks, ↓peek, ↓pk, ↓slot, ↓setOwn, ↓setC, ↓freeze, ↓isOwn, ↓isIo, ↓slC, ↓isLst, ↓asV, ↓asS, ↓asVs, ↓asSs, ↓isT, ↓R.still, ↓setMany, ↓bindT, ↓wipeE, ↓unwipe, ↓binD, ↓intBin, ↓cmpD, ↓eqD, ↓ordD, ↓ordI, ↓startE, ↓endsOf, ↓ioOf, ↓newsOf, ↓Sl.r, ↓itemsOf, ↓slcD, ↓revD, ↓b1D, ↓b2D, ↓isNoneD, ↓noRefR, ↓noRef, ↓noRefs, ite_self, ↓isTy, ↓List.getElem?_cons_zero, ↓List.getElem?_cons_succ, ↓List.getElem?_nil, ↓Option.join_some, ↓Option.join_none, ↓Option.isSome_some, ↓Option.isSome_none, ↓List.set_cons_zero, ↓List.set_cons_succ, ↓List.replicate, ↓List.length_cons, ↓List.length_nil, ↓List.isEmpty_cons, ↓List.isEmpty_nil, ↓List.all_cons, ↓List.all_nil, ↓List.filterMap_cons, ↓List.filterMap_nil, ↓List.contains_cons, ↓List.contains_nil, ↓Bool.and_true, ↓Bool.true_and, ↓Bool.and_false, ↓Bool.false_and, ↓Bool.not_true, ↓Bool.not_false, ↓if_true, ↓sh_int, ↓sh_bool, ↓sh_none, ↓eqv_ii, ↓eqv_bb, ↓eqv_ss, ↓brn_true, ↓brn_false, brn_true, brn_false, ↓List.any_cons, ↓List.any_nil, ↓if_false, ↓ite_true, ↓ite_false, ↓true_and, ↓and_true, ↓Bool.false_eq_true, ↓reduceCtorEq, ↓decide_true, ↓decide_false, ↓List.map_cons, ↓List.map_nil, ↓Tg.slots, ↓List.nodup_cons, ↓List.nodup_nil, ↓List.not_mem_nil, ↓not_false_eq_true, ↓forall_const, ↓true_implies, ↓bI, Nat.reduceAdd, Nat.reduceSub, Nat.reduceEqDiff, Int.reduceLT, Int.reduceLE, Nat.reduceLT, Nat.reduceLeDiff, Int.reduceNeg, Nat.reduceBEq, ↓BEq.rfl, ↓beq_self_eq_true, ↓Bool.or_false, ↓Bool.or_true]
    refine ⟨by show l.length < 16777216; omega, lc_map (fun x => .bool (inR 0 (m - 1) x)) (fun x acc N hx next => ?_) ?_⟩
    · unfold f_law_is_tuple_e1
      simp -dsimp only [↓wpS, ↓wpE, ↓wpEs, ↓wpEs', ↓wpCs, ↓wpI, ↓callW, ↓okArgs, ↓sigOk, ↓inouts, ↓lents, ↓peeks, ↓peek, ↓pk, ↓slot, ↓setOwn, ↓setC, ↓freeze, ↓isOwn, ↓isIo, ↓slC, ↓isLst, ↓asV, ↓asS, ↓asVs, ↓asSs, ↓isT, ↓R.still, ↓setMany, ↓bindT, ↓wipeE, ↓unwipe, ↓binD, ↓intBin, ↓cmpD, ↓eqD, ↓ordD, ↓ordI, ↓startE, ↓endsOf, ↓ioOf, ↓newsOf, ↓Sl.r, ↓itemsOf, ↓slcD, ↓revD, ↓b1D, ↓b2D, ↓isNoneD, ↓noRefR, ↓noRef, ↓noRefs, ite_self, ↓isTy, ↓List.getElem?_cons_zero, ↓List.getElem?_cons_succ, ↓List.getElem?_nil, ↓Option.join_some, ↓Option.join_none, ↓Option.isSome_some, ↓Option.isSome_none, ↓List.set_cons_zero, ↓List.set_cons_succ, ↓List.replicate, ↓List.length_cons, ↓List.length_nil, ↓List.isEmpty_cons, ↓List.isEmpty_nil, ↓List.all_cons, ↓List.all_nil, ↓List.filterMap_cons, ↓List.filterMap_nil, ↓List.contains_cons, ↓List.contains_nil, ↓Bool.and_true, ↓Bool.true_and, ↓Bool.and_false, ↓Bool.false_and, ↓Bool.not_true, ↓Bool.not_false, ↓if_true, ↓sh_int, ↓sh_bool, ↓sh_none, ↓eqv_ii, ↓eqv_bb, ↓eqv_ss, ↓brn_true, ↓brn_false, brn_true, brn_false, ↓List.any_cons, ↓List.any_nil, ↓if_false, ↓ite_true, ↓ite_false, ↓true_and, ↓and_true, ↓Bool.false_eq_true, ↓reduceCtorEq, ↓decide_true, ↓decide_false, ↓List.map_cons, ↓List.map_nil, ↓Tg.slots, ↓List.nodup_cons, ↓List.nodup_nil, ↓List.not_mem_nil, ↓not_false_eq_true, ↓forall_const, ↓true_implies, ↓bI, Nat.reduceAdd, Nat.reduceSub, Nat.reduceEqDiff, Int.reduceLT, Int.reduceLE, Nat.reduceLT, Nat.reduceLeDiff, Int.reduceNeg, Nat.reduceBEq, ↓BEq.rfl, ↓beq_self_eq_true, ↓Bool.or_false, ↓Bool.or_true]
      refine ⟨_, rfl, ?_⟩
      rw [h]
      refine ⟨x, 0, m - 1, rfl, fun _ => ?_⟩
      simp -dsimp only [↓wpS, ↓wpE, ↓wpEs, ↓wpEs', ↓wpCs, ↓wpI, ↓callW, ↓okArgs, ↓sigOk, ↓inouts, ↓lents, ↓peeks, ↓peek, ↓pk, ↓slot, ↓setOwn, ↓setC, ↓freeze, ↓isOwn, ↓isIo, ↓slC, ↓isLst, ↓asV, ↓asS, ↓asVs, ↓asSs, ↓isT, ↓R.still, ↓setMany, ↓bindT, ↓wipeE, ↓unwipe, ↓binD, ↓intBin, ↓cmpD, ↓eqD, ↓ordD, ↓ordI, ↓startE, ↓endsOf, ↓ioOf, ↓newsOf, ↓Sl.r, ↓itemsOf, ↓slcD, ↓revD, ↓b1D, ↓b2D, ↓isNoneD, ↓noRefR, ↓noRef, ↓noRefs, ite_self, ↓isTy, ↓List.getElem?_cons_zero, ↓List.getElem?_cons_succ, ↓List.getElem?_nil, ↓Option.join_some, ↓Option.join_none, ↓Option.isSome_some, ↓Option.isSome_none, ↓List.set_cons_zero, ↓List.set_cons_succ, ↓List.replicate, ↓List.length_cons, ↓List.length_nil, ↓List.isEmpty_cons, ↓List.isEmpty_nil, ↓List.all_cons, ↓List.all_nil, ↓List.filterMap_cons, ↓List.filterMap_nil, ↓List.contains_cons, ↓List.contains_nil, ↓Bool.and_true, ↓Bool.true_and, ↓Bool.and_false, ↓Bool.false_and, ↓Bool.not_true, ↓Bool.not_false, ↓if_true, ↓sh_int, ↓sh_bool, ↓sh_none, ↓eqv_ii, ↓eqv_bb, ↓eqv_ss, ↓brn_true, ↓brn_false, brn_true, brn_false, ↓List.any_cons, ↓List.any_nil, ↓if_false, ↓ite_true, ↓ite_false, ↓true_and, ↓and_true, ↓Bool.false_eq_true, ↓reduceCtorEq, ↓decide_true, ↓decide_false, ↓List.map_cons, ↓List.map_nil, ↓Tg.slots, ↓List.nodup_cons, ↓List.nodup_nil, ↓List.not_mem_nil, ↓not_false_eq_true, ↓forall_const, ↓true_implies, ↓bI, Nat.reduceAdd, Nat.reduceSub, Nat.reduceEqDiff, Int.reduceLT, Int.reduceLE, Nat.reduceLT, Nat.reduceLeDiff, Int.reduceNeg, Nat.reduceBEq, ↓BEq.rfl, ↓beq_self_eq_true, ↓Bool.or_false, ↓Bool.or_true]
      exact next _ rfl
    · simp -dsimp only [↓wpS, ↓wpE, ↓wpEs, ↓wpEs', ↓wpCs, ↓wpI, ↓callW, ↓okArgs, ↓sigOk, ↓inouts, ↓lents, ↓peeks, ↓peek, ↓pk, ↓slot, ↓setOwn, ↓setC, ↓freeze, ↓isOwn, ↓isIo, ↓slC, ↓isLst, ↓asV, ↓asS, ↓asVs, ↓asSs, ↓isT, ↓R.still, ↓setMany, ↓bindT, ↓wipeE, ↓unwipe, ↓binD, ↓intBin, ↓cmpD, ↓eqD, ↓ordD, ↓ordI, ↓startE, ↓endsOf, ↓ioOf, ↓newsOf, ↓Sl.r, ↓itemsOf, ↓slcD, ↓revD, ↓b1D, ↓b2D, ↓isNoneD, ↓noRefR, ↓noRef, ↓noRefs, ite_self, ↓isTy, ↓List.getElem?_cons_zero, ↓List.getElem?_cons_succ, ↓List.getElem?_nil, ↓Option.join_some, ↓Option.join_none, ↓Option.isSome_some, ↓Option.isSome_none, ↓List.set_cons_zero, ↓List.set_cons_succ, ↓List.replicate, ↓List.length_cons, ↓List.length_nil, ↓List.isEmpty_cons, ↓List.isEmpty_nil, ↓List.all_cons, ↓List.all_nil, ↓List.filterMap_cons, ↓List.filterMap_nil, ↓List.contains_cons, ↓List.contains_nil, ↓Bool.and_true, ↓Bool.true_and, ↓Bool.and_false, ↓Bool.false_and, ↓Bool.not_true, ↓Bool.not_false, ↓if_true, ↓sh_int, ↓sh_bool, ↓sh_none, ↓eqv_ii, ↓eqv_bb, ↓eqv_ss, ↓brn_true, ↓brn_false, brn_true, brn_false, ↓List.any_cons, ↓List.any_nil, ↓if_false, ↓ite_true, ↓ite_false, ↓true_and, ↓and_true, ↓Bool.false_eq_true, ↓reduceCtorEq, ↓decide_true, ↓decide_false, ↓List.map_cons, ↓List.map_nil, ↓Tg.slots, ↓List.nodup_cons, ↓List.nodup_nil, ↓List.not_mem_nil, ↓not_false_eq_true, ↓forall_const, ↓true_implies, ↓bI, Nat.reduceAdd, Nat.reduceSub, Nat.reduceEqDiff, Int.reduceLT, Int.reduceLE, Nat.reduceLT, Nat.reduceLeDiff, Int.reduceNeg, Nat.reduceBEq, ↓BEq.rfl, ↓beq_self_eq_true, ↓Bool.or_false, ↓Bool.or_true]
      refine mem_false (fun hb' => ?_) (fun hb' => ?_)
      · have e : ascB m (.tuple l) = false := by simp only [ascB, hb', Bool.false_and]
        rw [e] at k
        simp -dsimp only [↓wpS, ↓wpE, ↓wpEs, ↓wpEs', ↓wpCs, ↓wpI, ↓callW, ↓okArgs, ↓sigOk, ↓inouts, ↓lents, ↓peeks, ↓peek, ↓pk, ↓slot, ↓setOwn, ↓setC, ↓freeze, ↓isOwn, ↓isIo, ↓slC, ↓isLst, ↓asV, ↓asS, ↓asVs, ↓asSs, ↓isT, ↓R.still, ↓setMany, ↓bindT, ↓wipeE, ↓unwipe, ↓binD, ↓intBin, ↓cmpD, ↓eqD, ↓ordD, ↓ordI, ↓startE, ↓endsOf, ↓ioOf, ↓newsOf, ↓Sl.r, ↓itemsOf, ↓slcD, ↓revD, ↓b1D, ↓b2D, ↓isNoneD, ↓noRefR, ↓noRef, ↓noRefs, ite_self, ↓isTy, ↓List.getElem?_cons_zero, ↓List.getElem?_cons_succ, ↓List.getElem?_nil, ↓Option.join_some, ↓Option.join_none, ↓Option.isSome_some, ↓Option.isSome_none, ↓List.set_cons_zero, ↓List.set_cons_succ, ↓List.replicate, ↓List.length_cons, ↓List.length_nil, ↓List.isEmpty_cons, ↓List.isEmpty_nil, ↓List.all_cons, ↓List.all_nil, ↓List.filterMap_cons, ↓List.filterMap_nil, ↓List.contains_cons, ↓List.contains_nil, ↓Bool.and_true, ↓Bool.true_and, ↓Bool.and_false, ↓Bool.false_and, ↓Bool.not_true, ↓Bool.not_false, ↓if_true, ↓sh_int, ↓sh_bool, ↓sh_none, ↓eqv_ii, ↓eqv_bb, ↓eqv_ss, ↓brn_true, ↓brn_false, brn_true, brn_false, ↓List.any_cons, ↓List.any_nil, ↓if_false, ↓ite_true, ↓ite_false, ↓true_and, ↓and_true, ↓Bool.false_eq_true, ↓reduceCtorEq, ↓decide_true, ↓decide_false, ↓List.map_cons, ↓List.map_nil, ↓Tg.slots, ↓List.nodup_cons, ↓List.nodup_nil, ↓List.not_mem_nil, ↓not_false_eq_true, ↓forall_const, ↓true_implies, ↓bI, Nat.reduceAdd, Nat.reduceSub, Nat.reduceEqDiff, Int.reduceLT, Int.reduceLE, Nat.reduceLT, Nat.reduceLeDiff, Int.reduceNeg, Nat.reduceBEq, ↓BEq.rfl, ↓beq_self_eq_true, ↓Bool.or_false, ↓Bool.or_true]
        exact k
      · obtain ⟨ns, rfl, hn⟩ := all_inR hb'
        have e : ascB m (.tuple (ns.map .int)) = adj ns := by simp only [ascB, hb', Bool.true_and, intsOf_map']
        rw [e] at k
        simp -dsimp only [↓wpS, ↓wpE, ↓wpEs, ↓wpEs', ↓wpCs, ↓wpI, ↓callW, ↓okArgs, ↓sigOk, ↓inouts, ↓lents, ↓peeks, ↓peek, ↓pk, ↓slot, ↓setOwn, ↓setC, ↓freeze, ↓isOwn, ↓isIo, ↓slC, ↓isLst, ↓asV, ↓asS, ↓asVs, ↓asSs, ↓isT, ↓R.still, ↓setMany, ↓bindT, ↓wipeE, ↓unwipe, ↓binD, ↓intBin, ↓cmpD, ↓eqD, ↓ordD, ↓ordI, ↓startE, ↓endsOf, ↓ioOf, ↓newsOf, ↓Sl.r, ↓itemsOf, ↓slcD, ↓revD, ↓b1D, ↓b2D, ↓isNoneD, ↓noRefR, ↓noRef, ↓noRefs, ite_self, ↓isTy, ↓List.getElem?_cons_zero, ↓List.getElem?_cons_succ, ↓List.getElem?_nil, ↓Option.join_some, ↓Option.join_none, ↓Option.isSome_some, ↓Option.isSome_none, ↓List.set_cons_zero, ↓List.set_cons_succ, ↓List.replicate, ↓List.length_cons, ↓List.length_nil, ↓List.isEmpty_cons, ↓List.isEmpty_nil, ↓List.all_cons, ↓List.all_nil, ↓List.filterMap_cons, ↓List.filterMap_nil, ↓List.contains_cons, ↓List.contains_nil, ↓Bool.and_true, ↓Bool.true_and, ↓Bool.and_false, ↓Bool.false_and, ↓Bool.not_true, ↓Bool.not_false, ↓if_true, ↓sh_int, ↓sh_bool, ↓sh_none, ↓eqv_ii, ↓eqv_bb, ↓eqv_ss, ↓brn_true, ↓brn_false, brn_true, brn_false, ↓List.any_cons, ↓List.any_nil, ↓if_false, ↓ite_true, ↓ite_false, ↓true_and, ↓and_true, ↓Bool.false_eq_true, ↓reduceCtorEq, ↓decide_true, ↓decide_false, ↓List.map_cons, ↓List.map_nil, ↓Tg.slots, ↓List.nodup_cons, ↓List.nodup_nil, ↓List.not_mem_nil, ↓not_false_eq_true, ↓forall_const, ↓true_implies, ↓bI, Nat.reduceAdd, Nat.reduceSub, Nat.reduceEqDiff, Int.reduceLT, Int.reduceLE, Nat.reduceLT, Nat.reduceLeDiff, Int.reduceNeg, Nat.reduceBEq, ↓BEq.rfl, ↓beq_self_eq_true, ↓Bool.or_false, ↓Bool.or_true]
        rw [intsOf_map']
        refine ⟨ns, rfl, by rw [List.length_map] at hl; exact hl, fun ms h1 h2 => ?_⟩
        refine ⟨sh_intsL, sh_intsL, ?_⟩
        rw [eqv_ints]
        have e3 : decide (ns = ms) = adj ns := by
          by_cases hd : ns = ms
          · rw [decide_eq_true hd]; exact (adj_iff.mpr (hd ▸ h1)).symm
          · rw [decide_eq_false hd]
            cases ha : adj ns
            · rfl
            · exact absurd (sorted_uniq (adj_iff.mp ha) h1 fun x => (h2 x).symm) hd
        rw [e3]
        exact k
  | _ =>
    simp -dsimp only [↓wpS, ↓wpE, ↓wpEs, ↓wpEs', ↓wpCs, ↓wpI, ↓callW, ↓okArgs, ↓sigOk, ↓inouts, ↓lents, ↓peeks, ↓peek, ↓pk, ↓slot, ↓setOwn, ↓setC, ↓freeze, ↓isOwn, ↓isIo, ↓slC, ↓isLst, ↓asV, ↓asS, ↓asVs, ↓asSs, ↓isT, ↓R.still, ↓setMany, ↓bindT, ↓wipeE, ↓unwipe, ↓binD, ↓intBin, ↓cmpD, ↓eqD, ↓ordD, ↓ordI, ↓startE, ↓endsOf, ↓ioOf, ↓newsOf, ↓Sl.r, ↓itemsOf, ↓slcD, ↓revD, ↓b1D, ↓b2D, ↓isNoneD, ↓noRefR, ↓noRef, ↓noRefs, ite_self, ↓isTy, ↓List.getElem?_cons_zero, ↓List.getElem?_cons_succ, ↓List.getElem?_nil, ↓Option.join_some, ↓Option.join_none, ↓Option.isSome_some, ↓Option.isSome_none, ↓List.set_cons_zero, ↓List.set_cons_succ, ↓List.replicate, ↓List.length_cons, ↓List.length_nil, ↓List.isEmpty_cons, ↓List.isEmpty_nil, ↓List.all_cons, ↓List.all_nil, ↓List.filterMap_cons, ↓List.filterMap_nil, ↓List.contains_cons, ↓List.contains_nil, ↓Bool.and_true, ↓Bool.true_and, ↓Bool.and_false, ↓Bool.false_and, ↓Bool.not_true, ↓Bool.not_false, ↓if_true, ↓sh_int, ↓sh_bool, ↓sh_none, ↓eqv_ii, ↓eqv_bb, ↓eqv_ss, ↓brn_true, ↓brn_false, brn_true, brn_false, ↓List.any_cons, ↓List.any_nil, ↓if_false, ↓ite_true, ↓ite_false, ↓true_and, ↓and_true, ↓Bool.false_eq_true, ↓reduceCtorEq, ↓decide_true, ↓decide_false, ↓List.map_cons, ↓List.map_nil, ↓Tg.slots, ↓List.nodup_cons, ↓List.nodup_nil, ↓List.not_mem_nil, ↓not_false_eq_true, ↓forall_const, ↓true_implies, ↓bI, Nat.reduceAdd, Nat.reduceSub, Nat.reduceEqDiff, Int.reduceLT, Int.reduceLE, Nat.reduceLT, Nat.reduceLeDiff, Int.reduceNeg, Nat.reduceBEq, ↓BEq.rfl, ↓beq_self_eq_true, ↓Bool.or_false, ↓Bool.or_true]
    exact k
end Co

set_option linter.all false
namespace Co
open PySem
def rng (n : Nat) : List Int := (List.range n).map fun (k : Nat) => (k : Int)
theorem rangeL_eq (n : Nat) : rangeL 0 n = (rng n).map .int := by
  unfold rangeL rng
  rw [List.map_map]
  exact List.map_congr_left fun k _ => by simp
theorem rng_len (n : Nat) : (rng n).length = n := by simp [rng]
theorem rng_mem {n : Nat} {x : Int} : x ∈ rng n ↔ 0 ≤ x ∧ x < n := by
  unfold rng
  constructor
  · intro h
    obtain ⟨k, hk, rfl⟩ := List.mem_map.mp h
    have := List.mem_range.mp hk
    omega
  · intro h
    exact List.mem_map.mpr ⟨x.toNat, List.mem_range.mpr (by omega), by omega⟩
theorem rng_asc (n : Nat) : asc n (rng n) := by
  refine ⟨?_, fun x hx => rng_mem.mp hx⟩
  unfold rng
  rw [List.pairwise_map]
  exact List.pairwise_lt_range.imp fun h => by omega
theorem any_ints {l : List Int} {x : Int} : ((l.map PyData.int).any fun z => PyData.eqv z (.int x)) = l.contains x := by
  induction l with
  | nil => rfl
  | cons y l ih =>
    rw [List.map_cons, List.any_cons, ih, eqv_ii, List.contains_cons]
    congr 1
    by_cases h : y = x
    · subst h; simp
    · simp [h, Ne.symm h]
theorem mem_ints {g : List Int} {x : Int} {K : Bool → Prop} (k : K (g.contains x)) : memD (.int x) (.tuple (g.map .int)) K :=
  ⟨rfl, sh_intsT, by rw [any_ints]; exact k⟩
theorem mem_intsL {g : List Int} {x : Int} {K : Bool → Prop} (k : K (g.contains x)) : memD (.int x) (.list (g.map .int)) K :=
  ⟨rfl, sh_intsL, by rw [any_ints]; exact k⟩
theorem fm_ints (p : Int → Bool) : ∀ l : List Int, (l.map PyData.int).filterMap (fun d => match d with | PyData.int x => if p x = true then some (PyData.int x) else none | _ => none) = (l.filter p).map PyData.int
  | [] => rfl
  | x :: l => by
    rw [List.map_cons, List.filterMap_cons, List.filter_cons]
    cases h : p x <;> simp [h, fm_ints p l]
theorem lc_ints {bind : PyData → Env → (Env → Prop) → Prop} {conds : Env → (Bool → Env → Prop) → Prop} {elt : Env → (PyData → Env → Prop) → Prop} {own : List Nat} {l : List Int} {env : Env} {K : List PyData → Env → Prop} (p : Int → Bool)
    (hs : ∀ x acc (N : List PyData → Env → Prop), x ∈ l → (∀ e, wipeE e own = wipeE env own → if p x = true then N (acc ++ [.int x]) e else N acc e) → bind (.int x) (wipeE env own) fun env1 => conds env1 fun b env2 =>
      if b = true then elt env2 fun y env3 => N (acc ++ [y]) env3 else N acc env2)
    (hd : K ((l.filter p).map .int) (wipeE env own)) : lcGo bind conds elt own (l.map .int) [] env K := by
  refine lc_pure (fun d => match d with | .int x => if p x = true then some (.int x) else none | _ => none) (fun d acc N hd next => ?_) (by rw [fm_ints]; exact hd)
  obtain ⟨x, hx, rfl⟩ := List.mem_map.mp hd
  refine hs x acc N hx fun e he => ?_
  have := next e he
  by_cases h : p x = true
  · rw [if_pos h]
    simp only [if_pos h] at this; exact this
  · rw [if_neg h]
    simp only [if_neg h] at this; exact this
/-! ### who can take some posts -/
def canB (ps : List (List Int)) (x : Int) (p : Int) : Bool := (ps.getD p.toNat []).contains x
def tkL (n : Nat) (ps : List (List Int)) (g ns : List Int) : List Int := (rng n).filter fun x => !g.contains x && ns.any (canB ps x)
def takersSp : Spec := fun ds Q => ∃ n ps g ns, ds = [houseD n ps, intsD g, intsD ns] ∧ n ≤ 20 ∧ ps.length ≤ 20 ∧ ns.length ≤ 1000 ∧ (∀ p ∈ ns, 0 ≤ p ∧ p < ps.length) ∧ Q (.own (.list ((tkL n ps g ns).map .int))) []
theorem idx_ps {Φ : Tbl} {ps : List (List Int)} {p : Int} {K : PyData → Prop} (h0 : 0 ≤ p) (h1 : p < ps.length) (k : K (intsD (ps.getD p.toNat []))) : stp (idxD (.tuple (ps.map intsD)) (.int p)) K .mk := by
  refine stp_atT h0 (by rw [List.length_map]; exact h1) fun v _ hv => ?_
  obtain ⟨l, rfl, hl⟩ := map_some hv
  have e : ps.getD p.toNat [] = l := by rw [List.getD_eq_getElem?_getD, hl]; rfl
  rw [e] at k; exact k
end Co

set_option linter.all false
namespace Co
open PySem
theorem filter_nil {α : Type} (f : α → Bool) (l : List α) : (!decide (l.filter f = [])) = l.any f := by
  induction l with
  | nil => rfl
  | cons x l ih =>
    rw [List.filter_cons, List.any_cons]
    cases h : f x
    · rw [if_neg (by decide), Bool.false_or]; exact ih
    · simp
def spareV (n : Nat) (ps : List (List Int)) (g ns : List Int) : Int := ((tkL n ps g ns).length : Nat) - (ns.length : Nat)
def spareSp : Spec := fun ds Q => ∃ n ps g ns, ds = [houseD n ps, intsD g, intsD ns] ∧ n ≤ 20 ∧ ps.length ≤ 20 ∧ ns.length ≤ 1000 ∧ (∀ p ∈ ns, 0 ≤ p ∧ p < ps.length) ∧ Q (.val (.int (spareV n ps g ns))) []
/-! ### drawn: who is gone; all sets -/
def goneSp : Spec := fun ds Q => ∃ t pen n ps, ∃ rare : Nat, ds = [pen, houseD n ps, .int rare] ∧ Pen t pen ∧ t < 800000 ∧ n ≤ 20 ∧ 0 < rare ∧ rare ≤ 100 ∧ ∀ g pen', asc n g → Pen (t + n) pen' → Q (.val (intsD g)) [pen']
def subs : Nat → List (List Int)
  | 0 => [[]]
  | m + 1 => subs m ++ (subs m).map (· ++ [(m : Int)])
theorem subs_len : ∀ m, (subs m).length = 2 ^ m
  | 0 => rfl
  | m + 1 => by rw [subs, List.length_append, List.length_map, subs_len m]; omega
theorem subs_mem : ∀ {m : Nat} {s : List Int}, s ∈ subs m → s.Pairwise (· < ·) ∧ (∀ x ∈ s, 0 ≤ x ∧ x < m) ∧ s.length ≤ m
  | 0, s, h => by simp [subs] at h; subst h; simp
  | m + 1, s, h => by
    rw [subs, List.mem_append] at h
    rcases h with h | h
    · obtain ⟨a, b, c⟩ := subs_mem h
      exact ⟨a, fun x hx => by have := b x hx; omega, by omega⟩
    · obtain ⟨s', hs, rfl⟩ := List.mem_map.mp h
      obtain ⟨a, b, c⟩ := subs_mem hs
      refine ⟨?_, fun x hx => ?_, by rw [List.length_append]; simp; omega⟩
      · rw [List.pairwise_append]
        exact ⟨a, List.pairwise_singleton _ _, fun x hx y hy => by
          rw [List.mem_singleton] at hy
          subst hy
          exact (b x hx).2⟩
      · rcases List.mem_append.mp hx with hx | hx
        · have := b x hx; omega
        · rw [List.mem_singleton] at hx
          subst hx
          omega
def setsSp : Spec := fun ds Q => ∃ m : Nat, ds = [.int m] ∧ m ≤ 10 ∧ Q (.own (.list ((subs m).map intsD))) []
end Co

set_option linter.all false
namespace Co
open PySem
theorem noRefs_of {l : List PyData} (h : ∀ x ∈ l, noRef x = true) : noRefs l = true := by
  induction l with
  | nil => rfl
  | cons x l ih =>
    rw [noRefs, Bool.and_eq_true]
    exact ⟨h x List.mem_cons_self, ih fun y hy => h y (List.mem_cons_of_mem _ hy)⟩
theorem noRef_intsD (l : List Int) : noRef (intsD l) = true := by
  unfold intsD
  rw [noRef]
  exact noRefs_of fun x hx => by
    obtain ⟨i, _, rfl⟩ := List.mem_map.mp hx
    rfl
theorem noRefs_subs (m : Nat) : noRefR (.own (.list ((subs m).map intsD))) = true := noRefs_of fun x hx => by
  obtain ⟨i, _, rfl⟩ := List.mem_map.mp hx
  exact noRef_intsD i
theorem gd_ints {B c k : Nat} {l : List Int} (hl : l.length ≤ c) (h : ∀ x ∈ l, x.natAbs < B) : gd B c (k + 1) (intsD l) = true := gd_tuple.mpr ⟨by rw [List.length_map]; exact hl, fun x hx => by
  obtain ⟨i, hi, rfl⟩ := List.mem_map.mp hx
  exact gd_int.mpr (h i hi)⟩
theorem bulk_ints (l : List Int) : PyData.bulkAll (l.map .int) = l.length := by
  induction l with
  | nil => rfl
  | cons x l ih => simp only [List.map_cons, PyData.bulkAll, PyData.bulk, ih, List.length_cons]; omega
theorem bulk_intsD (l : List Int) : (intsD l).bulk = l.length := bulk_ints l
/-- houses may be told -/
theorem gd_house {n : Nat} {ps : List (List Int)} (hn : n ≤ 20) (hps : ps.length ≤ 20) (h : ∀ l ∈ ps, asc n l) : gd B12 20 3 (houseD n ps) = true := by
  refine gd_tuple.mpr ⟨by simp, fun x hx => ?_⟩
  simp only [List.mem_cons, List.not_mem_nil, or_false] at hx
  rcases hx with rfl | rfl
  · exact gd_int.mpr (by have e : B12 = 10 ^ 12 := rfl; omega)
  · refine gd_tuple.mpr ⟨by rw [List.length_map]; exact hps, fun x hx => ?_⟩
    obtain ⟨l, hl, rfl⟩ := List.mem_map.mp hx
    have ha := h l hl
    have hle : l.length ≤ n := by
      have hnd : l.Nodup := ha.1.imp fun h => by omega
      have := hnd.length_le_of_subset (l₂ := rng n) fun a ha' => rng_mem.mpr (ha.2 a ha')
      rwa [rng_len] at this
    exact gd_ints (by omega) fun x hx => by
      have := ha.2 x hx
      have e : B12 = 10 ^ 12 := rfl
      omega
theorem asc_len {n : Nat} {l : List Int} (ha : asc n l) : l.length ≤ n := by
  have hnd : l.Nodup := ha.1.imp fun h => by omega
  have := hnd.length_le_of_subset (l₂ := rng n) fun a ha' => rng_mem.mpr (ha.2 a ha')
  rwa [rng_len] at this
theorem bulk_house {n : Nat} {ps : List (List Int)} (h : ∀ l ∈ ps, asc n l) : (houseD n ps).bulk ≤ 2 + (n + 1) * ps.length := by
  have : PyData.bulkAll (ps.map intsD) ≤ (n + 1) * (ps.map intsD).length := bulk_le fun x hx => by
    obtain ⟨l, hl, rfl⟩ := List.mem_map.mp hx
    rw [bulk_intsD]; exact asc_len (h l hl)
  rw [List.length_map] at this
  show 0 + 1 + (PyData.bulkAll (ps.map intsD) + 1 + 0) ≤ _
  omega
theorem gd_asc {n c k : Nat} {g : List Int} (hn : n ≤ c) (hc : c ≤ 1000) (ha : asc n g) : gd B12 c (k + 1) (intsD g) = true := gd_ints (Nat.le_trans (asc_len ha) hn) fun x hx => by
  have := ha.2 x hx
  have e : B12 = 10 ^ 12 := rfl
  omega
/-- (house, gone) may be told -/
theorem fits_hg {n : Nat} {ps : List (List Int)} {g : List Int} (hn : n ≤ 20) (hps : ps.length ≤ 20) (h : ∀ l ∈ ps, asc n l) (hg : asc n g) : fits (.tuple [houseD n ps, intsD g]) := by
  have h1 : gd B12 20 4 (.tuple [houseD n ps, intsD g]) = true := gd_tuple.mpr ⟨by simp, fun x hx => by
    simp only [List.mem_cons, List.not_mem_nil, or_false] at hx
    rcases hx with rfl | rfl
    · exact gd_house hn hps h
    · exact gd_asc hn (by decide) hg⟩
  refine (gd_tm (by decide) h1).fits ?_ (by decide)
  have h2 := bulk_house h
  have h3 := asc_len hg
  have h4 : (n + 1) * ps.length ≤ 21 * 20 := Nat.mul_le_mul (by omega) hps
  show (houseD n ps).bulk + 1 + ((intsD g).bulk + 1 + 0) ≤ _
  rw [bulk_intsD]
  omega
/-- a value that is_short is asked about -/
def good (v : PyData) : Prop := gd B30 20 8 v = true ∧ v.bulk ≤ 1000
theorem good.fits {v : PyData} (h : good v) : fits v := (gd_tm (by decide) h.1).fits (Nat.le_trans h.2 (by decide)) (by decide)
theorem good.len {v : PyData} (h : good v) : ∀ l, v = .tuple l → l.length ≤ 63 := fun l e => by
  subst e
  have := (gd_tuple (k := 7)).mp h.1 |>.1
  omega
end Co

set_option linter.all false
namespace Co
open PySem
/-! ### houses recognized -/
def houseB : PyData → Bool
  | .tuple [a, b] => inR 1 10 a && (match b with
    | .tuple l => decide (l.length ≤ 6) && (match a with
      | .int n => l.all (ascB n)
      | _ => false)
    | _ => false)
  | _ => false
def isHouseSp : Spec := fun ds Q => ∃ d, ds = [d] ∧ (∀ a l l', d = .tuple [a, .tuple l] → .tuple l' ∈ l → l'.length ≤ 63) ∧ Q (.val (.bool (houseB d))) []
theorem is_house_ok (Φ : Tbl) (h : Φ "is_within" = withinSp) (h2 : Φ "is_ascending" = ascSp) : Impl Φ [false] 2 f_is_house isHouseSp := by
  rintro ds Q ⟨d, rfl, hl, k⟩ _
  unfold f_is_house
  cases d with
  | tuple l =>
    by_cases h2l : l.length = 2
    · obtain ⟨a, b, rfl⟩ : ∃ a b, l = [a, b] := by
        match l, h2l with
        | [a, b], _ => exact ⟨a, b, rfl⟩
      simp -dsimp only [↓wpS, ↓wpE, ↓wpEs, ↓wpEs', ↓wpCs, ↓wpI, ↓callW, ↓okArgs, ↓sigOk, ↓inouts, ↓lents, ↓peeks, ↓peek, ↓pk, ↓slot, ↓setOwn, ↓setC, ↓freeze, ↓isOwn, ↓isIo, ↓slC, ↓isLst, ↓asV, ↓asS, ↓asVs, ↓asSs, ↓isT, ↓R.still, ↓setMany, ↓bindT, ↓wipeE, ↓unwipe, ↓binD, ↓intBin, ↓cmpD, ↓eqD, ↓ordD, ↓ordI, ↓startE, ↓endsOf, ↓ioOf, ↓newsOf, ↓Sl.r, ↓itemsOf, ↓slcD, ↓revD, ↓b1D, ↓b2D, ↓isNoneD, ↓noRefR, ↓noRef, ↓noRefs, ite_self, ↓isTy, ↓List.getElem?_cons_zero, ↓List.getElem?_cons_succ, ↓List.getElem?_nil, ↓Option.join_some, ↓Option.join_none, ↓Option.isSome_some, ↓Option.isSome_none, ↓List.set_cons_zero, ↓List.set_cons_succ, ↓List.replicate, ↓List.length_cons, ↓List.length_nil, ↓List.isEmpty_cons, ↓List.isEmpty_nil, ↓List.all_cons, ↓List.all_nil, ↓List.filterMap_cons, ↓List.filterMap_nil, ↓List.contains_cons, ↓List.contains_nil, ↓Bool.and_true, ↓Bool.true_and, ↓Bool.and_false, ↓Bool.false_and, ↓Bool.not_true, ↓Bool.not_false, ↓if_true, ↓sh_int, ↓sh_bool, ↓sh_none, ↓eqv_ii, ↓eqv_bb, ↓eqv_ss, ↓brn_true, ↓brn_false, brn_true, brn_false, ↓List.any_cons, ↓List.any_nil, ↓if_false, ↓ite_true, ↓ite_false, ↓true_and, ↓and_true, ↓Bool.false_eq_true, ↓reduceCtorEq, ↓decide_true, ↓decide_false, ↓List.map_cons, ↓List.map_nil, ↓Tg.slots, ↓List.nodup_cons, ↓List.nodup_nil, ↓List.not_mem_nil, ↓not_false_eq_true, ↓forall_const, ↓true_implies, ↓bI, Nat.reduceAdd, Nat.reduceSub, Nat.reduceEqDiff, Int.reduceLT, Int.reduceLE, Nat.reduceLT, Nat.reduceLeDiff, Int.reduceNeg, Nat.reduceBEq, ↓BEq.rfl, ↓beq_self_eq_true, ↓Bool.or_false, ↓Bool.or_true]
      have e22 : (!decide (((2 : Nat) : Int) = 2)) = false := rfl
      rw [e22]
      simp -dsimp only [↓wpS, ↓wpE, ↓wpEs, ↓wpEs', ↓wpCs, ↓wpI, ↓callW, ↓okArgs, ↓sigOk, ↓inouts, ↓lents, ↓peeks, ↓peek, ↓pk, ↓slot, ↓setOwn, ↓setC, ↓freeze, ↓isOwn, ↓isIo, ↓slC, ↓isLst, ↓asV, ↓asS, ↓asVs, ↓asSs, ↓isT, ↓R.still, ↓setMany, ↓bindT, ↓wipeE, ↓unwipe, ↓binD, ↓intBin, ↓cmpD, ↓eqD, ↓ordD, ↓ordI, ↓startE, ↓endsOf, ↓ioOf, ↓newsOf, ↓Sl.r, ↓itemsOf, ↓slcD, ↓revD, ↓b1D, ↓b2D, ↓isNoneD, ↓noRefR, ↓noRef, ↓noRefs, ite_self, ↓isTy, ↓List.getElem?_cons_zero, ↓List.getElem?_cons_succ, ↓List.getElem?_nil, ↓Option.join_some, ↓Option.join_none, ↓Option.isSome_some, ↓Option.isSome_none, ↓List.set_cons_zero, ↓List.set_cons_succ, ↓List.replicate, ↓List.length_cons, ↓List.length_nil, ↓List.isEmpty_cons, ↓List.isEmpty_nil, ↓List.all_cons, ↓List.all_nil, ↓List.filterMap_cons, ↓List.filterMap_nil, ↓List.contains_cons, ↓List.contains_nil, ↓Bool.and_true, ↓Bool.true_and, ↓Bool.and_false, ↓Bool.false_and, ↓Bool.not_true, ↓Bool.not_false, ↓if_true, ↓sh_int, ↓sh_bool, ↓sh_none, ↓eqv_ii, ↓eqv_bb, ↓eqv_ss, ↓brn_true, ↓brn_false, brn_true, brn_false, ↓List.any_cons, ↓List.any_nil, ↓if_false, ↓ite_true, ↓ite_false, ↓true_and, ↓and_true, ↓Bool.false_eq_true, ↓reduceCtorEq, ↓decide_true, ↓decide_false, ↓List.map_cons, ↓List.map_nil, ↓Tg.slots, ↓List.nodup_cons, ↓List.nodup_nil, ↓List.not_mem_nil, ↓not_false_eq_true, ↓forall_const, ↓true_implies, ↓bI, Nat.reduceAdd, Nat.reduceSub, Nat.reduceEqDiff, Int.reduceLT, Int.reduceLE, Nat.reduceLT, Nat.reduceLeDiff, Int.reduceNeg, Nat.reduceBEq, ↓BEq.rfl, ↓beq_self_eq_true, ↓Bool.or_false, ↓Bool.or_true]
      refine stp_nT (n := 0) rfl ?_
      simp -dsimp only [↓wpS, ↓wpE, ↓wpEs, ↓wpEs', ↓wpCs, ↓wpI, ↓callW, ↓okArgs, ↓sigOk, ↓inouts, ↓lents, ↓peeks, ↓peek, ↓pk, ↓slot, ↓setOwn, ↓setC, ↓freeze, ↓isOwn, ↓isIo, ↓slC, ↓isLst, ↓asV, ↓asS, ↓asVs, ↓asSs, ↓isT, ↓R.still, ↓setMany, ↓bindT, ↓wipeE, ↓unwipe, ↓binD, ↓intBin, ↓cmpD, ↓eqD, ↓ordD, ↓ordI, ↓startE, ↓endsOf, ↓ioOf, ↓newsOf, ↓Sl.r, ↓itemsOf, ↓slcD, ↓revD, ↓b1D, ↓b2D, ↓isNoneD, ↓noRefR, ↓noRef, ↓noRefs, ite_self, ↓isTy, ↓List.getElem?_cons_zero, ↓List.getElem?_cons_succ, ↓List.getElem?_nil, ↓Option.join_some, ↓Option.join_none, ↓Option.isSome_some, ↓Option.isSome_none, ↓List.set_cons_zero, ↓List.set_cons_succ, ↓List.replicate, ↓List.length_cons, ↓List.length_nil, ↓List.isEmpty_cons, ↓List.isEmpty_nil, ↓List.all_cons, ↓List.all_nil, ↓List.filterMap_cons, ↓List.filterMap_nil, ↓List.contains_cons, ↓List.contains_nil, ↓Bool.and_true, ↓Bool.true_and, ↓Bool.and_false, ↓Bool.false_and, ↓Bool.not_true, ↓Bool.not_false, ↓if_true, ↓sh_int, ↓sh_bool, ↓sh_none, ↓eqv_ii, ↓eqv_bb, ↓eqv_ss, ↓brn_true, ↓brn_false, brn_true, brn_false, ↓List.any_cons, ↓List.any_nil, ↓if_false, ↓ite_true, ↓ite_false, ↓true_and, ↓and_true, ↓Bool.false_eq_true, ↓reduceCtorEq, ↓decide_true, ↓decide_false, ↓List.map_cons, ↓List.map_nil, ↓Tg.slots, ↓List.nodup_cons, ↓List.nodup_nil, ↓List.not_mem_nil, ↓not_false_eq_true, ↓forall_const, ↓true_implies, ↓bI, Nat.reduceAdd, Nat.reduceSub, Nat.reduceEqDiff, Int.reduceLT, Int.reduceLE, Nat.reduceLT, Nat.reduceLeDiff, Int.reduceNeg, Nat.reduceBEq, ↓BEq.rfl, ↓beq_self_eq_true, ↓Bool.or_false, ↓Bool.or_true]
      refine ⟨_, rfl, ?_⟩
      rw [h]
      refine ⟨a, 1, 10, rfl, fun hq => ?_⟩
      cases hr : inR 1 10 a
      · have e : houseB (.tuple [a, b]) = false := by simp only [houseB, hr, Bool.false_and]
        rw [e] at k
        simp -dsimp only [↓wpS, ↓wpE, ↓wpEs, ↓wpEs', ↓wpCs, ↓wpI, ↓callW, ↓okArgs, ↓sigOk, ↓inouts, ↓lents, ↓peeks, ↓peek, ↓pk, ↓slot, ↓setOwn, ↓setC, ↓freeze, ↓isOwn, ↓isIo, ↓slC, ↓isLst, ↓asV, ↓asS, ↓asVs, ↓asSs, ↓isT, ↓R.still, ↓setMany, ↓bindT, ↓wipeE, ↓unwipe, ↓binD, ↓intBin, ↓cmpD, ↓eqD, ↓ordD, ↓ordI, ↓startE, ↓endsOf, ↓ioOf, ↓newsOf, ↓Sl.r, ↓itemsOf, ↓slcD, ↓revD, ↓b1D, ↓b2D, ↓isNoneD, ↓noRefR, ↓noRef, ↓noRefs, ite_self, ↓isTy, ↓List.getElem?_cons_zero, ↓List.getElem?_cons_succ, ↓List.getElem?_nil, ↓Option.join_some, ↓Option.join_none, ↓Option.isSome_some, ↓Option.isSome_none, ↓List.set_cons_zero, ↓List.set_cons_succ, ↓List.replicate, ↓List.length_cons, ↓List.length_nil, ↓List.isEmpty_cons, ↓List.isEmpty_nil, ↓List.all_cons, ↓List.all_nil, ↓List.filterMap_cons, ↓List.filterMap_nil, ↓List.contains_cons, ↓List.contains_nil, ↓Bool.and_true, ↓Bool.true_and, ↓Bool.and_false, ↓Bool.false_and, ↓Bool.not_true, ↓Bool.not_false, ↓if_true, ↓sh_int, ↓sh_bool, ↓sh_none, ↓eqv_ii, ↓eqv_bb, ↓eqv_ss, ↓brn_true, ↓brn_false, brn_true, brn_false, ↓List.any_cons, ↓List.any_nil, ↓if_false, ↓ite_true, ↓ite_false, ↓true_and, ↓and_true, ↓Bool.false_eq_true, ↓reduceCtorEq, ↓decide_true, ↓decide_false, ↓List.map_cons, ↓List.map_nil, ↓Tg.slots, ↓List.nodup_cons, ↓List.nodup_nil, ↓List.not_mem_nil, ↓not_false_eq_true, ↓forall_const, ↓true_implies, ↓bI, Nat.reduceAdd, Nat.reduceSub, Nat.reduceEqDiff, Int.reduceLT, Int.reduceLE, Nat.reduceLT, Nat.reduceLeDiff, Int.reduceNeg, Nat.reduceBEq, ↓BEq.rfl, ↓beq_self_eq_true, ↓Bool.or_false, ↓Bool.or_true]
        exact k
      · cases a <;> simp only [inR, Bool.false_eq_true] at hr
        rename_i n q1
        have hr' : inR 1 10 (.int n) = true := hr
        simp -dsimp only [↓wpS, ↓wpE, ↓wpEs, ↓wpEs', ↓wpCs, ↓wpI, ↓callW, ↓okArgs, ↓sigOk, ↓inouts, ↓lents, ↓peeks, ↓peek, ↓pk, ↓slot, ↓setOwn, ↓setC, ↓freeze, ↓isOwn, ↓isIo, ↓slC, ↓isLst, ↓asV, ↓asS, ↓asVs, ↓asSs, ↓isT, ↓R.still, ↓setMany, ↓bindT, ↓wipeE, ↓unwipe, ↓binD, ↓intBin, ↓cmpD, ↓eqD, ↓ordD, ↓ordI, ↓startE, ↓endsOf, ↓ioOf, ↓newsOf, ↓Sl.r, ↓itemsOf, ↓slcD, ↓revD, ↓b1D, ↓b2D, ↓isNoneD, ↓noRefR, ↓noRef, ↓noRefs, ite_self, ↓isTy, ↓List.getElem?_cons_zero, ↓List.getElem?_cons_succ, ↓List.getElem?_nil, ↓Option.join_some, ↓Option.join_none, ↓Option.isSome_some, ↓Option.isSome_none, ↓List.set_cons_zero, ↓List.set_cons_succ, ↓List.replicate, ↓List.length_cons, ↓List.length_nil, ↓List.isEmpty_cons, ↓List.isEmpty_nil, ↓List.all_cons, ↓List.all_nil, ↓List.filterMap_cons, ↓List.filterMap_nil, ↓List.contains_cons, ↓List.contains_nil, ↓Bool.and_true, ↓Bool.true_and, ↓Bool.and_false, ↓Bool.false_and, ↓Bool.not_true, ↓Bool.not_false, ↓if_true, ↓sh_int, ↓sh_bool, ↓sh_none, ↓eqv_ii, ↓eqv_bb, ↓eqv_ss, ↓brn_true, ↓brn_false, brn_true, brn_false, ↓List.any_cons, ↓List.any_nil, ↓if_false, ↓ite_true, ↓ite_false, ↓true_and, ↓and_true, ↓Bool.false_eq_true, ↓reduceCtorEq, ↓decide_true, ↓decide_false, ↓List.map_cons, ↓List.map_nil, ↓Tg.slots, ↓List.nodup_cons, ↓List.nodup_nil, ↓List.not_mem_nil, ↓not_false_eq_true, ↓forall_const, ↓true_implies, ↓bI, Nat.reduceAdd, Nat.reduceSub, Nat.reduceEqDiff, Int.reduceLT, Int.reduceLE, Nat.reduceLT, Nat.reduceLeDiff, Int.reduceNeg, Nat.reduceBEq, ↓BEq.rfl, ↓beq_self_eq_true, ↓Bool.or_false, ↓Bool.or_true]
        refine stp_nT (n := 1) rfl ?_
        cases b with
        | tuple l =>
          simp -dsimp only [↓wpS, ↓wpE, ↓wpEs, ↓wpEs', ↓wpCs, ↓wpI, ↓callW, ↓okArgs, ↓sigOk, ↓inouts, ↓lents, ↓peeks, ↓peek, ↓pk, ↓slot, ↓setOwn, ↓setC, ↓freeze, ↓isOwn, ↓isIo, ↓slC, ↓isLst, ↓asV, ↓asS, ↓asVs, ↓asSs, ↓isT, ↓R.still, ↓setMany, ↓bindT, ↓wipeE, ↓unwipe, ↓binD, ↓intBin, ↓cmpD, ↓eqD, ↓ordD, ↓ordI, ↓startE, ↓endsOf, ↓ioOf, ↓newsOf, ↓Sl.r, ↓itemsOf, ↓slcD, ↓revD, ↓b1D, ↓b2D, ↓isNoneD, ↓noRefR, ↓noRef, ↓noRefs, ite_self, ↓isTy, ↓List.getElem?_cons_zero, ↓List.getElem?_cons_succ, ↓List.getElem?_nil, ↓Option.join_some, ↓Option.join_none, ↓Option.isSome_some, ↓Option.isSome_none, ↓List.set_cons_zero, ↓List.set_cons_succ, ↓List.replicate, ↓List.length_cons, ↓List.length_nil, ↓List.isEmpty_cons, ↓List.isEmpty_nil, ↓List.all_cons, ↓List.all_nil, ↓List.filterMap_cons, ↓List.filterMap_nil, ↓List.contains_cons, ↓List.contains_nil, ↓Bool.and_true, ↓Bool.true_and, ↓Bool.and_false, ↓Bool.false_and, ↓Bool.not_true, ↓Bool.not_false, ↓if_true, ↓sh_int, ↓sh_bool, ↓sh_none, ↓eqv_ii, ↓eqv_bb, ↓eqv_ss, ↓brn_true, ↓brn_false, brn_true, brn_false, ↓List.any_cons, ↓List.any_nil, ↓if_false, ↓ite_true, ↓ite_false, ↓true_and, ↓and_true, ↓Bool.false_eq_true, ↓reduceCtorEq, ↓decide_true, ↓decide_false, ↓List.map_cons, ↓List.map_nil, ↓Tg.slots, ↓List.nodup_cons, ↓List.nodup_nil, ↓List.not_mem_nil, ↓not_false_eq_true, ↓forall_const, ↓true_implies, ↓bI, Nat.reduceAdd, Nat.reduceSub, Nat.reduceEqDiff, Int.reduceLT, Int.reduceLE, Nat.reduceLT, Nat.reduceLeDiff, Int.reduceNeg, Nat.reduceBEq, ↓BEq.rfl, ↓beq_self_eq_true, ↓Bool.or_false, ↓Bool.or_true]
          refine stp_nT (n := 1) rfl ?_
          simp -dsimp only [↓wpS, ↓wpE, ↓wpEs, ↓wpEs', ↓wpCs, ↓wpI, ↓callW, ↓okArgs, ↓sigOk, ↓inouts, ↓lents, ↓peeks, ↓peek, ↓pk, ↓slot, ↓setOwn, ↓setC, ↓freeze, ↓isOwn, ↓isIo, ↓slC, ↓isLst, ↓asV, ↓asS, ↓asVs, ↓asSs, ↓isT, ↓R.still, ↓setMany, ↓bindT, ↓wipeE, ↓unwipe, ↓binD, ↓intBin, ↓cmpD, ↓eqD, ↓ordD, ↓ordI, ↓startE, ↓endsOf, ↓ioOf, ↓newsOf, ↓Sl.r, ↓itemsOf, ↓slcD, ↓revD, ↓b1D, ↓b2D, ↓isNoneD, ↓noRefR, ↓noRef, ↓noRefs, ite_self, ↓isTy, ↓List.getElem?_cons_zero, ↓List.getElem?_cons_succ, ↓List.getElem?_nil, ↓Option.join_some, ↓Option.join_none, ↓Option.isSome_some, ↓Option.isSome_none, ↓List.set_cons_zero, ↓List.set_cons_succ, ↓List.replicate, ↓List.length_cons, ↓List.length_nil, ↓List.isEmpty_cons, ↓List.isEmpty_nil, ↓List.all_cons, ↓List.all_nil, ↓List.filterMap_cons, ↓List.filterMap_nil, ↓List.contains_cons, ↓List.contains_nil, ↓Bool.and_true, ↓Bool.true_and, ↓Bool.and_false, ↓Bool.false_and, ↓Bool.not_true, ↓Bool.not_false, ↓if_true, ↓sh_int, ↓sh_bool, ↓sh_none, ↓eqv_ii, ↓eqv_bb, ↓eqv_ss, ↓brn_true, ↓brn_false, brn_true, brn_false, ↓List.any_cons, ↓List.any_nil, ↓if_false, ↓ite_true, ↓ite_false, ↓true_and, ↓and_true, ↓Bool.false_eq_true, ↓reduceCtorEq, ↓decide_true, ↓decide_false, ↓List.map_cons, ↓List.map_nil, ↓Tg.slots, ↓List.nodup_cons, ↓List.nodup_nil, ↓List.not_mem_nil, ↓not_false_eq_true, ↓forall_const, ↓true_implies, ↓bI, Nat.reduceAdd, Nat.reduceSub, Nat.reduceEqDiff, Int.reduceLT, Int.reduceLE, Nat.reduceLT, Nat.reduceLeDiff, Int.reduceNeg, Nat.reduceBEq, ↓BEq.rfl, ↓beq_self_eq_true, ↓Bool.or_false, ↓Bool.or_true]
          refine brn_of (fun hb => ?_) (fun hb => ?_)
          · have hb' : decide (l.length ≤ 6) = false := decide_eq_false fun e => by
              have : ((l.length : Nat) : Int) > ((6 : Nat) : Int) := by simpa using hb
              omega
            have e : houseB (.tuple [.int n, .tuple l]) = false := by simp only [houseB, hb', Bool.false_and, Bool.and_false]
            rw [e] at k
            simp -dsimp only [↓wpS, ↓wpE, ↓wpEs, ↓wpEs', ↓wpCs, ↓wpI, ↓callW, ↓okArgs, ↓sigOk, ↓inouts, ↓lents, ↓peeks, ↓peek, ↓pk, ↓slot, ↓setOwn, ↓setC, ↓freeze, ↓isOwn, ↓isIo, ↓slC, ↓isLst, ↓asV, ↓asS, ↓asVs, ↓asSs, ↓isT, ↓R.still, ↓setMany, ↓bindT, ↓wipeE, ↓unwipe, ↓binD, ↓intBin, ↓cmpD, ↓eqD, ↓ordD, ↓ordI, ↓startE, ↓endsOf, ↓ioOf, ↓newsOf, ↓Sl.r, ↓itemsOf, ↓slcD, ↓revD, ↓b1D, ↓b2D, ↓isNoneD, ↓noRefR, ↓noRef, ↓noRefs, ite_self, ↓isTy, ↓List.getElem?_cons_zero, ↓List.getElem?_cons_succ, ↓List.getElem?_nil, ↓Option.join_some, ↓Option.join_none, ↓Option.isSome_some, ↓Option.isSome_none, ↓List.set_cons_zero, ↓List.set_cons_succ, ↓List.replicate, ↓List.length_cons, ↓List.length_nil, ↓List.isEmpty_cons, ↓List.isEmpty_nil, ↓List.all_cons, ↓List.all_nil, ↓List.filterMap_cons, ↓List.filterMap_nil, ↓List.contains_cons, ↓List.contains_nil, ↓Bool.and_true, ↓Bool.true_and, ↓Bool.and_false, ↓Bool.false_and, ↓Bool.not_true, ↓Bool.not_false, ↓if_true, ↓sh_int, ↓sh_bool, ↓sh_none, ↓eqv_ii, ↓eqv_bb, ↓eqv_ss, ↓brn_true, ↓brn_false, brn_true, brn_false, ↓List.any_cons, ↓List.any_nil, ↓if_false, ↓ite_true, ↓ite_false, ↓true_and, ↓and_true, ↓Bool.false_eq_true, ↓reduceCtorEq, ↓decide_true, ↓decide_false, ↓List.map_cons, ↓List.map_nil, ↓Tg.slots, ↓List.nodup_cons, ↓List.nodup_nil, ↓List.not_mem_nil, ↓not_false_eq_true, ↓forall_const, ↓true_implies, ↓bI, Nat.reduceAdd, Nat.reduceSub, Nat.reduceEqDiff, Int.reduceLT, Int.reduceLE, Nat.reduceLT, Nat.reduceLeDiff, Int.reduceNeg, Nat.reduceBEq, ↓BEq.rfl, ↓beq_self_eq_true, ↓Bool.or_false, ↓Bool.or_true]
            exact k
          · have hb' : l.length ≤ 6 := by
              have : ¬ ((l.length : Nat) : Int) > ((6 : Nat) : Int) := by simpa using hb
              omega
            have e : houseB (.tuple [.int n, .tuple l]) = l.all (ascB n) := by simp only [houseB, hr', decide_eq_true hb', Bool.true_and]
            rw [e] at k
            simp -dsimp only [↓wpS, ↓wpE, ↓wpEs, ↓wpEs', ↓wpCs, ↓wpI, ↓callW, ↓okArgs, ↓sigOk, ↓inouts, ↓lents, ↓peeks, ↓peek, ↓pk, ↓slot, ↓setOwn, ↓setC, ↓freeze, ↓isOwn, ↓isIo, ↓slC, ↓isLst, ↓asV, ↓asS, ↓asVs, ↓asSs, ↓isT, ↓R.still, ↓setMany, ↓bindT, ↓wipeE, ↓unwipe, ↓binD, ↓intBin, ↓cmpD, ↓eqD, ↓ordD, ↓ordI, ↓startE, ↓endsOf, ↓ioOf, ↓newsOf, ↓Sl.r, ↓itemsOf, ↓slcD, ↓revD, ↓b1D, ↓b2D, ↓isNoneD, ↓noRefR, ↓noRef, ↓noRefs, ite_self, ↓isTy, ↓List.getElem?_cons_zero, ↓List.getElem?_cons_succ, ↓List.getElem?_nil, ↓Option.join_some, ↓Option.join_none, ↓Option.isSome_some, ↓Option.isSome_none, ↓List.set_cons_zero, ↓List.set_cons_succ, ↓List.replicate, ↓List.length_cons, ↓List.length_nil, ↓List.isEmpty_cons, ↓List.isEmpty_nil, ↓List.all_cons, ↓List.all_nil, ↓List.filterMap_cons, ↓List.filterMap_nil, ↓List.contains_cons, ↓List.contains_nil, ↓Bool.and_true, ↓Bool.true_and, ↓Bool.and_false, ↓Bool.false_and, ↓Bool.not_true, ↓Bool.not_false, ↓if_true, ↓sh_int, ↓sh_bool, ↓sh_none, ↓eqv_ii, ↓eqv_bb, ↓eqv_ss, ↓brn_true, ↓brn_false, brn_true, brn_false, ↓List.any_cons, ↓List.any_nil, ↓if_false, ↓ite_true, ↓ite_false, ↓true_and, ↓and_true, ↓Bool.false_eq_true, ↓reduceCtorEq, ↓decide_true, ↓decide_false, ↓List.map_cons, ↓List.map_nil, ↓Tg.slots, ↓List.nodup_cons, ↓List.nodup_nil, ↓List.not_mem_nil, ↓not_false_eq_true, ↓forall_const, ↓true_implies, ↓bI, Nat.reduceAdd, Nat.reduceSub, Nat.reduceEqDiff, Int.reduceLT, Int.reduceLE, Nat.reduceLT, Nat.reduceLeDiff, Int.reduceNeg, Nat.reduceBEq, ↓BEq.rfl, ↓beq_self_eq_true, ↓Bool.or_false, ↓Bool.or_true]
            refine stp_nT (n := 1) rfl ?_
            simp -dsimp only [↓wpS, ↓wpE, ↓wpEs, ↓wpEs', ↓wpCs, ↓wpI, ↓callW, ↓okArgs, ↓sigOk, ↓inouts, ↓lents, ↓peeks, ↓peek, ↓pk, ↓slot, ↓setOwn, ↓setC, ↓freeze, ↓isOwn, ↓isIo, ↓slC, ↓isLst, ↓asV, ↓asS, ↓asVs, ↓asSs, ↓isT, ↓R.still, ↓setMany, ↓bindT, ↓wipeE, ↓unwipe, ↓binD, ↓intBin, ↓cmpD, ↓eqD, ↓ordD, ↓ordI, ↓startE, ↓endsOf, ↓ioOf, ↓newsOf, ↓Sl.r, ↓itemsOf, ↓slcD, ↓revD, ↓b1D, ↓b2D, ↓isNoneD, ↓noRefR, ↓noRef, ↓noRefs, ite_self, ↓isTy, ↓List.getElem?_cons_zero, ↓List.getElem?_cons_succ, ↓List.getElem?_nil, ↓Option.join_some, ↓Option.join_none, ↓Option.isSome_some, ↓Option.isSome_none, ↓List.set_cons_zero, ↓List.set_cons_succ, ↓List.replicate, ↓List.length_cons, ↓List.length_nil, ↓List.isEmpty_cons, ↓List.isEmpty_nil, ↓List.all_cons, ↓List.all_nil, ↓List.filterMap_cons, ↓List.filterMap_nil, ↓List.contains_cons, ↓List.contains_nil, ↓Bool.and_true, ↓Bool.true_and, ↓Bool.and_false, ↓Bool.false_and, ↓Bool.not_true, ↓Bool.not_false, ↓if_true, ↓sh_int, ↓sh_bool, ↓sh_none, ↓eqv_ii, ↓eqv_bb, ↓eqv_ss, ↓brn_true, ↓brn_false, brn_true, brn_false, ↓List.any_cons, ↓List.any_nil, ↓if_false, ↓ite_true, ↓ite_false, ↓true_and, ↓and_true, ↓Bool.false_eq_true, ↓reduceCtorEq, ↓decide_true, ↓decide_false, ↓List.map_cons, ↓List.map_nil, ↓Tg.slots, ↓List.nodup_cons, ↓List.nodup_nil, ↓List.not_mem_nil, ↓not_false_eq_true, ↓forall_const, ↓true_implies, ↓bI, Nat.reduceAdd, Nat.reduceSub, Nat.reduceEqDiff, Int.reduceLT, Int.reduceLE, Nat.reduceLT, Nat.reduceLeDiff, Int.reduceNeg, Nat.reduceBEq, ↓BEq.rfl, ↓beq_self_eq_true, ↓Bool.or_false, ↓Bool.or_true]
            refine ⟨by show _ < 16777216; omega, lc_map (fun x => .bool (ascB n x)) (fun x acc N hx next => ?_) ?_⟩
            · unfold f_is_house_e1
              simp -dsimp only [↓wpS, ↓wpE, ↓wpEs, ↓wpEs', ↓wpCs, ↓wpI, ↓callW, ↓okArgs, ↓sigOk, ↓inouts, ↓lents, ↓peeks, ↓peek, ↓pk, ↓slot, ↓setOwn, ↓setC, ↓freeze, ↓isOwn, ↓isIo, ↓slC, ↓isLst, ↓asV, ↓asS, ↓asVs, ↓asSs, ↓isT, ↓R.still, ↓setMany, ↓bindT, ↓wipeE, ↓unwipe, ↓binD, ↓intBin, ↓cmpD, ↓eqD, ↓ordD, ↓ordI, ↓startE, ↓endsOf, ↓ioOf, ↓newsOf, ↓Sl.r, ↓itemsOf, ↓slcD, ↓revD, ↓b1D, ↓b2D, ↓isNoneD, ↓noRefR, ↓noRef, ↓noRefs, ite_self, ↓isTy, ↓List.getElem?_cons_zero, ↓List.getElem?_cons_succ, ↓List.getElem?_nil, ↓Option.join_some, ↓Option.join_none, ↓Option.isSome_some, ↓Option.isSome_none, ↓List.set_cons_zero, ↓List.set_cons_succ, ↓List.replicate, ↓List.length_cons, ↓List.length_nil, ↓List.isEmpty_cons, ↓List.isEmpty_nil, ↓List.all_cons, ↓List.all_nil, ↓List.filterMap_cons, ↓List.filterMap_nil, ↓List.contains_cons, ↓List.contains_nil, ↓Bool.and_true, ↓Bool.true_and, ↓Bool.and_false, ↓Bool.false_and, ↓Bool.not_true, ↓Bool.not_false, ↓if_true, ↓sh_int, ↓sh_bool, ↓sh_none, ↓eqv_ii, ↓eqv_bb, ↓eqv_ss, ↓brn_true, ↓brn_false, brn_true, brn_false, ↓List.any_cons, ↓List.any_nil, ↓if_false, ↓ite_true, ↓ite_false, ↓true_and, ↓and_true, ↓Bool.false_eq_true, ↓reduceCtorEq, ↓decide_true, ↓decide_false, ↓List.map_cons, ↓List.map_nil, ↓Tg.slots, ↓List.nodup_cons, ↓List.nodup_nil, ↓List.not_mem_nil, ↓not_false_eq_true, ↓forall_const, ↓true_implies, ↓bI, Nat.reduceAdd, Nat.reduceSub, Nat.reduceEqDiff, Int.reduceLT, Int.reduceLE, Nat.reduceLT, Nat.reduceLeDiff, Int.reduceNeg, Nat.reduceBEq, ↓BEq.rfl, ↓beq_self_eq_true, ↓Bool.or_false, ↓Bool.or_true]
              refine stp_nT (n := 0) rfl ?_
              simp -dsimp only [↓wpS, ↓wpE, ↓wpEs, ↓wpEs', ↓wpCs, ↓wpI, ↓callW, ↓okArgs, ↓sigOk, ↓inouts, ↓lents, ↓peeks, ↓peek, ↓pk, ↓slot, ↓setOwn, ↓setC, ↓freeze, ↓isOwn, ↓isIo, ↓slC, ↓isLst, ↓asV, ↓asS, ↓asVs, ↓asSs, ↓isT, ↓R.still, ↓setMany, ↓bindT, ↓wipeE, ↓unwipe, ↓binD, ↓intBin, ↓cmpD, ↓eqD, ↓ordD, ↓ordI, ↓startE, ↓endsOf, ↓ioOf, ↓newsOf, ↓Sl.r, ↓itemsOf, ↓slcD, ↓revD, ↓b1D, ↓b2D, ↓isNoneD, ↓noRefR, ↓noRef, ↓noRefs, ite_self, ↓isTy, ↓List.getElem?_cons_zero, ↓List.getElem?_cons_succ, ↓List.getElem?_nil, ↓Option.join_some, ↓Option.join_none, ↓Option.isSome_some, ↓Option.isSome_none, ↓List.set_cons_zero, ↓List.set_cons_succ, ↓List.replicate, ↓List.length_cons, ↓List.length_nil, ↓List.isEmpty_cons, ↓List.isEmpty_nil, ↓List.all_cons, ↓List.all_nil, ↓List.filterMap_cons, ↓List.filterMap_nil, ↓List.contains_cons, ↓List.contains_nil, ↓Bool.and_true, ↓Bool.true_and, ↓Bool.and_false, ↓Bool.false_and, ↓Bool.not_true, ↓Bool.not_false, ↓if_true, ↓sh_int, ↓sh_bool, ↓sh_none, ↓eqv_ii, ↓eqv_bb, ↓eqv_ss, ↓brn_true, ↓brn_false, brn_true, brn_false, ↓List.any_cons, ↓List.any_nil, ↓if_false, ↓ite_true, ↓ite_false, ↓true_and, ↓and_true, ↓Bool.false_eq_true, ↓reduceCtorEq, ↓decide_true, ↓decide_false, ↓List.map_cons, ↓List.map_nil, ↓Tg.slots, ↓List.nodup_cons, ↓List.nodup_nil, ↓List.not_mem_nil, ↓not_false_eq_true, ↓forall_const, ↓true_implies, ↓bI, Nat.reduceAdd, Nat.reduceSub, Nat.reduceEqDiff, Int.reduceLT, Int.reduceLE, Nat.reduceLT, Nat.reduceLeDiff, Int.reduceNeg, Nat.reduceBEq, ↓BEq.rfl, ↓beq_self_eq_true, ↓Bool.or_false, ↓Bool.or_true]
              refine ⟨_, rfl, ?_⟩
              rw [h2]
              refine ⟨x, n, rfl, fun l' e => hl _ l l' rfl (by rw [← e]; exact hx), fun _ => ?_⟩
              simp -dsimp only [↓wpS, ↓wpE, ↓wpEs, ↓wpEs', ↓wpCs, ↓wpI, ↓callW, ↓okArgs, ↓sigOk, ↓inouts, ↓lents, ↓peeks, ↓peek, ↓pk, ↓slot, ↓setOwn, ↓setC, ↓freeze, ↓isOwn, ↓isIo, ↓slC, ↓isLst, ↓asV, ↓asS, ↓asVs, ↓asSs, ↓isT, ↓R.still, ↓setMany, ↓bindT, ↓wipeE, ↓unwipe, ↓binD, ↓intBin, ↓cmpD, ↓eqD, ↓ordD, ↓ordI, ↓startE, ↓endsOf, ↓ioOf, ↓newsOf, ↓Sl.r, ↓itemsOf, ↓slcD, ↓revD, ↓b1D, ↓b2D, ↓isNoneD, ↓noRefR, ↓noRef, ↓noRefs, ite_self, ↓isTy, ↓List.getElem?_cons_zero, ↓List.getElem?_cons_succ, ↓List.getElem?_nil, ↓Option.join_some, ↓Option.join_none, ↓Option.isSome_some, ↓Option.isSome_none, ↓List.set_cons_zero, ↓List.set_cons_succ, ↓List.replicate, ↓List.length_cons, ↓List.length_nil, ↓List.isEmpty_cons, ↓List.isEmpty_nil, ↓List.all_cons, ↓List.all_nil, ↓List.filterMap_cons, ↓List.filterMap_nil, ↓List.contains_cons, ↓List.contains_nil, ↓Bool.and_true, ↓Bool.true_and, ↓Bool.and_false, ↓Bool.false_and, ↓Bool.not_true, ↓Bool.not_false, ↓if_true, ↓sh_int, ↓sh_bool, ↓sh_none, ↓eqv_ii, ↓eqv_bb, ↓eqv_ss, ↓brn_true, ↓brn_false, brn_true, brn_false, ↓List.any_cons, ↓List.any_nil, ↓if_false, ↓ite_true, ↓ite_false, ↓true_and, ↓and_true, ↓Bool.false_eq_true, ↓reduceCtorEq, ↓decide_true, ↓decide_false, ↓List.map_cons, ↓List.map_nil, ↓Tg.slots, ↓List.nodup_cons, ↓List.nodup_nil, ↓List.not_mem_nil, ↓not_false_eq_true, ↓forall_const, ↓true_implies, ↓bI, Nat.reduceAdd, Nat.reduceSub, Nat.reduceEqDiff, Int.reduceLT, Int.reduceLE, Nat.reduceLT, Nat.reduceLeDiff, Int.reduceNeg, Nat.reduceBEq, ↓BEq.rfl, ↓beq_self_eq_true, ↓Bool.or_false, ↓Bool.or_true]
              exact next _ rfl
            · simp -dsimp only [↓wpS, ↓wpE, ↓wpEs, ↓wpEs', ↓wpCs, ↓wpI, ↓callW, ↓okArgs, ↓sigOk, ↓inouts, ↓lents, ↓peeks, ↓peek, ↓pk, ↓slot, ↓setOwn, ↓setC, ↓freeze, ↓isOwn, ↓isIo, ↓slC, ↓isLst, ↓asV, ↓asS, ↓asVs, ↓asSs, ↓isT, ↓R.still, ↓setMany, ↓bindT, ↓wipeE, ↓unwipe, ↓binD, ↓intBin, ↓cmpD, ↓eqD, ↓ordD, ↓ordI, ↓startE, ↓endsOf, ↓ioOf, ↓newsOf, ↓Sl.r, ↓itemsOf, ↓slcD, ↓revD, ↓b1D, ↓b2D, ↓isNoneD, ↓noRefR, ↓noRef, ↓noRefs, ite_self, ↓isTy, ↓List.getElem?_cons_zero, ↓List.getElem?_cons_succ, ↓List.getElem?_nil, ↓Option.join_some, ↓Option.join_none, ↓Option.isSome_some, ↓Option.isSome_none, ↓List.set_cons_zero, ↓List.set_cons_succ, ↓List.replicate, ↓List.length_cons, ↓List.length_nil, ↓List.isEmpty_cons, ↓List.isEmpty_nil, ↓List.all_cons, ↓List.all_nil, ↓List.filterMap_cons, ↓List.filterMap_nil, ↓List.contains_cons, ↓List.contains_nil, ↓Bool.and_true, ↓Bool.true_and, ↓Bool.and_false, ↓Bool.false_and, ↓Bool.not_true, ↓Bool.not_false, ↓if_true, ↓sh_int, ↓sh_bool, ↓sh_none, ↓eqv_ii, ↓eqv_bb, ↓eqv_ss, ↓brn_true, ↓brn_false, brn_true, brn_false, ↓List.any_cons, ↓List.any_nil, ↓if_false, ↓ite_true, ↓ite_false, ↓true_and, ↓and_true, ↓Bool.false_eq_true, ↓reduceCtorEq, ↓decide_true, ↓decide_false, ↓List.map_cons, ↓List.map_nil, ↓Tg.slots, ↓List.nodup_cons, ↓List.nodup_nil, ↓List.not_mem_nil, ↓not_false_eq_true, ↓forall_const, ↓true_implies, ↓bI, Nat.reduceAdd, Nat.reduceSub, Nat.reduceEqDiff, Int.reduceLT, Int.reduceLE, Nat.reduceLT, Nat.reduceLeDiff, Int.reduceNeg, Nat.reduceBEq, ↓BEq.rfl, ↓beq_self_eq_true, ↓Bool.or_false, ↓Bool.or_true]
              rw [boolsOf_map]
              refine ⟨_, rfl, ?_⟩
              rw [all_id]
              exact k
        | _ =>
          simp only [houseB, Bool.and_false] at k
          simp -dsimp only [↓wpS, ↓wpE, ↓wpEs, ↓wpEs', ↓wpCs, ↓wpI, ↓callW, ↓okArgs, ↓sigOk, ↓inouts, ↓lents, ↓peeks, ↓peek, ↓pk, ↓slot, ↓setOwn, ↓setC, ↓freeze, ↓isOwn, ↓isIo, ↓slC, ↓isLst, ↓asV, ↓asS, ↓asVs, ↓asSs, ↓isT, ↓R.still, ↓setMany, ↓bindT, ↓wipeE, ↓unwipe, ↓binD, ↓intBin, ↓cmpD, ↓eqD, ↓ordD, ↓ordI, ↓startE, ↓endsOf, ↓ioOf, ↓newsOf, ↓Sl.r, ↓itemsOf, ↓slcD, ↓revD, ↓b1D, ↓b2D, ↓isNoneD, ↓noRefR, ↓noRef, ↓noRefs, ite_self, ↓isTy, ↓List.getElem?_cons_zero, ↓List.getElem?_cons_succ, ↓List.getElem?_nil, ↓Option.join_some, ↓Option.join_none, ↓Option.isSome_some, ↓Option.isSome_none, ↓List.set_cons_zero, ↓List.set_cons_succ, ↓List.replicate, ↓List.length_cons, ↓List.length_nil, ↓List.isEmpty_cons, ↓List.isEmpty_nil, ↓List.all_cons, ↓List.all_nil, ↓List.filterMap_cons, ↓List.filterMap_nil, ↓List.contains_cons, ↓List.contains_nil, ↓Bool.and_true, ↓Bool.true_and, ↓Bool.and_false, ↓Bool.false_and, ↓Bool.not_true, ↓Bool.not_false, ↓if_true, ↓sh_int, ↓sh_bool, ↓sh_none, ↓eqv_ii, ↓eqv_bb, ↓eqv_ss, ↓brn_true, ↓brn_false, brn_true, brn_false, ↓List.any_cons, ↓List.any_nil, ↓if_false, ↓ite_true, ↓ite_false, ↓true_and, ↓and_true, ↓Bool.false_eq_true, ↓reduceCtorEq, ↓decide_true, ↓decide_false, ↓List.map_cons, ↓List.map_nil, ↓Tg.slots, ↓List.nodup_cons, ↓List.nodup_nil, ↓List.not_mem_nil, ↓not_false_eq_true, ↓forall_const, ↓true_implies, ↓bI, Nat.reduceAdd, Nat.reduceSub, Nat.reduceEqDiff, Int.reduceLT, Int.reduceLE, Nat.reduceLT, Nat.reduceLeDiff, Int.reduceNeg, Nat.reduceBEq, ↓BEq.rfl, ↓beq_self_eq_true, ↓Bool.or_false, ↓Bool.or_true]
          exact k
    · have e : houseB (.tuple l) = false := by
        match l, h2l with
        | [], _ => rfl
        | [_], _ => rfl
        | [_, _], h => exact absurd rfl h
        | _ :: _ :: _ :: _, _ => rfl
      have e2 : decide (((l.length : Nat) : Int) = 2) = false := decide_eq_false (by omega)
      rw [e] at k
      simp -dsimp only [↓wpS, ↓wpE, ↓wpEs, ↓wpEs', ↓wpCs, ↓wpI, ↓callW, ↓okArgs, ↓sigOk, ↓inouts, ↓lents, ↓peeks, ↓peek, ↓pk, ↓slot, ↓setOwn, ↓setC, ↓freeze, ↓isOwn, ↓isIo, ↓slC, ↓isLst, ↓asV, ↓asS, ↓asVs, ↓asSs, ↓isT, ↓R.still, ↓setMany, ↓bindT, ↓wipeE, ↓unwipe, ↓binD, ↓intBin, ↓cmpD, ↓eqD, ↓ordD, ↓ordI, ↓startE, ↓endsOf, ↓ioOf, ↓newsOf, ↓Sl.r, ↓itemsOf, ↓slcD, ↓revD, ↓b1D, ↓b2D, ↓isNoneD, ↓noRefR, ↓noRef, ↓noRefs, ite_self, ↓isTy, ↓List.getElem?_cons_zero, ↓List.getElem?_cons_succ, ↓List.getElem?_nil, ↓Option.join_some, ↓Option.join_none, ↓Option.isSome_some, ↓Option.isSome_none, ↓List.set_cons_zero, ↓List.set_cons_succ, ↓List.replicate, ↓List.length_cons, ↓List.length_nil, ↓List.isEmpty_cons, ↓List.isEmpty_nil, ↓List.all_cons, ↓List.all_nil, ↓List.filterMap_cons, ↓List.filterMap_nil, ↓List.contains_cons, ↓List.contains_nil, ↓Bool.and_true, ↓Bool.true_and, ↓Bool.and_false, ↓Bool.false_and, ↓Bool.not_true, ↓Bool.not_false, ↓if_true, ↓sh_int, ↓sh_bool, ↓sh_none, ↓eqv_ii, ↓eqv_bb, ↓eqv_ss, ↓brn_true, ↓brn_false, brn_true, brn_false, ↓List.any_cons, ↓List.any_nil, ↓if_false, ↓ite_true, ↓ite_false, ↓true_and, ↓and_true, ↓Bool.false_eq_true, ↓reduceCtorEq, ↓decide_true, ↓decide_false, ↓List.map_cons, ↓List.map_nil, ↓Tg.slots, ↓List.nodup_cons, ↓List.nodup_nil, ↓List.not_mem_nil, ↓not_false_eq_true, ↓forall_const, ↓true_implies, ↓bI, Nat.reduceAdd, Nat.reduceSub, Nat.reduceEqDiff, Int.reduceLT, Int.reduceLE, Nat.reduceLT, Nat.reduceLeDiff, Int.reduceNeg, Nat.reduceBEq, ↓BEq.rfl, ↓beq_self_eq_true, ↓Bool.or_false, ↓Bool.or_true]
      rw [e2]
      simp -dsimp only [↓wpS, ↓wpE, ↓wpEs, ↓wpEs', ↓wpCs, ↓wpI, ↓callW, ↓okArgs, ↓sigOk, ↓inouts, ↓lents, ↓peeks, ↓peek, ↓pk, ↓slot, ↓setOwn, ↓setC, ↓freeze, ↓isOwn, ↓isIo, ↓slC, ↓isLst, ↓asV, ↓asS, ↓asVs, ↓asSs, ↓isT, ↓R.still, ↓setMany, ↓bindT, ↓wipeE, ↓unwipe, ↓binD, ↓intBin, ↓cmpD, ↓eqD, ↓ordD, ↓ordI, ↓startE, ↓endsOf, ↓ioOf, ↓newsOf, ↓Sl.r, ↓itemsOf, ↓slcD, ↓revD, ↓b1D, ↓b2D, ↓isNoneD, ↓noRefR, ↓noRef, ↓noRefs, ite_self, ↓isTy, ↓List.getElem?_cons_zero, ↓List.getElem?_cons_succ, ↓List.getElem?_nil, ↓Option.join_some, ↓Option.join_none, ↓Option.isSome_some, ↓Option.isSome_none, ↓List.set_cons_zero, ↓List.set_cons_succ, ↓List.replicate, ↓List.length_cons, ↓List.length_nil, ↓List.isEmpty_cons, ↓List.isEmpty_nil, ↓List.all_cons, ↓List.all_nil, ↓List.filterMap_cons, ↓List.filterMap_nil, ↓List.contains_cons, ↓List.contains_nil, ↓Bool.and_true, ↓Bool.true_and, ↓Bool.and_false, ↓Bool.false_and, ↓Bool.not_true, ↓Bool.not_false, ↓if_true, ↓sh_int, ↓sh_bool, ↓sh_none, ↓eqv_ii, ↓eqv_bb, ↓eqv_ss, ↓brn_true, ↓brn_false, brn_true, brn_false, ↓List.any_cons, ↓List.any_nil, ↓if_false, ↓ite_true, ↓ite_false, ↓true_and, ↓and_true, ↓Bool.false_eq_true, ↓reduceCtorEq, ↓decide_true, ↓decide_false, ↓List.map_cons, ↓List.map_nil, ↓Tg.slots, ↓List.nodup_cons, ↓List.nodup_nil, ↓List.not_mem_nil, ↓not_false_eq_true, ↓forall_const, ↓true_implies, ↓bI, Nat.reduceAdd, Nat.reduceSub, Nat.reduceEqDiff, Int.reduceLT, Int.reduceLE, Nat.reduceLT, Nat.reduceLeDiff, Int.reduceNeg, Nat.reduceBEq, ↓BEq.rfl, ↓beq_self_eq_true, ↓Bool.or_false, ↓Bool.or_true]
      exact k
  | _ =>
    simp -dsimp only [↓wpS, ↓wpE, ↓wpEs, ↓wpEs', ↓wpCs, ↓wpI, ↓callW, ↓okArgs, ↓sigOk, ↓inouts, ↓lents, ↓peeks, ↓peek, ↓pk, ↓slot, ↓setOwn, ↓setC, ↓freeze, ↓isOwn, ↓isIo, ↓slC, ↓isLst, ↓asV, ↓asS, ↓asVs, ↓asSs, ↓isT, ↓R.still, ↓setMany, ↓bindT, ↓wipeE, ↓unwipe, ↓binD, ↓intBin, ↓cmpD, ↓eqD, ↓ordD, ↓ordI, ↓startE, ↓endsOf, ↓ioOf, ↓newsOf, ↓Sl.r, ↓itemsOf, ↓slcD, ↓revD, ↓b1D, ↓b2D, ↓isNoneD, ↓noRefR, ↓noRef, ↓noRefs, ite_self, ↓isTy, ↓List.getElem?_cons_zero, ↓List.getElem?_cons_succ, ↓List.getElem?_nil, ↓Option.join_some, ↓Option.join_none, ↓Option.isSome_some, ↓Option.isSome_none, ↓List.set_cons_zero, ↓List.set_cons_succ, ↓List.replicate, ↓List.length_cons, ↓List.length_nil, ↓List.isEmpty_cons, ↓List.isEmpty_nil, ↓List.all_cons, ↓List.all_nil, ↓List.filterMap_cons, ↓List.filterMap_nil, ↓List.contains_cons, ↓List.contains_nil, ↓Bool.and_true, ↓Bool.true_and, ↓Bool.and_false, ↓Bool.false_and, ↓Bool.not_true, ↓Bool.not_false, ↓if_true, ↓sh_int, ↓sh_bool, ↓sh_none, ↓eqv_ii, ↓eqv_bb, ↓eqv_ss, ↓brn_true, ↓brn_false, brn_true, brn_false, ↓List.any_cons, ↓List.any_nil, ↓if_false, ↓ite_true, ↓ite_false, ↓true_and, ↓and_true, ↓Bool.false_eq_true, ↓reduceCtorEq, ↓decide_true, ↓decide_false, ↓List.map_cons, ↓List.map_nil, ↓Tg.slots, ↓List.nodup_cons, ↓List.nodup_nil, ↓List.not_mem_nil, ↓not_false_eq_true, ↓forall_const, ↓true_implies, ↓bI, Nat.reduceAdd, Nat.reduceSub, Nat.reduceEqDiff, Int.reduceLT, Int.reduceLE, Nat.reduceLT, Nat.reduceLeDiff, Int.reduceNeg, Nat.reduceBEq, ↓BEq.rfl, ↓beq_self_eq_true, ↓Bool.or_false, ↓Bool.or_true]
    exact k
theorem law_is_house_ok (Φ : Tbl) (h : Φ "_law_is_integer" = withinSp) (h2 : Φ "_law_is_tuple" = ascSp) : Impl Φ [false] 2 f_law_is_house isHouseSp := by
  rintro ds Q ⟨d, rfl, hl, k⟩ _
  unfold f_law_is_house
  cases d with
  | tuple l =>
    by_cases h2l : l.length = 2
    · obtain ⟨a, b, rfl⟩ : ∃ a b, l = [a, b] := by
        match l, h2l with
        | [a, b], _ => exact ⟨a, b, rfl⟩
      simp -dsimp only [↓wpS, ↓wpE, ↓wpEs, ↓wpEs', ↓wpCs, ↓wpI, ↓callW, ↓okArgs, ↓sigOk, ↓inouts, ↓lents, ↓peeks, ↓peek, ↓pk, ↓slot, ↓setOwn, ↓setC, ↓freeze, ↓isOwn, ↓isIo, ↓slC, ↓isLst, ↓asV, ↓asS, ↓asVs, ↓asSs, ↓isT, ↓R.still, ↓setMany, ↓bindT, ↓wipeE, ↓unwipe, ↓binD, ↓intBin, ↓cmpD, ↓eqD, ↓ordD, ↓ordI, ↓startE, ↓endsOf, ↓ioOf, ↓newsOf, ↓Sl.r, ↓itemsOf, ↓slcD, ↓revD, ↓b1D, ↓b2D, ↓isNoneD, ↓noRefR, ↓noRef, ↓noRefs, ite_self, ↓isTy, ↓List.getElem?_cons_zero, ↓List.getElem?_cons_succ, ↓List.getElem?_nil, ↓Option.join_some, ↓Option.join_none, ↓Option.isSome_some, ↓Option.isSome_none, ↓List.set_cons_zero, ↓List.set_cons_succ, ↓List.replicate, ↓List.length_cons, ↓List.length_nil, ↓List.isEmpty_cons, ↓List.isEmpty_nil, ↓List.all_cons, ↓List.all_nil, ↓List.filterMap_cons, ↓List.filterMap_nil, ↓List.contains_cons, ↓List.contains_nil, ↓Bool.and_true, ↓Bool.true_and, ↓Bool.and_false, ↓Bool.false_and, ↓Bool.not_true, ↓Bool.not_false, ↓if_true, ↓sh_int, ↓sh_bool, ↓sh_none, ↓eqv_ii, ↓eqv_bb, ↓eqv_ss, ↓brn_true, ↓brn_false, brn_true, brn_false, ↓List.any_cons, ↓List.any_nil, ↓if_false, ↓ite_true, ↓ite_false, ↓true_and, ↓and_true, ↓Bool.false_eq_true, ↓reduceCtorEq, ↓decide_true, ↓decide_false, ↓List.map_cons, ↓List.map_nil, ↓Tg.slots, ↓List.nodup_cons, ↓List.nodup_nil, ↓List.not_mem_nil, ↓not_false_eq_true, ↓forall_const, ↓true_implies, ↓bI, Nat.reduceAdd, Nat.reduceSub, Nat.reduceEqDiff, Int.reduceLT, Int.reduceLE, Nat.reduceLT, Nat.reduceLeDiff, Int.reduceNeg, Nat.reduceBEq, ↓BEq.rfl, ↓beq_self_eq_true, ↓Bool.or_false, ↓Bool.or_true]
      have e22 : (!decide (((2 : Nat) : Int) = 2)) = false := rfl
      rw [e22]
      simp -dsimp only [↓wpS, ↓wpE, ↓wpEs, ↓wpEs', ↓wpCs, ↓wpI, ↓callW, ↓okArgs, ↓sigOk, ↓inouts, ↓lents, ↓peeks, ↓peek, ↓pk, ↓slot, ↓setOwn, ↓setC, ↓freeze, ↓isOwn, ↓isIo, ↓slC, ↓isLst, ↓asV, ↓asS, ↓asVs, ↓asSs, ↓isT, ↓R.still, ↓setMany, ↓bindT, ↓wipeE, ↓unwipe, ↓binD, ↓intBin, ↓cmpD, ↓eqD, ↓ordD, ↓ordI, ↓startE, ↓endsOf, ↓ioOf, ↓newsOf, ↓Sl.r, ↓itemsOf, ↓slcD, ↓revD, ↓b1D, ↓b2D, ↓isNoneD, ↓noRefR, ↓noRef, ↓noRefs, ite_self, ↓isTy, ↓List.getElem?_cons_zero, ↓List.getElem?_cons_succ, ↓List.getElem?_nil, ↓Option.join_some, ↓Option.join_none, ↓Option.isSome_some, ↓Option.isSome_none, ↓List.set_cons_zero, ↓List.set_cons_succ, ↓List.replicate, ↓List.length_cons, ↓List.length_nil, ↓List.isEmpty_cons, ↓List.isEmpty_nil, ↓List.all_cons, ↓List.all_nil, ↓List.filterMap_cons, ↓List.filterMap_nil, ↓List.contains_cons, ↓List.contains_nil, ↓Bool.and_true, ↓Bool.true_and, ↓Bool.and_false, ↓Bool.false_and, ↓Bool.not_true, ↓Bool.not_false, ↓if_true, ↓sh_int, ↓sh_bool, ↓sh_none, ↓eqv_ii, ↓eqv_bb, ↓eqv_ss, ↓brn_true, ↓brn_false, brn_true, brn_false, ↓List.any_cons, ↓List.any_nil, ↓if_false, ↓ite_true, ↓ite_false, ↓true_and, ↓and_true, ↓Bool.false_eq_true, ↓reduceCtorEq, ↓decide_true, ↓decide_false, ↓List.map_cons, ↓List.map_nil, ↓Tg.slots, ↓List.nodup_cons, ↓List.nodup_nil, ↓List.not_mem_nil, ↓not_false_eq_true, ↓forall_const, ↓true_implies, ↓bI, Nat.reduceAdd, Nat.reduceSub, Nat.reduceEqDiff, Int.reduceLT, Int.reduceLE, Nat.reduceLT, Nat.reduceLeDiff, Int.reduceNeg, Nat.reduceBEq, ↓BEq.rfl, ↓beq_self_eq_true, ↓Bool.or_false, ↓Bool.or_true]
      refine stp_nT (n := 0) rfl ?_
      simp -dsimp only [↓wpS, ↓wpE, ↓wpEs, ↓wpEs', ↓wpCs, ↓wpI, ↓callW, ↓okArgs, ↓sigOk, ↓inouts, ↓lents, ↓peeks, ↓peek, ↓pk, ↓slot, ↓setOwn, ↓setC, ↓freeze, ↓isOwn, ↓isIo, ↓slC, ↓isLst, ↓asV, ↓asS, ↓asVs, ↓asSs, ↓isT, ↓R.still, ↓setMany, ↓bindT, ↓wipeE, ↓unwipe, ↓binD, ↓intBin, ↓cmpD, ↓eqD, ↓ordD, ↓ordI, ↓startE, ↓endsOf, ↓ioOf, ↓newsOf, ↓Sl.r, ↓itemsOf, ↓slcD, ↓revD, ↓b1D, ↓b2D, ↓isNoneD, ↓noRefR, ↓noRef, ↓noRefs, ite_self, ↓isTy, ↓List.getElem?_cons_zero, ↓List.getElem?_cons_succ, ↓List.getElem?_nil, ↓Option.join_some, ↓Option.join_none, ↓Option.isSome_some, ↓Option.isSome_none, ↓List.set_cons_zero, ↓List.set_cons_succ, ↓List.replicate, ↓List.length_cons, ↓List.length_nil, ↓List.isEmpty_cons, ↓List.isEmpty_nil, ↓List.all_cons, ↓List.all_nil, ↓List.filterMap_cons, ↓List.filterMap_nil, ↓List.contains_cons, ↓List.contains_nil, ↓Bool.and_true, ↓Bool.true_and, ↓Bool.and_false, ↓Bool.false_and, ↓Bool.not_true, ↓Bool.not_false, ↓if_true, ↓sh_int, ↓sh_bool, ↓sh_none, ↓eqv_ii, ↓eqv_bb, ↓eqv_ss, ↓brn_true, ↓brn_false, brn_true, brn_false, ↓List.any_cons, ↓List.any_nil, ↓if_false, ↓ite_true, ↓ite_false, ↓true_and, ↓and_true, ↓Bool.false_eq_true, ↓reduceCtorEq, ↓decide_true, ↓decide_false, ↓List.map_cons, ↓List.map_nil, ↓Tg.slots, ↓List.nodup_cons, ↓List.nodup_nil, ↓List.not_mem_nil, ↓not_false_eq_true, ↓forall_const, ↓true_implies, ↓bI, Nat.reduceAdd, Nat.reduceSub, Nat.reduceEqDiff, Int.reduceLT, Int.reduceLE, Nat.reduceLT, Nat.reduceLeDiff, Int.reduceNeg, Nat.reduceBEq, ↓BEq.rfl, ↓beq_self_eq_true, ↓Bool.or_false, ↓Bool.or_true]
      refine ⟨_, rfl, ?_⟩
      rw [h]
      refine ⟨a, 1, 10, rfl, fun hq => ?_⟩
      cases hr : inR 1 10 a
      · have e : houseB (.tuple [a, b]) = false := by simp only [houseB, hr, Bool.false_and]
        rw [e] at k
        simp -dsimp only [↓wpS, ↓wpE, ↓wpEs, ↓wpEs', ↓wpCs, ↓wpI, ↓callW, ↓okArgs, ↓sigOk, ↓inouts, ↓lents, ↓peeks, ↓peek, ↓pk, ↓slot, ↓setOwn, ↓setC, ↓freeze, ↓isOwn, ↓isIo, ↓slC, ↓isLst, ↓asV, ↓asS, ↓asVs, ↓asSs, ↓isT, ↓R.still, ↓setMany, ↓bindT, ↓wipeE, ↓unwipe, ↓binD, ↓intBin, ↓cmpD, ↓eqD, ↓ordD, ↓ordI, ↓startE, ↓endsOf, ↓ioOf, ↓newsOf, ↓Sl.r, ↓itemsOf, ↓slcD, ↓revD, ↓b1D, ↓b2D, ↓isNoneD, ↓noRefR, ↓noRef, ↓noRefs, ite_self, ↓isTy, ↓List.getElem?_cons_zero, ↓List.getElem?_cons_succ, ↓List.getElem?_nil, ↓Option.join_some, ↓Option.join_none, ↓Option.isSome_some, ↓Option.isSome_none, ↓List.set_cons_zero, ↓List.set_cons_succ, ↓List.replicate, ↓List.length_cons, ↓List.length_nil, ↓List.isEmpty_cons, ↓List.isEmpty_nil, ↓List.all_cons, ↓List.all_nil, ↓List.filterMap_cons, ↓List.filterMap_nil, ↓List.contains_cons, ↓List.contains_nil, ↓Bool.and_true, ↓Bool.true_and, ↓Bool.and_false, ↓Bool.false_and, ↓Bool.not_true, ↓Bool.not_false, ↓if_true, ↓sh_int, ↓sh_bool, ↓sh_none, ↓eqv_ii, ↓eqv_bb, ↓eqv_ss, ↓brn_true, ↓brn_false, brn_true, brn_false, ↓List.any_cons, ↓List.any_nil, ↓if_false, ↓ite_true, ↓ite_false, ↓true_and, ↓and_true, ↓Bool.false_eq_true, ↓reduceCtorEq, ↓decide_true, ↓decide_false, ↓List.map_cons, ↓List.map_nil, ↓Tg.slots, ↓List.nodup_cons, ↓List.nodup_nil, ↓List.not_mem_nil, ↓not_false_eq_true, ↓forall_const, ↓true_implies, ↓bI, Nat.reduceAdd, Nat.reduceSub, Nat.reduceEqDiff, Int.reduceLT, Int.reduceLE, Nat.reduceLT, Nat.reduceLeDiff, Int.reduceNeg, Nat.reduceBEq, ↓BEq.rfl, ↓beq_self_eq_true, ↓Bool.or_false, ↓Bool.or_true]
        exact k
      · cases a <;> simp only [inR, Bool.false_eq_true] at hr
        rename_i n q1
        have hr' : inR 1 10 (.int n) = true := hr
        simp -dsimp only [↓wpS, ↓wpE, ↓wpEs, ↓wpEs', ↓wpCs, ↓wpI, ↓callW, ↓okArgs, ↓sigOk, ↓inouts, ↓lents, ↓peeks, ↓peek, ↓pk, ↓slot, ↓setOwn, ↓setC, ↓freeze, ↓isOwn, ↓isIo, ↓slC, ↓isLst, ↓asV, ↓asS, ↓asVs, ↓asSs, ↓isT, ↓R.still, ↓setMany, ↓bindT, ↓wipeE, ↓unwipe, ↓binD, ↓intBin, ↓cmpD, ↓eqD, ↓ordD, ↓ordI, ↓startE, ↓endsOf, ↓ioOf, ↓newsOf, ↓Sl.r, ↓itemsOf, ↓slcD, ↓revD, ↓b1D, ↓b2D, ↓isNoneD, ↓noRefR, ↓noRef, ↓noRefs, ite_self, ↓isTy, ↓List.getElem?_cons_zero, ↓List.getElem?_cons_succ, ↓List.getElem?_nil, ↓Option.join_some, ↓Option.join_none, ↓Option.isSome_some, ↓Option.isSome_none, ↓List.set_cons_zero, ↓List.set_cons_succ, ↓List.replicate, ↓List.length_cons, ↓List.length_nil, ↓List.isEmpty_cons, ↓List.isEmpty_nil, ↓List.all_cons, ↓List.all_nil, ↓List.filterMap_cons, ↓List.filterMap_nil, ↓List.contains_cons, ↓List.contains_nil, ↓Bool.and_true, ↓Bool.true_and, ↓Bool.and_false, ↓Bool.false_and, ↓Bool.not_true, ↓Bool.not_false, ↓if_true, ↓sh_int, ↓sh_bool, ↓sh_none, ↓eqv_ii, ↓eqv_bb, ↓eqv_ss, ↓brn_true, ↓brn_false, brn_true, brn_false, ↓List.any_cons, ↓List.any_nil, ↓if_false, ↓ite_true, ↓ite_false, ↓true_and, ↓and_true, ↓Bool.false_eq_true, ↓reduceCtorEq, ↓decide_true, ↓decide_false, ↓List.map_cons, ↓List.map_nil, ↓Tg.slots, ↓List.nodup_cons, ↓List.nodup_nil, ↓List.not_mem_nil, ↓not_false_eq_true, ↓forall_const, ↓true_implies, ↓bI, Nat.reduceAdd, Nat.reduceSub, Nat.reduceEqDiff, Int.reduceLT, Int.reduceLE, Nat.reduceLT, Nat.reduceLeDiff, Int.reduceNeg, Nat.reduceBEq, ↓BEq.rfl, ↓beq_self_eq_true, ↓Bool.or_false, ↓Bool.or_true]
        refine stp_nT (n := 1) rfl ?_
        cases b with
        | tuple l =>
          simp -dsimp only [↓wpS, ↓wpE, ↓wpEs, ↓wpEs', ↓wpCs, ↓wpI, ↓callW, ↓okArgs, ↓sigOk, ↓inouts, ↓lents, ↓peeks, ↓peek, ↓pk, ↓slot, ↓setOwn, ↓setC, ↓freeze, ↓isOwn, ↓isIo, ↓slC, ↓isLst, ↓asV, ↓asS, ↓asVs, ↓asSs, ↓isT, ↓R.still, ↓setMany, ↓bindT, ↓wipeE, ↓unwipe, ↓binD, ↓intBin, ↓cmpD, ↓eqD, ↓ordD, ↓ordI, ↓startE, ↓endsOf, ↓ioOf, ↓newsOf, ↓Sl.r, ↓itemsOf, ↓slcD, ↓revD, ↓b1D, ↓b2D, ↓isNoneD, ↓noRefR, ↓noRef, ↓noRefs, ite_self, ↓isTy, ↓List.getElem?_cons_zero, ↓List.getElem?_cons_succ, ↓List.getElem?_nil, ↓Option.join_some, ↓Option.join_none, ↓Option.isSome_some, ↓Option.isSome_none, ↓List.set_cons_zero, ↓List.set_cons_succ, ↓List.replicate, ↓List.length_cons, ↓List.length_nil, ↓List.isEmpty_cons, ↓List.isEmpty_nil, ↓List.all_cons, ↓List.all_nil, ↓List.filterMap_cons, ↓List.filterMap_nil, ↓List.contains_cons, ↓List.contains_nil, ↓Bool.and_true, ↓Bool.true_and, ↓Bool.and_false, ↓Bool.false_and, ↓Bool.not_true, ↓Bool.not_false, ↓if_true, ↓sh_int, ↓sh_bool, ↓sh_none, ↓eqv_ii, ↓eqv_bb, ↓eqv_ss, ↓brn_true, ↓brn_false, brn_true, brn_false, ↓List.any_cons, ↓List.any_nil, ↓if_false, ↓ite_true, ↓ite_false, ↓true_and, ↓and_true, ↓Bool.false_eq_true, ↓reduceCtorEq, ↓decide_true, ↓decide_false, ↓List.map_cons, ↓List.map_nil, ↓Tg.slots, ↓List.nodup_cons, ↓List.nodup_nil, ↓List.not_mem_nil, ↓not_false_eq_true, ↓forall_const, ↓true_implies, ↓bI, Nat.reduceAdd, Nat.reduceSub, Nat.reduceEqDiff, Int.reduceLT, Int.reduceLE, Nat.reduceLT, Nat.reduceLeDiff, Int.reduceNeg, Nat.reduceBEq, ↓BEq.rfl, ↓beq_self_eq_true, ↓Bool.or_false, ↓Bool.or_true]
          refine stp_nT (n := 1) rfl ?_
          simp -dsimp only [↓wpS, ↓wpE, ↓wpEs, ↓wpEs', ↓wpCs, ↓wpI, ↓callW, ↓okArgs, ↓sigOk, ↓inouts, ↓lents, ↓peeks, ↓peek, ↓pk, ↓slot, ↓setOwn, ↓setC, ↓freeze, ↓isOwn, ↓isIo, ↓slC, ↓isLst, ↓asV, ↓asS, ↓asVs, ↓asSs, ↓isT, ↓R.still, ↓setMany, ↓bindT, ↓wipeE, ↓unwipe, ↓binD, ↓intBin, ↓cmpD, ↓eqD, ↓ordD, ↓ordI, ↓startE, ↓endsOf, ↓ioOf, ↓newsOf, ↓Sl.r, ↓itemsOf, ↓slcD, ↓revD, ↓b1D, ↓b2D, ↓isNoneD, ↓noRefR, ↓noRef, ↓noRefs, ite_self, ↓isTy, ↓List.getElem?_cons_zero, ↓List.getElem?_cons_succ, ↓List.getElem?_nil, ↓Option.join_some, ↓Option.join_none, ↓Option.isSome_some, ↓Option.isSome_none, ↓List.set_cons_zero, ↓List.set_cons_succ, ↓List.replicate, ↓List.length_cons, ↓List.length_nil, ↓List.isEmpty_cons, ↓List.isEmpty_nil, ↓List.all_cons, ↓List.all_nil, ↓List.filterMap_cons, ↓List.filterMap_nil, ↓List.contains_cons, ↓List.contains_nil, ↓Bool.and_true, ↓Bool.true_and, ↓Bool.and_false, ↓Bool.false_and, ↓Bool.not_true, ↓Bool.not_false, ↓if_true, ↓sh_int, ↓sh_bool, ↓sh_none, ↓eqv_ii, ↓eqv_bb, ↓eqv_ss, ↓brn_true, ↓brn_false, brn_true, brn_false, ↓List.any_cons, ↓List.any_nil, ↓if_false, ↓ite_true, ↓ite_false, ↓true_and, ↓and_true, ↓Bool.false_eq_true, ↓reduceCtorEq, ↓decide_true, ↓decide_false, ↓List.map_cons, ↓List.map_nil, ↓Tg.slots, ↓List.nodup_cons, ↓List.nodup_nil, ↓List.not_mem_nil, ↓not_false_eq_true, ↓forall_const, ↓true_implies, ↓bI, Nat.reduceAdd, Nat.reduceSub, Nat.reduceEqDiff, Int.reduceLT, Int.reduceLE, Nat.reduceLT, Nat.reduceLeDiff, Int.reduceNeg, Nat.reduceBEq, ↓BEq.rfl, ↓beq_self_eq_true, ↓Bool.or_false, ↓Bool.or_true]
          refine brn_of (fun hb => ?_) (fun hb => ?_)
          · have hb' : decide (l.length ≤ 6) = false := decide_eq_false fun e => by
              have : ((l.length : Nat) : Int) > ((6 : Nat) : Int) := by simpa using hb
              omega
            have e : houseB (.tuple [.int n, .tuple l]) = false := by simp only [houseB, hb', Bool.false_and, Bool.and_false]
            rw [e] at k
            simp -dsimp only [↓wpS, ↓wpE, ↓wpEs, ↓wpEs', ↓wpCs, ↓wpI, ↓callW, ↓okArgs, ↓sigOk, ↓inouts, ↓lents, ↓peeks, ↓peek, ↓pk, ↓slot, ↓setOwn, ↓setC, ↓freeze, ↓isOwn, ↓isIo, ↓slC, ↓isLst, ↓asV, ↓asS, ↓asVs, ↓asSs, ↓isT, ↓R.still, ↓setMany, ↓bindT, ↓wipeE, ↓unwipe, ↓binD, ↓intBin, ↓cmpD, ↓eqD, ↓ordD, ↓ordI, ↓startE, ↓endsOf, ↓ioOf, ↓newsOf, ↓Sl.r, ↓itemsOf, ↓slcD, ↓revD, ↓b1D, ↓b2D, ↓isNoneD, ↓noRefR, ↓noRef, ↓noRefs, ite_self, ↓isTy, ↓List.getElem?_cons_zero, ↓List.getElem?_cons_succ, ↓List.getElem?_nil, ↓Option.join_some, ↓Option.join_none, ↓Option.isSome_some, ↓Option.isSome_none, ↓List.set_cons_zero, ↓List.set_cons_succ, ↓List.replicate, ↓List.length_cons, ↓List.length_nil, ↓List.isEmpty_cons, ↓List.isEmpty_nil, ↓List.all_cons, ↓List.all_nil, ↓List.filterMap_cons, ↓List.filterMap_nil, ↓List.contains_cons, ↓List.contains_nil, ↓Bool.and_true, ↓Bool.true_and, ↓Bool.and_false, ↓Bool.false_and, ↓Bool.not_true, ↓Bool.not_false, ↓if_true, ↓sh_int, ↓sh_bool, ↓sh_none, ↓eqv_ii, ↓eqv_bb, ↓eqv_ss, ↓brn_true, ↓brn_false, brn_true, brn_false, ↓List.any_cons, ↓List.any_nil, ↓if_false, ↓ite_true, ↓ite_false, ↓true_and, ↓and_true, ↓Bool.false_eq_true, ↓reduceCtorEq, ↓decide_true, ↓decide_false, ↓List.map_cons, ↓List.map_nil, ↓Tg.slots, ↓List.nodup_cons, ↓List.nodup_nil, ↓List.not_mem_nil, ↓not_false_eq_true, ↓forall_const, ↓true_implies, ↓bI, Nat.reduceAdd, Nat.reduceSub, Nat.reduceEqDiff, Int.reduceLT, Int.reduceLE, Nat.reduceLT, Nat.reduceLeDiff, Int.reduceNeg, Nat.reduceBEq, ↓BEq.rfl, ↓beq_self_eq_true, ↓Bool.or_false, ↓Bool.or_true]
            exact k
          · have hb' : l.length ≤ 6 := by
              have : ¬ ((l.length : Nat) : Int) > ((6 : Nat) : Int) := by simpa using hb
              omega
            have e : houseB (.tuple [.int n, .tuple l]) = l.all (ascB n) := by simp only [houseB, hr', decide_eq_true hb', Bool.true_and]
            rw [e] at k
            simp -dsimp only [↓wpS, ↓wpE, ↓wpEs, ↓wpEs', ↓wpCs, ↓wpI, ↓callW, ↓okArgs, ↓sigOk, ↓inouts, ↓lents, ↓peeks, ↓peek, ↓pk, ↓slot, ↓setOwn, ↓setC, ↓freeze, ↓isOwn, ↓isIo, ↓slC, ↓isLst, ↓asV, ↓asS, ↓asVs, ↓asSs, ↓isT, ↓R.still, ↓setMany, ↓bindT, ↓wipeE, ↓unwipe, ↓binD, ↓intBin, ↓cmpD, ↓eqD, ↓ordD, ↓ordI, ↓startE, ↓endsOf, ↓ioOf, ↓newsOf, ↓Sl.r, ↓itemsOf, ↓slcD, ↓revD, ↓b1D, ↓b2D, ↓isNoneD, ↓noRefR, ↓noRef, ↓noRefs, ite_self, ↓isTy, ↓List.getElem?_cons_zero, ↓List.getElem?_cons_succ, ↓List.getElem?_nil, ↓Option.join_some, ↓Option.join_none, ↓Option.isSome_some, ↓Option.isSome_none, ↓List.set_cons_zero, ↓List.set_cons_succ, ↓List.replicate, ↓List.length_cons, ↓List.length_nil, ↓List.isEmpty_cons, ↓List.isEmpty_nil, ↓List.all_cons, ↓List.all_nil, ↓List.filterMap_cons, ↓List.filterMap_nil, ↓List.contains_cons, ↓List.contains_nil, ↓Bool.and_true, ↓Bool.true_and, ↓Bool.and_false, ↓Bool.false_and, ↓Bool.not_true, ↓Bool.not_false, ↓if_true, ↓sh_int, ↓sh_bool, ↓sh_none, ↓eqv_ii, ↓eqv_bb, ↓eqv_ss, ↓brn_true, ↓brn_false, brn_true, brn_false, ↓List.any_cons, ↓List.any_nil, ↓if_false, ↓ite_true, ↓ite_false, ↓true_and, ↓and_true, ↓Bool.false_eq_true, ↓reduceCtorEq, ↓decide_true, ↓decide_false, ↓List.map_cons, ↓List.map_nil, ↓Tg.slots, ↓List.nodup_cons, ↓List.nodup_nil, ↓List.not_mem_nil, ↓not_false_eq_true, ↓forall_const, ↓true_implies, ↓bI, Nat.reduceAdd, Nat.reduceSub, Nat.reduceEqDiff, Int.reduceLT, Int.reduceLE, Nat.reduceLT, Nat.reduceLeDiff, Int.reduceNeg, Nat.reduceBEq, ↓BEq.rfl, ↓beq_self_eq_true, ↓Bool.or_false, ↓Bool.or_true]
            refine stp_nT (n := 1) rfl ?_
            simp -dsimp only [↓wpS, ↓wpE, ↓wpEs, ↓wpEs', ↓wpCs, ↓wpI, ↓callW, ↓okArgs, ↓sigOk, ↓inouts, ↓lents, ↓peeks, ↓peek, ↓pk, ↓slot, ↓setOwn, ↓setC, ↓freeze, ↓isOwn, ↓isIo, ↓slC, ↓isLst, ↓asV, ↓asS, ↓asVs, ↓asSs, ↓isT, ↓R.still, ↓setMany, ↓bindT, ↓wipeE, ↓unwipe, ↓binD, ↓intBin, ↓cmpD, ↓eqD, ↓ordD, ↓ordI, ↓startE, ↓endsOf, ↓ioOf, ↓newsOf, ↓Sl.r, ↓itemsOf, ↓slcD, ↓revD, ↓b1D, ↓b2D, ↓isNoneD, ↓noRefR, ↓noRef, ↓noRefs, ite_self, ↓isTy, ↓List.getElem?_cons_zero, ↓List.getElem?_cons_succ, ↓List.getElem?_nil, ↓Option.join_some, ↓Option.join_none, ↓Option.isSome_some, ↓Option.isSome_none, ↓List.set_cons_zero, ↓List.set_cons_succ, ↓List.replicate, ↓List.length_cons, ↓List.length_nil, ↓List.isEmpty_cons, ↓List.isEmpty_nil, ↓List.all_cons, ↓List.all_nil, ↓List.filterMap_cons, ↓List.filterMap_nil, ↓List.contains_cons, ↓List.contains_nil, ↓Bool.and_true, ↓Bool.true_and, ↓Bool.and_false, ↓Bool.false_and, ↓Bool.not_true, ↓Bool.not_false, ↓if_true, ↓sh_int, ↓sh_bool, ↓sh_none, ↓eqv_ii, ↓eqv_bb, ↓eqv_ss, ↓brn_true, ↓brn_false, brn_true, brn_false, ↓List.any_cons, ↓List.any_nil, ↓if_false, ↓ite_true, ↓ite_false, ↓true_and, ↓and_true, ↓Bool.false_eq_true, ↓reduceCtorEq, ↓decide_true, ↓decide_false, ↓List.map_cons, ↓List.map_nil, ↓Tg.slots, ↓List.nodup_cons, ↓List.nodup_nil, ↓List.not_mem_nil, ↓not_false_eq_true, ↓forall_const, ↓true_implies, ↓bI, Nat.reduceAdd, Nat.reduceSub, Nat.reduceEqDiff, Int.reduceLT, Int.reduceLE, Nat.reduceLT, Nat.reduceLeDiff, Int.reduceNeg, Nat.reduceBEq, ↓BEq.rfl, ↓beq_self_eq_true, ↓Bool.or_false, ↓Bool.or_true]
            refine ⟨by show _ < 16777216; omega, lc_map (fun x => .bool (ascB n x)) (fun x acc N hx next => ?_) ?_⟩
            · unfold f_law_is_house_e1
              simp -dsimp only [↓wpS, ↓wpE, ↓wpEs, ↓wpEs', ↓wpCs, ↓wpI, ↓callW, ↓okArgs, ↓sigOk, ↓inouts, ↓lents, ↓peeks, ↓peek, ↓pk, ↓slot, ↓setOwn, ↓setC, ↓freeze, ↓isOwn, ↓isIo, ↓slC, ↓isLst, ↓asV, ↓asS, ↓asVs, ↓asSs, ↓isT, ↓R.still, ↓setMany, ↓bindT, ↓wipeE, ↓unwipe, ↓binD, ↓intBin, ↓cmpD, ↓eqD, ↓ordD, ↓ordI, ↓startE, ↓endsOf, ↓ioOf, ↓newsOf, ↓Sl.r, ↓itemsOf, ↓slcD, ↓revD, ↓b1D, ↓b2D, ↓isNoneD, ↓noRefR, ↓noRef, ↓noRefs, ite_self, ↓isTy, ↓List.getElem?_cons_zero, ↓List.getElem?_cons_succ, ↓List.getElem?_nil, ↓Option.join_some, ↓Option.join_none, ↓Option.isSome_some, ↓Option.isSome_none, ↓List.set_cons_zero, ↓List.set_cons_succ, ↓List.replicate, ↓List.length_cons, ↓List.length_nil, ↓List.isEmpty_cons, ↓List.isEmpty_nil, ↓List.all_cons, ↓List.all_nil, ↓List.filterMap_cons, ↓List.filterMap_nil, ↓List.contains_cons, ↓List.contains_nil, ↓Bool.and_true, ↓Bool.true_and, ↓Bool.and_false, ↓Bool.false_and, ↓Bool.not_true, ↓Bool.not_false, ↓if_true, ↓sh_int, ↓sh_bool, ↓sh_none, ↓eqv_ii, ↓eqv_bb, ↓eqv_ss, ↓brn_true, ↓brn_false, brn_true, brn_false, ↓List.any_cons, ↓List.any_nil, ↓if_false, ↓ite_true, ↓ite_false, ↓true_and, ↓and_true, ↓Bool.false_eq_true, ↓reduceCtorEq, ↓decide_true, ↓decide_false, ↓List.map_cons, ↓List.map_nil, ↓Tg.slots, ↓List.nodup_cons, ↓List.nodup_nil, ↓List.not_mem_nil, ↓not_false_eq_true, ↓forall_const, ↓true_implies, ↓bI, Nat.reduceAdd, Nat.reduceSub, Nat.reduceEqDiff, Int.reduceLT, Int.reduceLE, Nat.reduceLT, Nat.reduceLeDiff, Int.reduceNeg, Nat.reduceBEq, ↓BEq.rfl, ↓beq_self_eq_true, ↓Bool.or_false, ↓Bool.or_true]
              refine stp_nT (n := 0) rfl ?_
              simp -dsimp only [↓wpS, ↓wpE, ↓wpEs, ↓wpEs', ↓wpCs, ↓wpI, ↓callW, ↓okArgs, ↓sigOk, ↓inouts, ↓lents, ↓peeks, ↓peek, ↓pk, ↓slot, ↓setOwn, ↓setC, ↓freeze, ↓isOwn, ↓isIo, ↓slC, ↓isLst, ↓asV, ↓asS, ↓asVs, ↓asSs, ↓isT, ↓R.still, ↓setMany, ↓bindT, ↓wipeE, ↓unwipe, ↓binD, ↓intBin, ↓cmpD, ↓eqD, ↓ordD, ↓ordI, ↓startE, ↓endsOf, ↓ioOf, ↓newsOf, ↓Sl.r, ↓itemsOf, ↓slcD, ↓revD, ↓b1D, ↓b2D, ↓isNoneD, ↓noRefR, ↓noRef, ↓noRefs, ite_self, ↓isTy, ↓List.getElem?_cons_zero, ↓List.getElem?_cons_succ, ↓List.getElem?_nil, ↓Option.join_some, ↓Option.join_none, ↓Option.isSome_some, ↓Option.isSome_none, ↓List.set_cons_zero, ↓List.set_cons_succ, ↓List.replicate, ↓List.length_cons, ↓List.length_nil, ↓List.isEmpty_cons, ↓List.isEmpty_nil, ↓List.all_cons, ↓List.all_nil, ↓List.filterMap_cons, ↓List.filterMap_nil, ↓List.contains_cons, ↓List.contains_nil, ↓Bool.and_true, ↓Bool.true_and, ↓Bool.and_false, ↓Bool.false_and, ↓Bool.not_true, ↓Bool.not_false, ↓if_true, ↓sh_int, ↓sh_bool, ↓sh_none, ↓eqv_ii, ↓eqv_bb, ↓eqv_ss, ↓brn_true, ↓brn_false, brn_true, brn_false, ↓List.any_cons, ↓List.any_nil, ↓if_false, ↓ite_true, ↓ite_false, ↓true_and, ↓and_true, ↓Bool.false_eq_true, ↓reduceCtorEq, ↓decide_true, ↓decide_false, ↓List.map_cons, ↓List.map_nil, ↓Tg.slots, ↓List.nodup_cons, ↓List.nodup_nil, ↓List.not_mem_nil, ↓not_false_eq_true, ↓forall_const, ↓true_implies, ↓bI, Nat.reduceAdd, Nat.reduceSub, Nat.reduceEqDiff, Int.reduceLT, Int.reduceLE, Nat.reduceLT, Nat.reduceLeDiff, Int.reduceNeg, Nat.reduceBEq, ↓BEq.rfl, ↓beq_self_eq_true, ↓Bool.or_false, ↓Bool.or_true]
              refine ⟨_, rfl, ?_⟩
              rw [h2]
              refine ⟨x, n, rfl, fun l' e => hl _ l l' rfl (by rw [← e]; exact hx), fun _ => ?_⟩
              simp -dsimp only [↓wpS, ↓wpE, ↓wpEs, ↓wpEs', ↓wpCs, ↓wpI, ↓callW, ↓okArgs, ↓sigOk, ↓inouts, ↓lents, ↓peeks, ↓peek, ↓pk, ↓slot, ↓setOwn, ↓setC, ↓freeze, ↓isOwn, ↓isIo, ↓slC, ↓isLst, ↓asV, ↓asS, ↓asVs, ↓asSs, ↓isT, ↓R.still, ↓setMany, ↓bindT, ↓wipeE, ↓unwipe, ↓binD, ↓intBin, ↓cmpD, ↓eqD, ↓ordD, ↓ordI, ↓startE, ↓endsOf, ↓ioOf, ↓newsOf, ↓Sl.r, ↓itemsOf, ↓slcD, ↓revD, ↓b1D, ↓b2D, ↓isNoneD, ↓noRefR, ↓noRef, ↓noRefs, ite_self, ↓isTy, ↓List.getElem?_cons_zero, ↓List.getElem?_cons_succ, ↓List.getElem?_nil, ↓Option.join_some, ↓Option.join_none, ↓Option.isSome_some, ↓Option.isSome_none, ↓List.set_cons_zero, ↓List.set_cons_succ, ↓List.replicate, ↓List.length_cons, ↓List.length_nil, ↓List.isEmpty_cons, ↓List.isEmpty_nil, ↓List.all_cons, ↓List.all_nil, ↓List.filterMap_cons, ↓List.filterMap_nil, ↓List.contains_cons, ↓List.contains_nil, ↓Bool.and_true, ↓Bool.true_and, ↓Bool.and_false, ↓Bool.false_and, ↓Bool.not_true, ↓Bool.not_false, ↓if_true, ↓sh_int, ↓sh_bool, ↓sh_none, ↓eqv_ii, ↓eqv_bb, ↓eqv_ss, ↓brn_true, ↓brn_false, brn_true, brn_false, ↓List.any_cons, ↓List.any_nil, ↓if_false, ↓ite_true, ↓ite_false, ↓true_and, ↓and_true, ↓Bool.false_eq_true, ↓reduceCtorEq, ↓decide_true, ↓decide_false, ↓List.map_cons, ↓List.map_nil, ↓Tg.slots, ↓List.nodup_cons, ↓List.nodup_nil, ↓List.not_mem_nil, ↓not_false_eq_true, ↓forall_const, ↓true_implies, ↓bI, Nat.reduceAdd, Nat.reduceSub, Nat.reduceEqDiff, Int.reduceLT, Int.reduceLE, Nat.reduceLT, Nat.reduceLeDiff, Int.reduceNeg, Nat.reduceBEq, ↓BEq.rfl, ↓beq_self_eq_true, ↓Bool.or_false, ↓Bool.or_true]
              exact next _ rfl
            · simp -dsimp only [↓wpS, ↓wpE, ↓wpEs, ↓wpEs', ↓wpCs, ↓wpI, ↓callW, ↓okArgs, ↓sigOk, ↓inouts, ↓lents, ↓peeks, ↓peek, ↓pk, ↓slot, ↓setOwn, ↓setC, ↓freeze, ↓isOwn, ↓isIo, ↓slC, ↓isLst, ↓asV, ↓asS, ↓asVs, ↓asSs, ↓isT, ↓R.still, ↓setMany, ↓bindT, ↓wipeE, ↓unwipe, ↓binD, ↓intBin, ↓cmpD, ↓eqD, ↓ordD, ↓ordI, ↓startE, ↓endsOf, ↓ioOf, ↓newsOf, ↓Sl.r, ↓itemsOf, ↓slcD, ↓revD, ↓b1D, ↓b2D, ↓isNoneD, ↓noRefR, ↓noRef, ↓noRefs, ite_self, ↓isTy, ↓List.getElem?_cons_zero, ↓List.getElem?_cons_succ, ↓List.getElem?_nil, ↓Option.join_some, ↓Option.join_none, ↓Option.isSome_some, ↓Option.isSome_none, ↓List.set_cons_zero, ↓List.set_cons_succ, ↓List.replicate, ↓List.length_cons, ↓List.length_nil, ↓List.isEmpty_cons, ↓List.isEmpty_nil, ↓List.all_cons, ↓List.all_nil, ↓List.filterMap_cons, ↓List.filterMap_nil, ↓List.contains_cons, ↓List.contains_nil, ↓Bool.and_true, ↓Bool.true_and, ↓Bool.and_false, ↓Bool.false_and, ↓Bool.not_true, ↓Bool.not_false, ↓if_true, ↓sh_int, ↓sh_bool, ↓sh_none, ↓eqv_ii, ↓eqv_bb, ↓eqv_ss, ↓brn_true, ↓brn_false, brn_true, brn_false, ↓List.any_cons, ↓List.any_nil, ↓if_false, ↓ite_true, ↓ite_false, ↓true_and, ↓and_true, ↓Bool.false_eq_true, ↓reduceCtorEq, ↓decide_true, ↓decide_false, ↓List.map_cons, ↓List.map_nil, ↓Tg.slots, ↓List.nodup_cons, ↓List.nodup_nil, ↓List.not_mem_nil, ↓not_false_eq_true, ↓forall_const, ↓true_implies, ↓bI, Nat.reduceAdd, Nat.reduceSub, Nat.reduceEqDiff, Int.reduceLT, Int.reduceLE, Nat.reduceLT, Nat.reduceLeDiff, Int.reduceNeg, Nat.reduceBEq, ↓BEq.rfl, ↓beq_self_eq_true, ↓Bool.or_false, ↓Bool.or_true]
              refine mem_false (fun hb' => ?_) (fun hb' => ?_)
              · rw [hb'] at k
                exact k
              · rw [hb'] at k
                exact k
        | _ =>
          simp only [houseB, Bool.and_false] at k
          simp -dsimp only [↓wpS, ↓wpE, ↓wpEs, ↓wpEs', ↓wpCs, ↓wpI, ↓callW, ↓okArgs, ↓sigOk, ↓inouts, ↓lents, ↓peeks, ↓peek, ↓pk, ↓slot, ↓setOwn, ↓setC, ↓freeze, ↓isOwn, ↓isIo, ↓slC, ↓isLst, ↓asV, ↓asS, ↓asVs, ↓asSs, ↓isT, ↓R.still, ↓setMany, ↓bindT, ↓wipeE, ↓unwipe, ↓binD, ↓intBin, ↓cmpD, ↓eqD, ↓ordD, ↓ordI, ↓startE, ↓endsOf, ↓ioOf, ↓newsOf, ↓Sl.r, ↓itemsOf, ↓slcD, ↓revD, ↓b1D, ↓b2D, ↓isNoneD, ↓noRefR, ↓noRef, ↓noRefs, ite_self, ↓isTy, ↓List.getElem?_cons_zero, ↓List.getElem?_cons_succ, ↓List.getElem?_nil, ↓Option.join_some, ↓Option.join_none, ↓Option.isSome_some, ↓Option.isSome_none, ↓List.set_cons_zero, ↓List.set_cons_succ, ↓List.replicate, ↓List.length_cons, ↓List.length_nil, ↓List.isEmpty_cons, ↓List.isEmpty_nil, ↓List.all_cons, ↓List.all_nil, ↓List.filterMap_cons, ↓List.filterMap_nil, ↓List.contains_cons, ↓List.contains_nil, ↓Bool.and_true, ↓Bool.true_and, ↓Bool.and_false, ↓Bool.false_and, ↓Bool.not_true, ↓Bool.not_false, ↓if_true, ↓sh_int, ↓sh_bool, ↓sh_none, ↓eqv_ii, ↓eqv_bb, ↓eqv_ss, ↓brn_true, ↓brn_false, brn_true, brn_false, ↓List.any_cons, ↓List.any_nil, ↓if_false, ↓ite_true, ↓ite_false, ↓true_and, ↓and_true, ↓Bool.false_eq_true, ↓reduceCtorEq, ↓decide_true, ↓decide_false, ↓List.map_cons, ↓List.map_nil, ↓Tg.slots, ↓List.nodup_cons, ↓List.nodup_nil, ↓List.not_mem_nil, ↓not_false_eq_true, ↓forall_const, ↓true_implies, ↓bI, Nat.reduceAdd, Nat.reduceSub, Nat.reduceEqDiff, Int.reduceLT, Int.reduceLE, Nat.reduceLT, Nat.reduceLeDiff, Int.reduceNeg, Nat.reduceBEq, ↓BEq.rfl, ↓beq_self_eq_true, ↓Bool.or_false, ↓Bool.or_true]
          exact k
    · have e : houseB (.tuple l) = false := by
        match l, h2l with
        | [], _ => rfl
        | [_], _ => rfl
        | [_, _], h => exact absurd rfl h
        | _ :: _ :: _ :: _, _ => rfl
      have e2 : decide (((l.length : Nat) : Int) = 2) = false := decide_eq_false (by omega)
      rw [e] at k
      simp -dsimp only [↓wpS, ↓wpE, ↓wpEs, ↓wpEs', ↓wpCs, ↓wpI, ↓callW, ↓okArgs, ↓sigOk, ↓inouts, ↓lents, ↓peeks, ↓peek, ↓pk, ↓slot, ↓setOwn, ↓setC, ↓freeze, ↓isOwn, ↓isIo, ↓slC, ↓isLst, ↓asV, ↓asS, ↓asVs, ↓asSs, ↓isT, ↓R.still, ↓setMany, ↓bindT, ↓wipeE, ↓unwipe, ↓binD, ↓intBin, ↓cmpD, ↓eqD, ↓ordD, ↓ordI, ↓startE, ↓endsOf, ↓ioOf, ↓newsOf, ↓Sl.r, ↓itemsOf, ↓slcD, ↓revD, ↓b1D, ↓b2D, ↓isNoneD, ↓noRefR, ↓noRef, ↓noRefs, ite_self, ↓isTy, ↓List.getElem?_cons_zero, ↓List.getElem?_cons_succ, ↓List.getElem?_nil, ↓Option.join_some, ↓Option.join_none, ↓Option.isSome_some, ↓Option.isSome_none, ↓List.set_cons_zero, ↓List.set_cons_succ, ↓List.replicate, ↓List.length_cons, ↓List.length_nil, ↓List.isEmpty_cons, ↓List.isEmpty_nil, ↓List.all_cons, ↓List.all_nil, ↓List.filterMap_cons, ↓List.filterMap_nil, ↓List.contains_cons, ↓List.contains_nil, ↓Bool.and_true, ↓Bool.true_and, ↓Bool.and_false, ↓Bool.false_and, ↓Bool.not_true, ↓Bool.not_false, ↓if_true, ↓sh_int, ↓sh_bool, ↓sh_none, ↓eqv_ii, ↓eqv_bb, ↓eqv_ss, ↓brn_true, ↓brn_false, brn_true, brn_false, ↓List.any_cons, ↓List.any_nil, ↓if_false, ↓ite_true, ↓ite_false, ↓true_and, ↓and_true, ↓Bool.false_eq_true, ↓reduceCtorEq, ↓decide_true, ↓decide_false, ↓List.map_cons, ↓List.map_nil, ↓Tg.slots, ↓List.nodup_cons, ↓List.nodup_nil, ↓List.not_mem_nil, ↓not_false_eq_true, ↓forall_const, ↓true_implies, ↓bI, Nat.reduceAdd, Nat.reduceSub, Nat.reduceEqDiff, Int.reduceLT, Int.reduceLE, Nat.reduceLT, Nat.reduceLeDiff, Int.reduceNeg, Nat.reduceBEq, ↓BEq.rfl, ↓beq_self_eq_true, ↓Bool.or_false, ↓Bool.or_true]
      rw [e2]
      simp -dsimp only [↓wpS, ↓wpE, ↓wpEs, ↓wpEs', ↓wpCs, ↓wpI, ↓callW, ↓okArgs, ↓sigOk, ↓inouts, ↓lents, ↓peeks, ↓peek, ↓pk, ↓slot, ↓setOwn, ↓setC, ↓freeze, ↓isOwn, ↓isIo, ↓slC, ↓isLst, ↓asV, ↓asS, ↓asVs, ↓asSs, ↓isT, ↓R.still, ↓setMany, ↓bindT, ↓wipeE, ↓unwipe, ↓binD, ↓intBin, ↓cmpD, ↓eqD, ↓ordD, ↓ordI, ↓startE, ↓endsOf, ↓ioOf, ↓newsOf, ↓Sl.r, ↓itemsOf, ↓slcD, ↓revD, ↓b1D, ↓b2D, ↓isNoneD, ↓noRefR, ↓noRef, ↓noRefs, ite_self, ↓isTy, ↓List.getElem?_cons_zero, ↓List.getElem?_cons_succ, ↓List.getElem?_nil, ↓Option.join_some, ↓Option.join_none, ↓Option.isSome_some, ↓Option.isSome_none, ↓List.set_cons_zero, ↓List.set_cons_succ, ↓List.replicate, ↓List.length_cons, ↓List.length_nil, ↓List.isEmpty_cons, ↓List.isEmpty_nil, ↓List.all_cons, ↓List.all_nil, ↓List.filterMap_cons, ↓List.filterMap_nil, ↓List.contains_cons, ↓List.contains_nil, ↓Bool.and_true, ↓Bool.true_and, ↓Bool.and_false, ↓Bool.false_and, ↓Bool.not_true, ↓Bool.not_false, ↓if_true, ↓sh_int, ↓sh_bool, ↓sh_none, ↓eqv_ii, ↓eqv_bb, ↓eqv_ss, ↓brn_true, ↓brn_false, brn_true, brn_false, ↓List.any_cons, ↓List.any_nil, ↓if_false, ↓ite_true, ↓ite_false, ↓true_and, ↓and_true, ↓Bool.false_eq_true, ↓reduceCtorEq, ↓decide_true, ↓decide_false, ↓List.map_cons, ↓List.map_nil, ↓Tg.slots, ↓List.nodup_cons, ↓List.nodup_nil, ↓List.not_mem_nil, ↓not_false_eq_true, ↓forall_const, ↓true_implies, ↓bI, Nat.reduceAdd, Nat.reduceSub, Nat.reduceEqDiff, Int.reduceLT, Int.reduceLE, Nat.reduceLT, Nat.reduceLeDiff, Int.reduceNeg, Nat.reduceBEq, ↓BEq.rfl, ↓beq_self_eq_true, ↓Bool.or_false, ↓Bool.or_true]
      exact k
  | _ =>
    simp -dsimp only [↓wpS, ↓wpE, ↓wpEs, ↓wpEs', ↓wpCs, ↓wpI, ↓callW, ↓okArgs, ↓sigOk, ↓inouts, ↓lents, ↓peeks, ↓peek, ↓pk, ↓slot, ↓setOwn, ↓setC, ↓freeze, ↓isOwn, ↓isIo, ↓slC, ↓isLst, ↓asV, ↓asS, ↓asVs, ↓asSs, ↓isT, ↓R.still, ↓setMany, ↓bindT, ↓wipeE, ↓unwipe, ↓binD, ↓intBin, ↓cmpD, ↓eqD, ↓ordD, ↓ordI, ↓startE, ↓endsOf, ↓ioOf, ↓newsOf, ↓Sl.r, ↓itemsOf, ↓slcD, ↓revD, ↓b1D, ↓b2D, ↓isNoneD, ↓noRefR, ↓noRef, ↓noRefs, ite_self, ↓isTy, ↓List.getElem?_cons_zero, ↓List.getElem?_cons_succ, ↓List.getElem?_nil, ↓Option.join_some, ↓Option.join_none, ↓Option.isSome_some, ↓Option.isSome_none, ↓List.set_cons_zero, ↓List.set_cons_succ, ↓List.replicate, ↓List.length_cons, ↓List.length_nil, ↓List.isEmpty_cons, ↓List.isEmpty_nil, ↓List.all_cons, ↓List.all_nil, ↓List.filterMap_cons, ↓List.filterMap_nil, ↓List.contains_cons, ↓List.contains_nil, ↓Bool.and_true, ↓Bool.true_and, ↓Bool.and_false, ↓Bool.false_and, ↓Bool.not_true, ↓Bool.not_false, ↓if_true, ↓sh_int, ↓sh_bool, ↓sh_none, ↓eqv_ii, ↓eqv_bb, ↓eqv_ss, ↓brn_true, ↓brn_false, brn_true, brn_false, ↓List.any_cons, ↓List.any_nil, ↓if_false, ↓ite_true, ↓ite_false, ↓true_and, ↓and_true, ↓Bool.false_eq_true, ↓reduceCtorEq, ↓decide_true, ↓decide_false, ↓List.map_cons, ↓List.map_nil, ↓Tg.slots, ↓List.nodup_cons, ↓List.nodup_nil, ↓List.not_mem_nil, ↓not_false_eq_true, ↓forall_const, ↓true_implies, ↓bI, Nat.reduceAdd, Nat.reduceSub, Nat.reduceEqDiff, Int.reduceLT, Int.reduceLE, Nat.reduceLT, Nat.reduceLeDiff, Int.reduceNeg, Nat.reduceBEq, ↓BEq.rfl, ↓beq_self_eq_true, ↓Bool.or_false, ↓Bool.or_true]
    exact k
end Co

set_option linter.all false
namespace Co
open PySem
/-! ### values near a house -/
theorem wps_h2 {Φ : Tbl} {a b r : S} {env : Env} {D : Ends} (I : Env → Prop) (h1 : ∀ N : Env → Prop, (∀ e, I e → N e) → wpS Φ (.seq a b) env { D with nx := N }) (h2 : ∀ e, I e → wpS Φ r e D) : wpS Φ (.seq a (.seq b r)) env D :=
  h1 (fun e => wpS Φ r e D) h2
def pst (x : PyData) : Prop := gd B30 20 6 x = true ∧ x.bulk ≤ 40
theorem pst_of {l : List PyData} (hl : l.length ≤ 20) (h : ∀ x ∈ l, (∃ i : Int, x = .int i ∧ i.natAbs < B12) ∨ ∃ b, x = .bool b) : pst (.tuple l) ∧ pst (.list l) := by
  have e30 : B30 = 10 ^ 30 := rfl
  have e12 : B12 = 10 ^ 12 := rfl
  have h1 : ∀ x ∈ l, gd B30 20 5 x = true ∧ x.bulk = 0 := fun x hx => by
    rcases h x hx with ⟨i, rfl, hi⟩ | ⟨b, rfl⟩
    · exact ⟨gd_int.mpr (by omega), rfl⟩
    · exact ⟨gd_bool, rfl⟩
  have h2 := bulk_le (m := 0) fun x hx => Nat.le_of_eq (h1 x hx).2
  exact ⟨⟨gd_tuple.mpr ⟨by omega, fun x hx => (h1 x hx).1⟩, by show PyData.bulkAll l ≤ _; omega⟩, ⟨gd_list.mpr ⟨by omega, fun x hx => (h1 x hx).1⟩, by show PyData.bulkAll l ≤ _; omega⟩⟩
theorem posts_of {l : List PyData} (hl : l.length ≤ 20) (h : ∀ x ∈ l, pst x) : (gd B30 20 7 (.tuple l) = true ∧ (PyData.tuple l).bulk ≤ 820) ∧ gd B30 20 7 (.list l) = true ∧ (PyData.list l).bulk ≤ 820 := by
  have h2 := bulk_le fun x hx => (h x hx).2
  have h3 : PyData.bulkAll l ≤ 820 := by omega
  exact ⟨⟨gd_tuple.mpr ⟨hl, fun x hx => (h x hx).1⟩, h3⟩, gd_list.mpr ⟨hl, fun x hx => (h x hx).1⟩, h3⟩
theorem house_of {a b : PyData} (ha : gd B30 20 7 a = true ∧ a.bulk ≤ 5) (hb : gd B30 20 7 b = true ∧ b.bulk ≤ 820) : good (.tuple [a, b]) := by
  refine ⟨gd_tuple.mpr ⟨by simp, fun x hx => ?_⟩, ?_⟩
  · simp only [List.mem_cons, List.not_mem_nil, or_false] at hx
    rcases hx with rfl | rfl
    · exact ha.1
    · exact hb.1
  · have h1 := ha.2
    have h2 := hb.2
    show a.bulk + 1 + (b.bulk + 1 + 0) ≤ _
    omega
theorem asc_pst {n : Nat} {l : List Int} (hn : n ≤ 10) (h : asc n l) : l.length ≤ 10 ∧ (∀ x ∈ l.map PyData.int, (∃ i : Int, x = .int i ∧ i.natAbs < B12) ∨ ∃ b, x = .bool b) := by
  have e12 : B12 = 10 ^ 12 := rfl
  refine ⟨Nat.le_trans (asc_len h) hn, fun x hx => ?_⟩
  obtain ⟨i, hi, rfl⟩ := List.mem_map.mp hx
  exact .inl ⟨i, rfl, by have := h.2 i hi; omega⟩
theorem sh_psts {ps : List (List Int)} : SeqAt.shaped (.tuple (ps.map intsD)) = true := (ok_tuple (k := 1) fun x hx => by
  obtain ⟨t, _, rfl⟩ := List.mem_map.mp hx
  exact ok_tuple (k := 0) fun y hy => by
    obtain ⟨i, _, rfl⟩ := List.mem_map.mp hy
    exact ok_int).sh (by decide)
theorem eqv_pstsNil {ps : List (List Int)} : PyData.eqv (.tuple (ps.map intsD)) (.tuple []) = decide (ps = []) := by
  cases ps <;> simp [PyData.eqv, PyData.eqvAll]
def nearHSp : Spec := fun ds Q => ∃ t pen n ps, ds = [pen, houseD n ps] ∧ Pen t pen ∧ t < 700000 ∧ 0 < n ∧ n ≤ 10 ∧ ps.length ≤ 6 ∧ (∀ l ∈ ps, asc n l) ∧ ∀ res pen', good res.d → isR res → Pen (t + 100) pen' → Q res [pen']
theorem near_ok (Φ : Tbl) (h : Φ "_law_take" = takeSp) (h1 : Φ "_law_one_of" = oneOfSp) (h2 : Φ "_law_bent" = bentSp 4) (h3 : Φ "_law_shuffled" = shufSp) : Impl Φ [true, false] 7 f_law_near nearHSp := by
  rintro ds Q ⟨t, pen, n, ps, rfl, hp, ht, hn0, hn, hps, hasc, k⟩ _
  have e30 : B30 = 10 ^ 30 := rfl
  have e12 : B12 = 10 ^ 12 := rfl
  have hpst : ∀ x ∈ ps.map intsD, pst x := fun x hx => by
    obtain ⟨l, hl, rfl⟩ := List.mem_map.mp hx
    obtain ⟨a, b⟩ := asc_pst hn (hasc l hl)
    exact (pst_of (by rw [List.length_map]; omega) b).1
  have hpl : (ps.map intsD).length ≤ 6 := by rw [List.length_map]; exact hps
  have gP := posts_of (by omega) hpst
  have gN : ∀ i : Int, i.natAbs < B12 → gd B30 20 7 (.int i) = true ∧ (PyData.int i).bulk ≤ 5 := fun i hi => ⟨gd_int.mpr (by omega), by show 0 ≤ 5; omega⟩
  have gNn := gN (n : Int) (by omega)
  have bH : (houseD n ps).bulk ≤ 68 := by
    have := bulk_house hasc
    have h4 : (n + 1) * ps.length ≤ 11 * 6 := Nat.mul_le_mul (by omega) hps
    omega
  have gB : gd B12 12 4 (houseD n ps) = true := gd_tuple.mpr ⟨by simp, fun x hx => by
    simp only [List.mem_cons, List.not_mem_nil, or_false] at hx
    rcases hx with rfl | rfl
    · exact gd_int.mpr (by omega)
    · refine gd_tuple.mpr ⟨by omega, fun x hx => ?_⟩
      obtain ⟨l, hl, rfl⟩ := List.mem_map.mp hx
      exact gd_ints (by have := asc_len (hasc l hl); omega) fun x hx => by have := (hasc l hl).2 x hx; omega⟩
  unfold f_law_near
  have hh : houseD n ps = .tuple [.int n, .tuple (ps.map intsD)] := rfl
  rw [hh]
  refine wps_h2 (fun e => ∃ (way : Int) (pen' : PyData), e = [some (.io pen'), some (.val (houseD n ps)), some (.val (.int way)), some (.val (.int (n : Int))), some (.val (.tuple (ps.map intsD))), none, none] ∧ Pen (t + 1) pen') (fun N next => ?_) ?_
  · simp -dsimp only [↓wpS, ↓wpE, ↓wpEs, ↓wpEs', ↓wpCs, ↓wpI, ↓callW, ↓okArgs, ↓sigOk, ↓inouts, ↓lents, ↓peeks, ↓peek, ↓pk, ↓slot, ↓setOwn, ↓setC, ↓freeze, ↓isOwn, ↓isIo, ↓slC, ↓isLst, ↓asV, ↓asS, ↓asVs, ↓asSs, ↓isT, ↓R.still, ↓setMany, ↓bindT, ↓wipeE, ↓unwipe, ↓binD, ↓intBin, ↓cmpD, ↓eqD, ↓ordD, ↓ordI, ↓startE, ↓endsOf, ↓ioOf, ↓newsOf, ↓Sl.r, ↓itemsOf, ↓slcD, ↓revD, ↓b1D, ↓b2D, ↓isNoneD, ↓noRefR, ↓noRef, ↓noRefs, ite_self, ↓isTy, ↓List.getElem?_cons_zero, ↓List.getElem?_cons_succ, ↓List.getElem?_nil, ↓Option.join_some, ↓Option.join_none, ↓Option.isSome_some, ↓Option.isSome_none, ↓List.set_cons_zero, ↓List.set_cons_succ, ↓List.replicate, ↓List.length_cons, ↓List.length_nil, ↓List.isEmpty_cons, ↓List.isEmpty_nil, ↓List.all_cons, ↓List.all_nil, ↓List.filterMap_cons, ↓List.filterMap_nil, ↓List.contains_cons, ↓List.contains_nil, ↓Bool.and_true, ↓Bool.true_and, ↓Bool.and_false, ↓Bool.false_and, ↓Bool.not_true, ↓Bool.not_false, ↓if_true, ↓sh_int, ↓sh_bool, ↓sh_none, ↓eqv_ii, ↓eqv_bb, ↓eqv_ss, ↓brn_true, ↓brn_false, brn_true, brn_false, ↓List.any_cons, ↓List.any_nil, ↓if_false, ↓ite_true, ↓ite_false, ↓true_and, ↓and_true, ↓Bool.false_eq_true, ↓reduceCtorEq, ↓decide_true, ↓decide_false, ↓List.map_cons, ↓List.map_nil, ↓Tg.slots, ↓List.nodup_cons, ↓List.nodup_nil, ↓List.not_mem_nil, ↓not_false_eq_true, ↓forall_const, ↓true_implies, ↓bI, Nat.reduceAdd, Nat.reduceSub, Nat.reduceEqDiff, Int.reduceLT, Int.reduceLE, Nat.reduceLT, Nat.reduceLeDiff, Int.reduceNeg, Nat.reduceBEq, ↓BEq.rfl, ↓beq_self_eq_true, ↓Bool.or_false, ↓Bool.or_true]
    refine ⟨_, rfl, ?_⟩
    rw [h]
    refine ⟨t, pen, _, rfl, hp, by omega, by omega, by omega, fun way pen1 w0 w1 c1 _ => ?_⟩
    simp -dsimp only [↓wpS, ↓wpE, ↓wpEs, ↓wpEs', ↓wpCs, ↓wpI, ↓callW, ↓okArgs, ↓sigOk, ↓inouts, ↓lents, ↓peeks, ↓peek, ↓pk, ↓slot, ↓setOwn, ↓setC, ↓freeze, ↓isOwn, ↓isIo, ↓slC, ↓isLst, ↓asV, ↓asS, ↓asVs, ↓asSs, ↓isT, ↓R.still, ↓setMany, ↓bindT, ↓wipeE, ↓unwipe, ↓binD, ↓intBin, ↓cmpD, ↓eqD, ↓ordD, ↓ordI, ↓startE, ↓endsOf, ↓ioOf, ↓newsOf, ↓Sl.r, ↓itemsOf, ↓slcD, ↓revD, ↓b1D, ↓b2D, ↓isNoneD, ↓noRefR, ↓noRef, ↓noRefs, ite_self, ↓isTy, ↓List.getElem?_cons_zero, ↓List.getElem?_cons_succ, ↓List.getElem?_nil, ↓Option.join_some, ↓Option.join_none, ↓Option.isSome_some, ↓Option.isSome_none, ↓List.set_cons_zero, ↓List.set_cons_succ, ↓List.replicate, ↓List.length_cons, ↓List.length_nil, ↓List.isEmpty_cons, ↓List.isEmpty_nil, ↓List.all_cons, ↓List.all_nil, ↓List.filterMap_cons, ↓List.filterMap_nil, ↓List.contains_cons, ↓List.contains_nil, ↓Bool.and_true, ↓Bool.true_and, ↓Bool.and_false, ↓Bool.false_and, ↓Bool.not_true, ↓Bool.not_false, ↓if_true, ↓sh_int, ↓sh_bool, ↓sh_none, ↓eqv_ii, ↓eqv_bb, ↓eqv_ss, ↓brn_true, ↓brn_false, brn_true, brn_false, ↓List.any_cons, ↓List.any_nil, ↓if_false, ↓ite_true, ↓ite_false, ↓true_and, ↓and_true, ↓Bool.false_eq_true, ↓reduceCtorEq, ↓decide_true, ↓decide_false, ↓List.map_cons, ↓List.map_nil, ↓Tg.slots, ↓List.nodup_cons, ↓List.nodup_nil, ↓List.not_mem_nil, ↓not_false_eq_true, ↓forall_const, ↓true_implies, ↓bI, Nat.reduceAdd, Nat.reduceSub, Nat.reduceEqDiff, Int.reduceLT, Int.reduceLE, Nat.reduceLT, Nat.reduceLeDiff, Int.reduceNeg, Nat.reduceBEq, ↓BEq.rfl, ↓beq_self_eq_true, ↓Bool.or_false, ↓Bool.or_true]
    exact next _ ⟨way, pen1, rfl, c1⟩
  · rintro e ⟨way, pen1, rfl, c1⟩
    refine wps_seq (fun e => e = [some (.io pen1), some (.val (houseD n ps)), some (.val (.int way)), some (.val (.int (n : Int))), some (.val (.tuple (ps.map intsD))), none, none]) (fun N next => ?_) ?_
    · simp -dsimp only [↓wpS, ↓wpE, ↓wpEs, ↓wpEs', ↓wpCs, ↓wpI, ↓callW, ↓okArgs, ↓sigOk, ↓inouts, ↓lents, ↓peeks, ↓peek, ↓pk, ↓slot, ↓setOwn, ↓setC, ↓freeze, ↓isOwn, ↓isIo, ↓slC, ↓isLst, ↓asV, ↓asS, ↓asVs, ↓asSs, ↓isT, ↓R.still, ↓setMany, ↓bindT, ↓wipeE, ↓unwipe, ↓binD, ↓intBin, ↓cmpD, ↓eqD, ↓ordD, ↓ordI, ↓startE, ↓endsOf, ↓ioOf, ↓newsOf, ↓Sl.r, ↓itemsOf, ↓slcD, ↓revD, ↓b1D, ↓b2D, ↓isNoneD, ↓noRefR, ↓noRef, ↓noRefs, ite_self, ↓isTy, ↓List.getElem?_cons_zero, ↓List.getElem?_cons_succ, ↓List.getElem?_nil, ↓Option.join_some, ↓Option.join_none, ↓Option.isSome_some, ↓Option.isSome_none, ↓List.set_cons_zero, ↓List.set_cons_succ, ↓List.replicate, ↓List.length_cons, ↓List.length_nil, ↓List.isEmpty_cons, ↓List.isEmpty_nil, ↓List.all_cons, ↓List.all_nil, ↓List.filterMap_cons, ↓List.filterMap_nil, ↓List.contains_cons, ↓List.contains_nil, ↓Bool.and_true, ↓Bool.true_and, ↓Bool.and_false, ↓Bool.false_and, ↓Bool.not_true, ↓Bool.not_false, ↓if_true, ↓sh_int, ↓sh_bool, ↓sh_none, ↓eqv_ii, ↓eqv_bb, ↓eqv_ss, ↓brn_true, ↓brn_false, brn_true, brn_false, ↓List.any_cons, ↓List.any_nil, ↓if_false, ↓ite_true, ↓ite_false, ↓true_and, ↓and_true, ↓Bool.false_eq_true, ↓reduceCtorEq, ↓decide_true, ↓decide_false, ↓List.map_cons, ↓List.map_nil, ↓Tg.slots, ↓List.nodup_cons, ↓List.nodup_nil, ↓List.not_mem_nil, ↓not_false_eq_true, ↓forall_const, ↓true_implies, ↓bI, Nat.reduceAdd, Nat.reduceSub, Nat.reduceEqDiff, Int.reduceLT, Int.reduceLE, Nat.reduceLT, Nat.reduceLeDiff, Int.reduceNeg, Nat.reduceBEq, ↓BEq.rfl, ↓beq_self_eq_true, ↓Bool.or_false, ↓Bool.or_true]
      refine brn_of (fun hb => ?_) (fun hb => ?_)
      · simp -dsimp only [↓wpS, ↓wpE, ↓wpEs, ↓wpEs', ↓wpCs, ↓wpI, ↓callW, ↓okArgs, ↓sigOk, ↓inouts, ↓lents, ↓peeks, ↓peek, ↓pk, ↓slot, ↓setOwn, ↓setC, ↓freeze, ↓isOwn, ↓isIo, ↓slC, ↓isLst, ↓asV, ↓asS, ↓asVs, ↓asSs, ↓isT, ↓R.still, ↓setMany, ↓bindT, ↓wipeE, ↓unwipe, ↓binD, ↓intBin, ↓cmpD, ↓eqD, ↓ordD, ↓ordI, ↓startE, ↓endsOf, ↓ioOf, ↓newsOf, ↓Sl.r, ↓itemsOf, ↓slcD, ↓revD, ↓b1D, ↓b2D, ↓isNoneD, ↓noRefR, ↓noRef, ↓noRefs, ite_self, ↓isTy, ↓List.getElem?_cons_zero, ↓List.getElem?_cons_succ, ↓List.getElem?_nil, ↓Option.join_some, ↓Option.join_none, ↓Option.isSome_some, ↓Option.isSome_none, ↓List.set_cons_zero, ↓List.set_cons_succ, ↓List.replicate, ↓List.length_cons, ↓List.length_nil, ↓List.isEmpty_cons, ↓List.isEmpty_nil, ↓List.all_cons, ↓List.all_nil, ↓List.filterMap_cons, ↓List.filterMap_nil, ↓List.contains_cons, ↓List.contains_nil, ↓Bool.and_true, ↓Bool.true_and, ↓Bool.and_false, ↓Bool.false_and, ↓Bool.not_true, ↓Bool.not_false, ↓if_true, ↓sh_int, ↓sh_bool, ↓sh_none, ↓eqv_ii, ↓eqv_bb, ↓eqv_ss, ↓brn_true, ↓brn_false, brn_true, brn_false, ↓List.any_cons, ↓List.any_nil, ↓if_false, ↓ite_true, ↓ite_false, ↓true_and, ↓and_true, ↓Bool.false_eq_true, ↓reduceCtorEq, ↓decide_true, ↓decide_false, ↓List.map_cons, ↓List.map_nil, ↓Tg.slots, ↓List.nodup_cons, ↓List.nodup_nil, ↓List.not_mem_nil, ↓not_false_eq_true, ↓forall_const, ↓true_implies, ↓bI, Nat.reduceAdd, Nat.reduceSub, Nat.reduceEqDiff, Int.reduceLT, Int.reduceLE, Nat.reduceLT, Nat.reduceLeDiff, Int.reduceNeg, Nat.reduceBEq, ↓BEq.rfl, ↓beq_self_eq_true, ↓Bool.or_false, ↓Bool.or_true]
        refine ⟨_, rfl, ?_⟩
        rw [h1]
        refine ⟨_, pen1, _, rfl, c1, by omega, _, rfl, by simp, by simp, fun x pen2 hx c2 _ => ?_⟩
        simp -dsimp only [↓wpS, ↓wpE, ↓wpEs, ↓wpEs', ↓wpCs, ↓wpI, ↓callW, ↓okArgs, ↓sigOk, ↓inouts, ↓lents, ↓peeks, ↓peek, ↓pk, ↓slot, ↓setOwn, ↓setC, ↓freeze, ↓isOwn, ↓isIo, ↓slC, ↓isLst, ↓asV, ↓asS, ↓asVs, ↓asSs, ↓isT, ↓R.still, ↓setMany, ↓bindT, ↓wipeE, ↓unwipe, ↓binD, ↓intBin, ↓cmpD, ↓eqD, ↓ordD, ↓ordI, ↓startE, ↓endsOf, ↓ioOf, ↓newsOf, ↓Sl.r, ↓itemsOf, ↓slcD, ↓revD, ↓b1D, ↓b2D, ↓isNoneD, ↓noRefR, ↓noRef, ↓noRefs, ite_self, ↓isTy, ↓List.getElem?_cons_zero, ↓List.getElem?_cons_succ, ↓List.getElem?_nil, ↓Option.join_some, ↓Option.join_none, ↓Option.isSome_some, ↓Option.isSome_none, ↓List.set_cons_zero, ↓List.set_cons_succ, ↓List.replicate, ↓List.length_cons, ↓List.length_nil, ↓List.isEmpty_cons, ↓List.isEmpty_nil, ↓List.all_cons, ↓List.all_nil, ↓List.filterMap_cons, ↓List.filterMap_nil, ↓List.contains_cons, ↓List.contains_nil, ↓Bool.and_true, ↓Bool.true_and, ↓Bool.and_false, ↓Bool.false_and, ↓Bool.not_true, ↓Bool.not_false, ↓if_true, ↓sh_int, ↓sh_bool, ↓sh_none, ↓eqv_ii, ↓eqv_bb, ↓eqv_ss, ↓brn_true, ↓brn_false, brn_true, brn_false, ↓List.any_cons, ↓List.any_nil, ↓if_false, ↓ite_true, ↓ite_false, ↓true_and, ↓and_true, ↓Bool.false_eq_true, ↓reduceCtorEq, ↓decide_true, ↓decide_false, ↓List.map_cons, ↓List.map_nil, ↓Tg.slots, ↓List.nodup_cons, ↓List.nodup_nil, ↓List.not_mem_nil, ↓not_false_eq_true, ↓forall_const, ↓true_implies, ↓bI, Nat.reduceAdd, Nat.reduceSub, Nat.reduceEqDiff, Int.reduceLT, Int.reduceLE, Nat.reduceLT, Nat.reduceLeDiff, Int.reduceNeg, Nat.reduceBEq, ↓BEq.rfl, ↓beq_self_eq_true, ↓Bool.or_false, ↓Bool.or_true]
        refine k (.val _) pen2 ?_ (.inl ⟨_, rfl⟩) (c2.mono (by omega))
        refine house_of ?_ gP.1
        simp only [List.mem_cons, List.not_mem_nil, or_false] at hx
        rcases hx with rfl | rfl | rfl | rfl | rfl | rfl | rfl
        · exact gN _ (by decide)
        · exact gN _ (by decide)
        · exact gN _ (by decide)
        · exact gN _ (by decide)
        · exact gN _ (by omega)
        · exact ⟨gd_bool, by decide⟩
        · exact gN _ (by decide)
      · simp -dsimp only [↓wpS, ↓wpE, ↓wpEs, ↓wpEs', ↓wpCs, ↓wpI, ↓callW, ↓okArgs, ↓sigOk, ↓inouts, ↓lents, ↓peeks, ↓peek, ↓pk, ↓slot, ↓setOwn, ↓setC, ↓freeze, ↓isOwn, ↓isIo, ↓slC, ↓isLst, ↓asV, ↓asS, ↓asVs, ↓asSs, ↓isT, ↓R.still, ↓setMany, ↓bindT, ↓wipeE, ↓unwipe, ↓binD, ↓intBin, ↓cmpD, ↓eqD, ↓ordD, ↓ordI, ↓startE, ↓endsOf, ↓ioOf, ↓newsOf, ↓Sl.r, ↓itemsOf, ↓slcD, ↓revD, ↓b1D, ↓b2D, ↓isNoneD, ↓noRefR, ↓noRef, ↓noRefs, ite_self, ↓isTy, ↓List.getElem?_cons_zero, ↓List.getElem?_cons_succ, ↓List.getElem?_nil, ↓Option.join_some, ↓Option.join_none, ↓Option.isSome_some, ↓Option.isSome_none, ↓List.set_cons_zero, ↓List.set_cons_succ, ↓List.replicate, ↓List.length_cons, ↓List.length_nil, ↓List.isEmpty_cons, ↓List.isEmpty_nil, ↓List.all_cons, ↓List.all_nil, ↓List.filterMap_cons, ↓List.filterMap_nil, ↓List.contains_cons, ↓List.contains_nil, ↓Bool.and_true, ↓Bool.true_and, ↓Bool.and_false, ↓Bool.false_and, ↓Bool.not_true, ↓Bool.not_false, ↓if_true, ↓sh_int, ↓sh_bool, ↓sh_none, ↓eqv_ii, ↓eqv_bb, ↓eqv_ss, ↓brn_true, ↓brn_false, brn_true, brn_false, ↓List.any_cons, ↓List.any_nil, ↓if_false, ↓ite_true, ↓ite_false, ↓true_and, ↓and_true, ↓Bool.false_eq_true, ↓reduceCtorEq, ↓decide_true, ↓decide_false, ↓List.map_cons, ↓List.map_nil, ↓Tg.slots, ↓List.nodup_cons, ↓List.nodup_nil, ↓List.not_mem_nil, ↓not_false_eq_true, ↓forall_const, ↓true_implies, ↓bI, Nat.reduceAdd, Nat.reduceSub, Nat.reduceEqDiff, Int.reduceLT, Int.reduceLE, Nat.reduceLT, Nat.reduceLeDiff, Int.reduceNeg, Nat.reduceBEq, ↓BEq.rfl, ↓beq_self_eq_true, ↓Bool.or_false, ↓Bool.or_true]
        exact next _ rfl
    rintro e rfl
    refine wps_seq (fun e => e = [some (.io pen1), some (.val (houseD n ps)), some (.val (.int way)), some (.val (.int (n : Int))), some (.val (.tuple (ps.map intsD))), none, none]) (fun N next => ?_) ?_
    · simp -dsimp only [↓wpS, ↓wpE, ↓wpEs, ↓wpEs', ↓wpCs, ↓wpI, ↓callW, ↓okArgs, ↓sigOk, ↓inouts, ↓lents, ↓peeks, ↓peek, ↓pk, ↓slot, ↓setOwn, ↓setC, ↓freeze, ↓isOwn, ↓isIo, ↓slC, ↓isLst, ↓asV, ↓asS, ↓asVs, ↓asSs, ↓isT, ↓R.still, ↓setMany, ↓bindT, ↓wipeE, ↓unwipe, ↓binD, ↓intBin, ↓cmpD, ↓eqD, ↓ordD, ↓ordI, ↓startE, ↓endsOf, ↓ioOf, ↓newsOf, ↓Sl.r, ↓itemsOf, ↓slcD, ↓revD, ↓b1D, ↓b2D, ↓isNoneD, ↓noRefR, ↓noRef, ↓noRefs, ite_self, ↓isTy, ↓List.getElem?_cons_zero, ↓List.getElem?_cons_succ, ↓List.getElem?_nil, ↓Option.join_some, ↓Option.join_none, ↓Option.isSome_some, ↓Option.isSome_none, ↓List.set_cons_zero, ↓List.set_cons_succ, ↓List.replicate, ↓List.length_cons, ↓List.length_nil, ↓List.isEmpty_cons, ↓List.isEmpty_nil, ↓List.all_cons, ↓List.all_nil, ↓List.filterMap_cons, ↓List.filterMap_nil, ↓List.contains_cons, ↓List.contains_nil, ↓Bool.and_true, ↓Bool.true_and, ↓Bool.and_false, ↓Bool.false_and, ↓Bool.not_true, ↓Bool.not_false, ↓if_true, ↓sh_int, ↓sh_bool, ↓sh_none, ↓eqv_ii, ↓eqv_bb, ↓eqv_ss, ↓brn_true, ↓brn_false, brn_true, brn_false, ↓List.any_cons, ↓List.any_nil, ↓if_false, ↓ite_true, ↓ite_false, ↓true_and, ↓and_true, ↓Bool.false_eq_true, ↓reduceCtorEq, ↓decide_true, ↓decide_false, ↓List.map_cons, ↓List.map_nil, ↓Tg.slots, ↓List.nodup_cons, ↓List.nodup_nil, ↓List.not_mem_nil, ↓not_false_eq_true, ↓forall_const, ↓true_implies, ↓bI, Nat.reduceAdd, Nat.reduceSub, Nat.reduceEqDiff, Int.reduceLT, Int.reduceLE, Nat.reduceLT, Nat.reduceLeDiff, Int.reduceNeg, Nat.reduceBEq, ↓BEq.rfl, ↓beq_self_eq_true, ↓Bool.or_false, ↓Bool.or_true]
      refine brn_of (fun hb => ?_) (fun hb => ?_)
      · simp -dsimp only [↓wpS, ↓wpE, ↓wpEs, ↓wpEs', ↓wpCs, ↓wpI, ↓callW, ↓okArgs, ↓sigOk, ↓inouts, ↓lents, ↓peeks, ↓peek, ↓pk, ↓slot, ↓setOwn, ↓setC, ↓freeze, ↓isOwn, ↓isIo, ↓slC, ↓isLst, ↓asV, ↓asS, ↓asVs, ↓asSs, ↓isT, ↓R.still, ↓setMany, ↓bindT, ↓wipeE, ↓unwipe, ↓binD, ↓intBin, ↓cmpD, ↓eqD, ↓ordD, ↓ordI, ↓startE, ↓endsOf, ↓ioOf, ↓newsOf, ↓Sl.r, ↓itemsOf, ↓slcD, ↓revD, ↓b1D, ↓b2D, ↓isNoneD, ↓noRefR, ↓noRef, ↓noRefs, ite_self, ↓isTy, ↓List.getElem?_cons_zero, ↓List.getElem?_cons_succ, ↓List.getElem?_nil, ↓Option.join_some, ↓Option.join_none, ↓Option.isSome_some, ↓Option.isSome_none, ↓List.set_cons_zero, ↓List.set_cons_succ, ↓List.replicate, ↓List.length_cons, ↓List.length_nil, ↓List.isEmpty_cons, ↓List.isEmpty_nil, ↓List.all_cons, ↓List.all_nil, ↓List.filterMap_cons, ↓List.filterMap_nil, ↓List.contains_cons, ↓List.contains_nil, ↓Bool.and_true, ↓Bool.true_and, ↓Bool.and_false, ↓Bool.false_and, ↓Bool.not_true, ↓Bool.not_false, ↓if_true, ↓sh_int, ↓sh_bool, ↓sh_none, ↓eqv_ii, ↓eqv_bb, ↓eqv_ss, ↓brn_true, ↓brn_false, brn_true, brn_false, ↓List.any_cons, ↓List.any_nil, ↓if_false, ↓ite_true, ↓ite_false, ↓true_and, ↓and_true, ↓Bool.false_eq_true, ↓reduceCtorEq, ↓decide_true, ↓decide_false, ↓List.map_cons, ↓List.map_nil, ↓Tg.slots, ↓List.nodup_cons, ↓List.nodup_nil, ↓List.not_mem_nil, ↓not_false_eq_true, ↓forall_const, ↓true_implies, ↓bI, Nat.reduceAdd, Nat.reduceSub, Nat.reduceEqDiff, Int.reduceLT, Int.reduceLE, Nat.reduceLT, Nat.reduceLeDiff, Int.reduceNeg, Nat.reduceBEq, ↓BEq.rfl, ↓beq_self_eq_true, ↓Bool.or_false, ↓Bool.or_true]
        refine ⟨_, rfl, ?_⟩
        rw [h]
        refine ⟨_, pen1, _, rfl, c1, by omega, by omega, by omega, fun z pen2 z0 z1 c2 _ => ?_⟩
        simp -dsimp only [↓wpS, ↓wpE, ↓wpEs, ↓wpEs', ↓wpCs, ↓wpI, ↓callW, ↓okArgs, ↓sigOk, ↓inouts, ↓lents, ↓peeks, ↓peek, ↓pk, ↓slot, ↓setOwn, ↓setC, ↓freeze, ↓isOwn, ↓isIo, ↓slC, ↓isLst, ↓asV, ↓asS, ↓asVs, ↓asSs, ↓isT, ↓R.still, ↓setMany, ↓bindT, ↓wipeE, ↓unwipe, ↓binD, ↓intBin, ↓cmpD, ↓eqD, ↓ordD, ↓ordI, ↓startE, ↓endsOf, ↓ioOf, ↓newsOf, ↓Sl.r, ↓itemsOf, ↓slcD, ↓revD, ↓b1D, ↓b2D, ↓isNoneD, ↓noRefR, ↓noRef, ↓noRefs, ite_self, ↓isTy, ↓List.getElem?_cons_zero, ↓List.getElem?_cons_succ, ↓List.getElem?_nil, ↓Option.join_some, ↓Option.join_none, ↓Option.isSome_some, ↓Option.isSome_none, ↓List.set_cons_zero, ↓List.set_cons_succ, ↓List.replicate, ↓List.length_cons, ↓List.length_nil, ↓List.isEmpty_cons, ↓List.isEmpty_nil, ↓List.all_cons, ↓List.all_nil, ↓List.filterMap_cons, ↓List.filterMap_nil, ↓List.contains_cons, ↓List.contains_nil, ↓Bool.and_true, ↓Bool.true_and, ↓Bool.and_false, ↓Bool.false_and, ↓Bool.not_true, ↓Bool.not_false, ↓if_true, ↓sh_int, ↓sh_bool, ↓sh_none, ↓eqv_ii, ↓eqv_bb, ↓eqv_ss, ↓brn_true, ↓brn_false, brn_true, brn_false, ↓List.any_cons, ↓List.any_nil, ↓if_false, ↓ite_true, ↓ite_false, ↓true_and, ↓and_true, ↓Bool.false_eq_true, ↓reduceCtorEq, ↓decide_true, ↓decide_false, ↓List.map_cons, ↓List.map_nil, ↓Tg.slots, ↓List.nodup_cons, ↓List.nodup_nil, ↓List.not_mem_nil, ↓not_false_eq_true, ↓forall_const, ↓true_implies, ↓bI, Nat.reduceAdd, Nat.reduceSub, Nat.reduceEqDiff, Int.reduceLT, Int.reduceLE, Nat.reduceLT, Nat.reduceLeDiff, Int.reduceNeg, Nat.reduceBEq, ↓BEq.rfl, ↓beq_self_eq_true, ↓Bool.or_false, ↓Bool.or_true]
        have hcl : (cut [PyData.tuple [.int 9], .tuple [.int 10], .tuple [.int 0, .int 9]] none (some z)).length ≤ 3 := cut_len _ _ _
        refine ⟨by show _ ≤ 16777216; omega, ?_⟩
        refine k (.val _) pen2 ?_ (.inl ⟨_, rfl⟩) (c2.mono (by omega))
        refine house_of (gN _ (by decide)) (posts_of (by rw [List.length_append]; omega) fun x hx => ?_).1
        rcases List.mem_append.mp hx with hx | hx
        · exact hpst x hx
        · have := cut_mem hx
          simp only [List.mem_cons, List.not_mem_nil, or_false] at this
          rcases this with rfl | rfl | rfl <;> exact ⟨by decide +kernel, by decide +kernel⟩
      · simp -dsimp only [↓wpS, ↓wpE, ↓wpEs, ↓wpEs', ↓wpCs, ↓wpI, ↓callW, ↓okArgs, ↓sigOk, ↓inouts, ↓lents, ↓peeks, ↓peek, ↓pk, ↓slot, ↓setOwn, ↓setC, ↓freeze, ↓isOwn, ↓isIo, ↓slC, ↓isLst, ↓asV, ↓asS, ↓asVs, ↓asSs, ↓isT, ↓R.still, ↓setMany, ↓bindT, ↓wipeE, ↓unwipe, ↓binD, ↓intBin, ↓cmpD, ↓eqD, ↓ordD, ↓ordI, ↓startE, ↓endsOf, ↓ioOf, ↓newsOf, ↓Sl.r, ↓itemsOf, ↓slcD, ↓revD, ↓b1D, ↓b2D, ↓isNoneD, ↓noRefR, ↓noRef, ↓noRefs, ite_self, ↓isTy, ↓List.getElem?_cons_zero, ↓List.getElem?_cons_succ, ↓List.getElem?_nil, ↓Option.join_some, ↓Option.join_none, ↓Option.isSome_some, ↓Option.isSome_none, ↓List.set_cons_zero, ↓List.set_cons_succ, ↓List.replicate, ↓List.length_cons, ↓List.length_nil, ↓List.isEmpty_cons, ↓List.isEmpty_nil, ↓List.all_cons, ↓List.all_nil, ↓List.filterMap_cons, ↓List.filterMap_nil, ↓List.contains_cons, ↓List.contains_nil, ↓Bool.and_true, ↓Bool.true_and, ↓Bool.and_false, ↓Bool.false_and, ↓Bool.not_true, ↓Bool.not_false, ↓if_true, ↓sh_int, ↓sh_bool, ↓sh_none, ↓eqv_ii, ↓eqv_bb, ↓eqv_ss, ↓brn_true, ↓brn_false, brn_true, brn_false, ↓List.any_cons, ↓List.any_nil, ↓if_false, ↓ite_true, ↓ite_false, ↓true_and, ↓and_true, ↓Bool.false_eq_true, ↓reduceCtorEq, ↓decide_true, ↓decide_false, ↓List.map_cons, ↓List.map_nil, ↓Tg.slots, ↓List.nodup_cons, ↓List.nodup_nil, ↓List.not_mem_nil, ↓not_false_eq_true, ↓forall_const, ↓true_implies, ↓bI, Nat.reduceAdd, Nat.reduceSub, Nat.reduceEqDiff, Int.reduceLT, Int.reduceLE, Nat.reduceLT, Nat.reduceLeDiff, Int.reduceNeg, Nat.reduceBEq, ↓BEq.rfl, ↓beq_self_eq_true, ↓Bool.or_false, ↓Bool.or_true]
        exact next _ rfl
    rintro e rfl
    refine wps_seq (fun e => e = [some (.io pen1), some (.val (houseD n ps)), some (.val (.int way)), some (.val (.int (n : Int))), some (.val (.tuple (ps.map intsD))), none, none]) (fun N next => ?_) ?_
    · simp -dsimp only [↓wpS, ↓wpE, ↓wpEs, ↓wpEs', ↓wpCs, ↓wpI, ↓callW, ↓okArgs, ↓sigOk, ↓inouts, ↓lents, ↓peeks, ↓peek, ↓pk, ↓slot, ↓setOwn, ↓setC, ↓freeze, ↓isOwn, ↓isIo, ↓slC, ↓isLst, ↓asV, ↓asS, ↓asVs, ↓asSs, ↓isT, ↓R.still, ↓setMany, ↓bindT, ↓wipeE, ↓unwipe, ↓binD, ↓intBin, ↓cmpD, ↓eqD, ↓ordD, ↓ordI, ↓startE, ↓endsOf, ↓ioOf, ↓newsOf, ↓Sl.r, ↓itemsOf, ↓slcD, ↓revD, ↓b1D, ↓b2D, ↓isNoneD, ↓noRefR, ↓noRef, ↓noRefs, ite_self, ↓isTy, ↓List.getElem?_cons_zero, ↓List.getElem?_cons_succ, ↓List.getElem?_nil, ↓Option.join_some, ↓Option.join_none, ↓Option.isSome_some, ↓Option.isSome_none, ↓List.set_cons_zero, ↓List.set_cons_succ, ↓List.replicate, ↓List.length_cons, ↓List.length_nil, ↓List.isEmpty_cons, ↓List.isEmpty_nil, ↓List.all_cons, ↓List.all_nil, ↓List.filterMap_cons, ↓List.filterMap_nil, ↓List.contains_cons, ↓List.contains_nil, ↓Bool.and_true, ↓Bool.true_and, ↓Bool.and_false, ↓Bool.false_and, ↓Bool.not_true, ↓Bool.not_false, ↓if_true, ↓sh_int, ↓sh_bool, ↓sh_none, ↓eqv_ii, ↓eqv_bb, ↓eqv_ss, ↓brn_true, ↓brn_false, brn_true, brn_false, ↓List.any_cons, ↓List.any_nil, ↓if_false, ↓ite_true, ↓ite_false, ↓true_and, ↓and_true, ↓Bool.false_eq_true, ↓reduceCtorEq, ↓decide_true, ↓decide_false, ↓List.map_cons, ↓List.map_nil, ↓Tg.slots, ↓List.nodup_cons, ↓List.nodup_nil, ↓List.not_mem_nil, ↓not_false_eq_true, ↓forall_const, ↓true_implies, ↓bI, Nat.reduceAdd, Nat.reduceSub, Nat.reduceEqDiff, Int.reduceLT, Int.reduceLE, Nat.reduceLT, Nat.reduceLeDiff, Int.reduceNeg, Nat.reduceBEq, ↓BEq.rfl, ↓beq_self_eq_true, ↓Bool.or_false, ↓Bool.or_true]
      refine brn_of (fun hb => ?_) (fun hb => ?_)
      · simp -dsimp only [↓wpS, ↓wpE, ↓wpEs, ↓wpEs', ↓wpCs, ↓wpI, ↓callW, ↓okArgs, ↓sigOk, ↓inouts, ↓lents, ↓peeks, ↓peek, ↓pk, ↓slot, ↓setOwn, ↓setC, ↓freeze, ↓isOwn, ↓isIo, ↓slC, ↓isLst, ↓asV, ↓asS, ↓asVs, ↓asSs, ↓isT, ↓R.still, ↓setMany, ↓bindT, ↓wipeE, ↓unwipe, ↓binD, ↓intBin, ↓cmpD, ↓eqD, ↓ordD, ↓ordI, ↓startE, ↓endsOf, ↓ioOf, ↓newsOf, ↓Sl.r, ↓itemsOf, ↓slcD, ↓revD, ↓b1D, ↓b2D, ↓isNoneD, ↓noRefR, ↓noRef, ↓noRefs, ite_self, ↓isTy, ↓List.getElem?_cons_zero, ↓List.getElem?_cons_succ, ↓List.getElem?_nil, ↓Option.join_some, ↓Option.join_none, ↓Option.isSome_some, ↓Option.isSome_none, ↓List.set_cons_zero, ↓List.set_cons_succ, ↓List.replicate, ↓List.length_cons, ↓List.length_nil, ↓List.isEmpty_cons, ↓List.isEmpty_nil, ↓List.all_cons, ↓List.all_nil, ↓List.filterMap_cons, ↓List.filterMap_nil, ↓List.contains_cons, ↓List.contains_nil, ↓Bool.and_true, ↓Bool.true_and, ↓Bool.and_false, ↓Bool.false_and, ↓Bool.not_true, ↓Bool.not_false, ↓if_true, ↓sh_int, ↓sh_bool, ↓sh_none, ↓eqv_ii, ↓eqv_bb, ↓eqv_ss, ↓brn_true, ↓brn_false, brn_true, brn_false, ↓List.any_cons, ↓List.any_nil, ↓if_false, ↓ite_true, ↓ite_false, ↓true_and, ↓and_true, ↓Bool.false_eq_true, ↓reduceCtorEq, ↓decide_true, ↓decide_false, ↓List.map_cons, ↓List.map_nil, ↓Tg.slots, ↓List.nodup_cons, ↓List.nodup_nil, ↓List.not_mem_nil, ↓not_false_eq_true, ↓forall_const, ↓true_implies, ↓bI, Nat.reduceAdd, Nat.reduceSub, Nat.reduceEqDiff, Int.reduceLT, Int.reduceLE, Nat.reduceLT, Nat.reduceLeDiff, Int.reduceNeg, Nat.reduceBEq, ↓BEq.rfl, ↓beq_self_eq_true, ↓Bool.or_false, ↓Bool.or_true]
        refine ⟨by simp, by simp, by simp, _, rfl, ?_⟩
        rw [h1]
        refine ⟨_, pen1, _, rfl, c1, by omega, _, rfl, by simp, by simp, fun x pen2 hx c2 _ => ?_⟩
        simp -dsimp only [↓wpS, ↓wpE, ↓wpEs, ↓wpEs', ↓wpCs, ↓wpI, ↓callW, ↓okArgs, ↓sigOk, ↓inouts, ↓lents, ↓peeks, ↓peek, ↓pk, ↓slot, ↓setOwn, ↓setC, ↓freeze, ↓isOwn, ↓isIo, ↓slC, ↓isLst, ↓asV, ↓asS, ↓asVs, ↓asSs, ↓isT, ↓R.still, ↓setMany, ↓bindT, ↓wipeE, ↓unwipe, ↓binD, ↓intBin, ↓cmpD, ↓eqD, ↓ordD, ↓ordI, ↓startE, ↓endsOf, ↓ioOf, ↓newsOf, ↓Sl.r, ↓itemsOf, ↓slcD, ↓revD, ↓b1D, ↓b2D, ↓isNoneD, ↓noRefR, ↓noRef, ↓noRefs, ite_self, ↓isTy, ↓List.getElem?_cons_zero, ↓List.getElem?_cons_succ, ↓List.getElem?_nil, ↓Option.join_some, ↓Option.join_none, ↓Option.isSome_some, ↓Option.isSome_none, ↓List.set_cons_zero, ↓List.set_cons_succ, ↓List.replicate, ↓List.length_cons, ↓List.length_nil, ↓List.isEmpty_cons, ↓List.isEmpty_nil, ↓List.all_cons, ↓List.all_nil, ↓List.filterMap_cons, ↓List.filterMap_nil, ↓List.contains_cons, ↓List.contains_nil, ↓Bool.and_true, ↓Bool.true_and, ↓Bool.and_false, ↓Bool.false_and, ↓Bool.not_true, ↓Bool.not_false, ↓if_true, ↓sh_int, ↓sh_bool, ↓sh_none, ↓eqv_ii, ↓eqv_bb, ↓eqv_ss, ↓brn_true, ↓brn_false, brn_true, brn_false, ↓List.any_cons, ↓List.any_nil, ↓if_false, ↓ite_true, ↓ite_false, ↓true_and, ↓and_true, ↓Bool.false_eq_true, ↓reduceCtorEq, ↓decide_true, ↓decide_false, ↓List.map_cons, ↓List.map_nil, ↓Tg.slots, ↓List.nodup_cons, ↓List.nodup_nil, ↓List.not_mem_nil, ↓not_false_eq_true, ↓forall_const, ↓true_implies, ↓bI, Nat.reduceAdd, Nat.reduceSub, Nat.reduceEqDiff, Int.reduceLT, Int.reduceLE, Nat.reduceLT, Nat.reduceLeDiff, Int.reduceNeg, Nat.reduceBEq, ↓BEq.rfl, ↓beq_self_eq_true, ↓Bool.or_false, ↓Bool.or_true]
        refine k (.val _) pen2 ?_ (.inl ⟨_, rfl⟩) (c2.mono (by omega))
        refine house_of gNn ?_
        simp only [List.mem_cons, List.not_mem_nil, or_false] at hx
        rcases hx with rfl | rfl | rfl | rfl | rfl
        · exact ⟨by decide +kernel, by decide +kernel⟩
        · exact ⟨by decide +kernel, by decide +kernel⟩
        · exact ⟨by decide +kernel, by decide +kernel⟩
        · exact gP.2
        · exact ⟨gd_none, by decide⟩
      · simp -dsimp only [↓wpS, ↓wpE, ↓wpEs, ↓wpEs', ↓wpCs, ↓wpI, ↓callW, ↓okArgs, ↓sigOk, ↓inouts, ↓lents, ↓peeks, ↓peek, ↓pk, ↓slot, ↓setOwn, ↓setC, ↓freeze, ↓isOwn, ↓isIo, ↓slC, ↓isLst, ↓asV, ↓asS, ↓asVs, ↓asSs, ↓isT, ↓R.still, ↓setMany, ↓bindT, ↓wipeE, ↓unwipe, ↓binD, ↓intBin, ↓cmpD, ↓eqD, ↓ordD, ↓ordI, ↓startE, ↓endsOf, ↓ioOf, ↓newsOf, ↓Sl.r, ↓itemsOf, ↓slcD, ↓revD, ↓b1D, ↓b2D, ↓isNoneD, ↓noRefR, ↓noRef, ↓noRefs, ite_self, ↓isTy, ↓List.getElem?_cons_zero, ↓List.getElem?_cons_succ, ↓List.getElem?_nil, ↓Option.join_some, ↓Option.join_none, ↓Option.isSome_some, ↓Option.isSome_none, ↓List.set_cons_zero, ↓List.set_cons_succ, ↓List.replicate, ↓List.length_cons, ↓List.length_nil, ↓List.isEmpty_cons, ↓List.isEmpty_nil, ↓List.all_cons, ↓List.all_nil, ↓List.filterMap_cons, ↓List.filterMap_nil, ↓List.contains_cons, ↓List.contains_nil, ↓Bool.and_true, ↓Bool.true_and, ↓Bool.and_false, ↓Bool.false_and, ↓Bool.not_true, ↓Bool.not_false, ↓if_true, ↓sh_int, ↓sh_bool, ↓sh_none, ↓eqv_ii, ↓eqv_bb, ↓eqv_ss, ↓brn_true, ↓brn_false, brn_true, brn_false, ↓List.any_cons, ↓List.any_nil, ↓if_false, ↓ite_true, ↓ite_false, ↓true_and, ↓and_true, ↓Bool.false_eq_true, ↓reduceCtorEq, ↓decide_true, ↓decide_false, ↓List.map_cons, ↓List.map_nil, ↓Tg.slots, ↓List.nodup_cons, ↓List.nodup_nil, ↓List.not_mem_nil, ↓not_false_eq_true, ↓forall_const, ↓true_implies, ↓bI, Nat.reduceAdd, Nat.reduceSub, Nat.reduceEqDiff, Int.reduceLT, Int.reduceLE, Nat.reduceLT, Nat.reduceLeDiff, Int.reduceNeg, Nat.reduceBEq, ↓BEq.rfl, ↓beq_self_eq_true, ↓Bool.or_false, ↓Bool.or_true]
        exact next _ rfl
    rintro e rfl
    refine wps_seq (fun e => e = [some (.io pen1), some (.val (houseD n ps)), some (.val (.int way)), some (.val (.int (n : Int))), some (.val (.tuple (ps.map intsD))), none, none]) (fun N next => ?_) ?_
    · simp -dsimp only [↓wpS, ↓wpE, ↓wpEs, ↓wpEs', ↓wpCs, ↓wpI, ↓callW, ↓okArgs, ↓sigOk, ↓inouts, ↓lents, ↓peeks, ↓peek, ↓pk, ↓slot, ↓setOwn, ↓setC, ↓freeze, ↓isOwn, ↓isIo, ↓slC, ↓isLst, ↓asV, ↓asS, ↓asVs, ↓asSs, ↓isT, ↓R.still, ↓setMany, ↓bindT, ↓wipeE, ↓unwipe, ↓binD, ↓intBin, ↓cmpD, ↓eqD, ↓ordD, ↓ordI, ↓startE, ↓endsOf, ↓ioOf, ↓newsOf, ↓Sl.r, ↓itemsOf, ↓slcD, ↓revD, ↓b1D, ↓b2D, ↓isNoneD, ↓noRefR, ↓noRef, ↓noRefs, ite_self, ↓isTy, ↓List.getElem?_cons_zero, ↓List.getElem?_cons_succ, ↓List.getElem?_nil, ↓Option.join_some, ↓Option.join_none, ↓Option.isSome_some, ↓Option.isSome_none, ↓List.set_cons_zero, ↓List.set_cons_succ, ↓List.replicate, ↓List.length_cons, ↓List.length_nil, ↓List.isEmpty_cons, ↓List.isEmpty_nil, ↓List.all_cons, ↓List.all_nil, ↓List.filterMap_cons, ↓List.filterMap_nil, ↓List.contains_cons, ↓List.contains_nil, ↓Bool.and_true, ↓Bool.true_and, ↓Bool.and_false, ↓Bool.false_and, ↓Bool.not_true, ↓Bool.not_false, ↓if_true, ↓sh_int, ↓sh_bool, ↓sh_none, ↓eqv_ii, ↓eqv_bb, ↓eqv_ss, ↓brn_true, ↓brn_false, brn_true, brn_false, ↓List.any_cons, ↓List.any_nil, ↓if_false, ↓ite_true, ↓ite_false, ↓true_and, ↓and_true, ↓Bool.false_eq_true, ↓reduceCtorEq, ↓decide_true, ↓decide_false, ↓List.map_cons, ↓List.map_nil, ↓Tg.slots, ↓List.nodup_cons, ↓List.nodup_nil, ↓List.not_mem_nil, ↓not_false_eq_true, ↓forall_const, ↓true_implies, ↓bI, Nat.reduceAdd, Nat.reduceSub, Nat.reduceEqDiff, Int.reduceLT, Int.reduceLE, Nat.reduceLT, Nat.reduceLeDiff, Int.reduceNeg, Nat.reduceBEq, ↓BEq.rfl, ↓beq_self_eq_true, ↓Bool.or_false, ↓Bool.or_true]
      refine brn_of (fun hb => ?_) (fun hb => ?_)
      · simp -dsimp only [↓wpS, ↓wpE, ↓wpEs, ↓wpEs', ↓wpCs, ↓wpI, ↓callW, ↓okArgs, ↓sigOk, ↓inouts, ↓lents, ↓peeks, ↓peek, ↓pk, ↓slot, ↓setOwn, ↓setC, ↓freeze, ↓isOwn, ↓isIo, ↓slC, ↓isLst, ↓asV, ↓asS, ↓asVs, ↓asSs, ↓isT, ↓R.still, ↓setMany, ↓bindT, ↓wipeE, ↓unwipe, ↓binD, ↓intBin, ↓cmpD, ↓eqD, ↓ordD, ↓ordI, ↓startE, ↓endsOf, ↓ioOf, ↓newsOf, ↓Sl.r, ↓itemsOf, ↓slcD, ↓revD, ↓b1D, ↓b2D, ↓isNoneD, ↓noRefR, ↓noRef, ↓noRefs, ite_self, ↓isTy, ↓List.getElem?_cons_zero, ↓List.getElem?_cons_succ, ↓List.getElem?_nil, ↓Option.join_some, ↓Option.join_none, ↓Option.isSome_some, ↓Option.isSome_none, ↓List.set_cons_zero, ↓List.set_cons_succ, ↓List.replicate, ↓List.length_cons, ↓List.length_nil, ↓List.isEmpty_cons, ↓List.isEmpty_nil, ↓List.all_cons, ↓List.all_nil, ↓List.filterMap_cons, ↓List.filterMap_nil, ↓List.contains_cons, ↓List.contains_nil, ↓Bool.and_true, ↓Bool.true_and, ↓Bool.and_false, ↓Bool.false_and, ↓Bool.not_true, ↓Bool.not_false, ↓if_true, ↓sh_int, ↓sh_bool, ↓sh_none, ↓eqv_ii, ↓eqv_bb, ↓eqv_ss, ↓brn_true, ↓brn_false, brn_true, brn_false, ↓List.any_cons, ↓List.any_nil, ↓if_false, ↓ite_true, ↓ite_false, ↓true_and, ↓and_true, ↓Bool.false_eq_true, ↓reduceCtorEq, ↓decide_true, ↓decide_false, ↓List.map_cons, ↓List.map_nil, ↓Tg.slots, ↓List.nodup_cons, ↓List.nodup_nil, ↓List.not_mem_nil, ↓not_false_eq_true, ↓forall_const, ↓true_implies, ↓bI, Nat.reduceAdd, Nat.reduceSub, Nat.reduceEqDiff, Int.reduceLT, Int.reduceLE, Nat.reduceLT, Nat.reduceLeDiff, Int.reduceNeg, Nat.reduceBEq, ↓BEq.rfl, ↓beq_self_eq_true, ↓Bool.or_false, ↓Bool.or_true]
        refine ⟨sh_psts, by decide, ?_⟩
        rw [eqv_pstsNil]
        refine brn_of (fun hb2 => ?_) (fun hb2 => ?_)
        · have hp0 : 0 < ps.length := List.length_pos_iff.mpr (by simpa using hb2)
          have hp1 : 0 < (ps.map intsD).length := by rw [List.length_map]; exact hp0
          refine wps_h2 (fun e => ∃ (l : List PyData) (kk : Int) (pen' : PyData), e = [some (.io pen'), some (.val (houseD n ps)), some (.val (.int way)), some (.val (.int (n : Int))), some (.val (.tuple (ps.map intsD))), some (.val (.int kk)), some (.own (.list l))] ∧ l.length = 4 ∧ (∀ x ∈ l, pst x) ∧ Pen (t + 40) pen') (fun N next => ?_) ?_
          · simp -dsimp only [↓wpS, ↓wpE, ↓wpEs, ↓wpEs', ↓wpCs, ↓wpI, ↓callW, ↓okArgs, ↓sigOk, ↓inouts, ↓lents, ↓peeks, ↓peek, ↓pk, ↓slot, ↓setOwn, ↓setC, ↓freeze, ↓isOwn, ↓isIo, ↓slC, ↓isLst, ↓asV, ↓asS, ↓asVs, ↓asSs, ↓isT, ↓R.still, ↓setMany, ↓bindT, ↓wipeE, ↓unwipe, ↓binD, ↓intBin, ↓cmpD, ↓eqD, ↓ordD, ↓ordI, ↓startE, ↓endsOf, ↓ioOf, ↓newsOf, ↓Sl.r, ↓itemsOf, ↓slcD, ↓revD, ↓b1D, ↓b2D, ↓isNoneD, ↓noRefR, ↓noRef, ↓noRefs, ite_self, ↓isTy, ↓List.getElem?_cons_zero, ↓List.getElem?_cons_succ, ↓List.getElem?_nil, ↓Option.join_some, ↓Option.join_none, ↓Option.isSome_some, ↓Option.isSome_none, ↓List.set_cons_zero, ↓List.set_cons_succ, ↓List.replicate, ↓List.length_cons, ↓List.length_nil, ↓List.isEmpty_cons, ↓List.isEmpty_nil, ↓List.all_cons, ↓List.all_nil, ↓List.filterMap_cons, ↓List.filterMap_nil, ↓List.contains_cons, ↓List.contains_nil, ↓Bool.and_true, ↓Bool.true_and, ↓Bool.and_false, ↓Bool.false_and, ↓Bool.not_true, ↓Bool.not_false, ↓if_true, ↓sh_int, ↓sh_bool, ↓sh_none, ↓eqv_ii, ↓eqv_bb, ↓eqv_ss, ↓brn_true, ↓brn_false, brn_true, brn_false, ↓List.any_cons, ↓List.any_nil, ↓if_false, ↓ite_true, ↓ite_false, ↓true_and, ↓and_true, ↓Bool.false_eq_true, ↓reduceCtorEq, ↓decide_true, ↓decide_false, ↓List.map_cons, ↓List.map_nil, ↓Tg.slots, ↓List.nodup_cons, ↓List.nodup_nil, ↓List.not_mem_nil, ↓not_false_eq_true, ↓forall_const, ↓true_implies, ↓bI, Nat.reduceAdd, Nat.reduceSub, Nat.reduceEqDiff, Int.reduceLT, Int.reduceLE, Nat.reduceLT, Nat.reduceLeDiff, Int.reduceNeg, Nat.reduceBEq, ↓BEq.rfl, ↓beq_self_eq_true, ↓Bool.or_false, ↓Bool.or_true]
            refine ⟨_, rfl, ?_⟩
            rw [h]
            refine ⟨_, pen1, _, rfl, c1, by omega, by omega, by omega, fun kk pen2 k0 k1 c2 _ => ?_⟩
            rw [List.length_map] at k1
            simp -dsimp only [↓wpS, ↓wpE, ↓wpEs, ↓wpEs', ↓wpCs, ↓wpI, ↓callW, ↓okArgs, ↓sigOk, ↓inouts, ↓lents, ↓peeks, ↓peek, ↓pk, ↓slot, ↓setOwn, ↓setC, ↓freeze, ↓isOwn, ↓isIo, ↓slC, ↓isLst, ↓asV, ↓asS, ↓asVs, ↓asSs, ↓isT, ↓R.still, ↓setMany, ↓bindT, ↓wipeE, ↓unwipe, ↓binD, ↓intBin, ↓cmpD, ↓eqD, ↓ordD, ↓ordI, ↓startE, ↓endsOf, ↓ioOf, ↓newsOf, ↓Sl.r, ↓itemsOf, ↓slcD, ↓revD, ↓b1D, ↓b2D, ↓isNoneD, ↓noRefR, ↓noRef, ↓noRefs, ite_self, ↓isTy, ↓List.getElem?_cons_zero, ↓List.getElem?_cons_succ, ↓List.getElem?_nil, ↓Option.join_some, ↓Option.join_none, ↓Option.isSome_some, ↓Option.isSome_none, ↓List.set_cons_zero, ↓List.set_cons_succ, ↓List.replicate, ↓List.length_cons, ↓List.length_nil, ↓List.isEmpty_cons, ↓List.isEmpty_nil, ↓List.all_cons, ↓List.all_nil, ↓List.filterMap_cons, ↓List.filterMap_nil, ↓List.contains_cons, ↓List.contains_nil, ↓Bool.and_true, ↓Bool.true_and, ↓Bool.and_false, ↓Bool.false_and, ↓Bool.not_true, ↓Bool.not_false, ↓if_true, ↓sh_int, ↓sh_bool, ↓sh_none, ↓eqv_ii, ↓eqv_bb, ↓eqv_ss, ↓brn_true, ↓brn_false, brn_true, brn_false, ↓List.any_cons, ↓List.any_nil, ↓if_false, ↓ite_true, ↓ite_false, ↓true_and, ↓and_true, ↓Bool.false_eq_true, ↓reduceCtorEq, ↓decide_true, ↓decide_false, ↓List.map_cons, ↓List.map_nil, ↓Tg.slots, ↓List.nodup_cons, ↓List.nodup_nil, ↓List.not_mem_nil, ↓not_false_eq_true, ↓forall_const, ↓true_implies, ↓bI, Nat.reduceAdd, Nat.reduceSub, Nat.reduceEqDiff, Int.reduceLT, Int.reduceLE, Nat.reduceLT, Nat.reduceLeDiff, Int.reduceNeg, Nat.reduceBEq, ↓BEq.rfl, ↓beq_self_eq_true, ↓Bool.or_false, ↓Bool.or_true]
            refine idx_ps (Φ := Φ) k0 k1 ?_
            obtain ⟨l, hl⟩ : ∃ l, l = ps.getD kk.toNat [] := ⟨_, rfl⟩
            have hla : asc n l := by
              rw [hl, List.getD_eq_getElem?_getD, List.getElem?_eq_getElem (by omega)]
              exact hasc _ (List.getElem_mem _)
            obtain ⟨hll, hlx⟩ := asc_pst hn hla
            rw [← hl]
            have hld : intsD l = .tuple (l.map .int) := rfl
            rw [hld]
            simp -dsimp only [↓wpS, ↓wpE, ↓wpEs, ↓wpEs', ↓wpCs, ↓wpI, ↓callW, ↓okArgs, ↓sigOk, ↓inouts, ↓lents, ↓peeks, ↓peek, ↓pk, ↓slot, ↓setOwn, ↓setC, ↓freeze, ↓isOwn, ↓isIo, ↓slC, ↓isLst, ↓asV, ↓asS, ↓asVs, ↓asSs, ↓isT, ↓R.still, ↓setMany, ↓bindT, ↓wipeE, ↓unwipe, ↓binD, ↓intBin, ↓cmpD, ↓eqD, ↓ordD, ↓ordI, ↓startE, ↓endsOf, ↓ioOf, ↓newsOf, ↓Sl.r, ↓itemsOf, ↓slcD, ↓revD, ↓b1D, ↓b2D, ↓isNoneD, ↓noRefR, ↓noRef, ↓noRefs, ite_self, ↓isTy, ↓List.getElem?_cons_zero, ↓List.getElem?_cons_succ, ↓List.getElem?_nil, ↓Option.join_some, ↓Option.join_none, ↓Option.isSome_some, ↓Option.isSome_none, ↓List.set_cons_zero, ↓List.set_cons_succ, ↓List.replicate, ↓List.length_cons, ↓List.length_nil, ↓List.isEmpty_cons, ↓List.isEmpty_nil, ↓List.all_cons, ↓List.all_nil, ↓List.filterMap_cons, ↓List.filterMap_nil, ↓List.contains_cons, ↓List.contains_nil, ↓Bool.and_true, ↓Bool.true_and, ↓Bool.and_false, ↓Bool.false_and, ↓Bool.not_true, ↓Bool.not_false, ↓if_true, ↓sh_int, ↓sh_bool, ↓sh_none, ↓eqv_ii, ↓eqv_bb, ↓eqv_ss, ↓brn_true, ↓brn_false, brn_true, brn_false, ↓List.any_cons, ↓List.any_nil, ↓if_false, ↓ite_true, ↓ite_false, ↓true_and, ↓and_true, ↓Bool.false_eq_true, ↓reduceCtorEq, ↓decide_true, ↓decide_false, ↓List.map_cons, ↓List.map_nil, ↓Tg.slots, ↓List.nodup_cons, ↓List.nodup_nil, ↓List.not_mem_nil, ↓not_false_eq_true, ↓forall_const, ↓true_implies, ↓bI, Nat.reduceAdd, Nat.reduceSub, Nat.reduceEqDiff, Int.reduceLT, Int.reduceLE, Nat.reduceLT, Nat.reduceLeDiff, Int.reduceNeg, Nat.reduceBEq, ↓BEq.rfl, ↓beq_self_eq_true, ↓Bool.or_false, ↓Bool.or_true]
            refine ⟨_, rfl, ?_⟩
            rw [h3]
            refine ⟨_, pen2, l, rfl, c2, by omega, by omega, fun ns' pen3 hpm c3 _ => ?_⟩
            have hpm2 := hpm.length_eq
            simp -dsimp only [↓wpS, ↓wpE, ↓wpEs, ↓wpEs', ↓wpCs, ↓wpI, ↓callW, ↓okArgs, ↓sigOk, ↓inouts, ↓lents, ↓peeks, ↓peek, ↓pk, ↓slot, ↓setOwn, ↓setC, ↓freeze, ↓isOwn, ↓isIo, ↓slC, ↓isLst, ↓asV, ↓asS, ↓asVs, ↓asSs, ↓isT, ↓R.still, ↓setMany, ↓bindT, ↓wipeE, ↓unwipe, ↓binD, ↓intBin, ↓cmpD, ↓eqD, ↓ordD, ↓ordI, ↓startE, ↓endsOf, ↓ioOf, ↓newsOf, ↓Sl.r, ↓itemsOf, ↓slcD, ↓revD, ↓b1D, ↓b2D, ↓isNoneD, ↓noRefR, ↓noRef, ↓noRefs, ite_self, ↓isTy, ↓List.getElem?_cons_zero, ↓List.getElem?_cons_succ, ↓List.getElem?_nil, ↓Option.join_some, ↓Option.join_none, ↓Option.isSome_some, ↓Option.isSome_none, ↓List.set_cons_zero, ↓List.set_cons_succ, ↓List.replicate, ↓List.length_cons, ↓List.length_nil, ↓List.isEmpty_cons, ↓List.isEmpty_nil, ↓List.all_cons, ↓List.all_nil, ↓List.filterMap_cons, ↓List.filterMap_nil, ↓List.contains_cons, ↓List.contains_nil, ↓Bool.and_true, ↓Bool.true_and, ↓Bool.and_false, ↓Bool.false_and, ↓Bool.not_true, ↓Bool.not_false, ↓if_true, ↓sh_int, ↓sh_bool, ↓sh_none, ↓eqv_ii, ↓eqv_bb, ↓eqv_ss, ↓brn_true, ↓brn_false, brn_true, brn_false, ↓List.any_cons, ↓List.any_nil, ↓if_false, ↓ite_true, ↓ite_false, ↓true_and, ↓and_true, ↓Bool.false_eq_true, ↓reduceCtorEq, ↓decide_true, ↓decide_false, ↓List.map_cons, ↓List.map_nil, ↓Tg.slots, ↓List.nodup_cons, ↓List.nodup_nil, ↓List.not_mem_nil, ↓not_false_eq_true, ↓forall_const, ↓true_implies, ↓bI, Nat.reduceAdd, Nat.reduceSub, Nat.reduceEqDiff, Int.reduceLT, Int.reduceLE, Nat.reduceLT, Nat.reduceLeDiff, Int.reduceNeg, Nat.reduceBEq, ↓BEq.rfl, ↓beq_self_eq_true, ↓Bool.or_false, ↓Bool.or_true]
            refine idx_ps (Φ := Φ) k0 k1 ?_
            rw [← hl, hld]
            simp -dsimp only [↓wpS, ↓wpE, ↓wpEs, ↓wpEs', ↓wpCs, ↓wpI, ↓callW, ↓okArgs, ↓sigOk, ↓inouts, ↓lents, ↓peeks, ↓peek, ↓pk, ↓slot, ↓setOwn, ↓setC, ↓freeze, ↓isOwn, ↓isIo, ↓slC, ↓isLst, ↓asV, ↓asS, ↓asVs, ↓asSs, ↓isT, ↓R.still, ↓setMany, ↓bindT, ↓wipeE, ↓unwipe, ↓binD, ↓intBin, ↓cmpD, ↓eqD, ↓ordD, ↓ordI, ↓startE, ↓endsOf, ↓ioOf, ↓newsOf, ↓Sl.r, ↓itemsOf, ↓slcD, ↓revD, ↓b1D, ↓b2D, ↓isNoneD, ↓noRefR, ↓noRef, ↓noRefs, ite_self, ↓isTy, ↓List.getElem?_cons_zero, ↓List.getElem?_cons_succ, ↓List.getElem?_nil, ↓Option.join_some, ↓Option.join_none, ↓Option.isSome_some, ↓Option.isSome_none, ↓List.set_cons_zero, ↓List.set_cons_succ, ↓List.replicate, ↓List.length_cons, ↓List.length_nil, ↓List.isEmpty_cons, ↓List.isEmpty_nil, ↓List.all_cons, ↓List.all_nil, ↓List.filterMap_cons, ↓List.filterMap_nil, ↓List.contains_cons, ↓List.contains_nil, ↓Bool.and_true, ↓Bool.true_and, ↓Bool.and_false, ↓Bool.false_and, ↓Bool.not_true, ↓Bool.not_false, ↓if_true, ↓sh_int, ↓sh_bool, ↓sh_none, ↓eqv_ii, ↓eqv_bb, ↓eqv_ss, ↓brn_true, ↓brn_false, brn_true, brn_false, ↓List.any_cons, ↓List.any_nil, ↓if_false, ↓ite_true, ↓ite_false, ↓true_and, ↓and_true, ↓Bool.false_eq_true, ↓reduceCtorEq, ↓decide_true, ↓decide_false, ↓List.map_cons, ↓List.map_nil, ↓Tg.slots, ↓List.nodup_cons, ↓List.nodup_nil, ↓List.not_mem_nil, ↓not_false_eq_true, ↓forall_const, ↓true_implies, ↓bI, Nat.reduceAdd, Nat.reduceSub, Nat.reduceEqDiff, Int.reduceLT, Int.reduceLE, Nat.reduceLT, Nat.reduceLeDiff, Int.reduceNeg, Nat.reduceBEq, ↓BEq.rfl, ↓beq_self_eq_true, ↓Bool.or_false, ↓Bool.or_true]
            refine idx_ps (Φ := Φ) k0 k1 ?_
            rw [← hl, hld]
            simp -dsimp only [↓wpS, ↓wpE, ↓wpEs, ↓wpEs', ↓wpCs, ↓wpI, ↓callW, ↓okArgs, ↓sigOk, ↓inouts, ↓lents, ↓peeks, ↓peek, ↓pk, ↓slot, ↓setOwn, ↓setC, ↓freeze, ↓isOwn, ↓isIo, ↓slC, ↓isLst, ↓asV, ↓asS, ↓asVs, ↓asSs, ↓isT, ↓R.still, ↓setMany, ↓bindT, ↓wipeE, ↓unwipe, ↓binD, ↓intBin, ↓cmpD, ↓eqD, ↓ordD, ↓ordI, ↓startE, ↓endsOf, ↓ioOf, ↓newsOf, ↓Sl.r, ↓itemsOf, ↓slcD, ↓revD, ↓b1D, ↓b2D, ↓isNoneD, ↓noRefR, ↓noRef, ↓noRefs, ite_self, ↓isTy, ↓List.getElem?_cons_zero, ↓List.getElem?_cons_succ, ↓List.getElem?_nil, ↓Option.join_some, ↓Option.join_none, ↓Option.isSome_some, ↓Option.isSome_none, ↓List.set_cons_zero, ↓List.set_cons_succ, ↓List.replicate, ↓List.length_cons, ↓List.length_nil, ↓List.isEmpty_cons, ↓List.isEmpty_nil, ↓List.all_cons, ↓List.all_nil, ↓List.filterMap_cons, ↓List.filterMap_nil, ↓List.contains_cons, ↓List.contains_nil, ↓Bool.and_true, ↓Bool.true_and, ↓Bool.and_false, ↓Bool.false_and, ↓Bool.not_true, ↓Bool.not_false, ↓if_true, ↓sh_int, ↓sh_bool, ↓sh_none, ↓eqv_ii, ↓eqv_bb, ↓eqv_ss, ↓brn_true, ↓brn_false, brn_true, brn_false, ↓List.any_cons, ↓List.any_nil, ↓if_false, ↓ite_true, ↓ite_false, ↓true_and, ↓and_true, ↓Bool.false_eq_true, ↓reduceCtorEq, ↓decide_true, ↓decide_false, ↓List.map_cons, ↓List.map_nil, ↓Tg.slots, ↓List.nodup_cons, ↓List.nodup_nil, ↓List.not_mem_nil, ↓not_false_eq_true, ↓forall_const, ↓true_implies, ↓bI, Nat.reduceAdd, Nat.reduceSub, Nat.reduceEqDiff, Int.reduceLT, Int.reduceLE, Nat.reduceLT, Nat.reduceLeDiff, Int.reduceNeg, Nat.reduceBEq, ↓BEq.rfl, ↓beq_self_eq_true, ↓Bool.or_false, ↓Bool.or_true]
            refine idx_ps (Φ := Φ) k0 k1 ?_
            rw [← hl, hld]
            simp -dsimp only [↓wpS, ↓wpE, ↓wpEs, ↓wpEs', ↓wpCs, ↓wpI, ↓callW, ↓okArgs, ↓sigOk, ↓inouts, ↓lents, ↓peeks, ↓peek, ↓pk, ↓slot, ↓setOwn, ↓setC, ↓freeze, ↓isOwn, ↓isIo, ↓slC, ↓isLst, ↓asV, ↓asS, ↓asVs, ↓asSs, ↓isT, ↓R.still, ↓setMany, ↓bindT, ↓wipeE, ↓unwipe, ↓binD, ↓intBin, ↓cmpD, ↓eqD, ↓ordD, ↓ordI, ↓startE, ↓endsOf, ↓ioOf, ↓newsOf, ↓Sl.r, ↓itemsOf, ↓slcD, ↓revD, ↓b1D, ↓b2D, ↓isNoneD, ↓noRefR, ↓noRef, ↓noRefs, ite_self, ↓isTy, ↓List.getElem?_cons_zero, ↓List.getElem?_cons_succ, ↓List.getElem?_nil, ↓Option.join_some, ↓Option.join_none, ↓Option.isSome_some, ↓Option.isSome_none, ↓List.set_cons_zero, ↓List.set_cons_succ, ↓List.replicate, ↓List.length_cons, ↓List.length_nil, ↓List.isEmpty_cons, ↓List.isEmpty_nil, ↓List.all_cons, ↓List.all_nil, ↓List.filterMap_cons, ↓List.filterMap_nil, ↓List.contains_cons, ↓List.contains_nil, ↓Bool.and_true, ↓Bool.true_and, ↓Bool.and_false, ↓Bool.false_and, ↓Bool.not_true, ↓Bool.not_false, ↓if_true, ↓sh_int, ↓sh_bool, ↓sh_none, ↓eqv_ii, ↓eqv_bb, ↓eqv_ss, ↓brn_true, ↓brn_false, brn_true, brn_false, ↓List.any_cons, ↓List.any_nil, ↓if_false, ↓ite_true, ↓ite_false, ↓true_and, ↓and_true, ↓Bool.false_eq_true, ↓reduceCtorEq, ↓decide_true, ↓decide_false, ↓List.map_cons, ↓List.map_nil, ↓Tg.slots, ↓List.nodup_cons, ↓List.nodup_nil, ↓List.not_mem_nil, ↓not_false_eq_true, ↓forall_const, ↓true_implies, ↓bI, Nat.reduceAdd, Nat.reduceSub, Nat.reduceEqDiff, Int.reduceLT, Int.reduceLE, Nat.reduceLT, Nat.reduceLeDiff, Int.reduceNeg, Nat.reduceBEq, ↓BEq.rfl, ↓beq_self_eq_true, ↓Bool.or_false, ↓Bool.or_true]
            refine ⟨by rw [List.length_map]; show _ ≤ 16777216; omega, ?_⟩
            refine idx_ps (Φ := Φ) k0 k1 ?_
            rw [← hl, hld]
            simp -dsimp only [↓wpS, ↓wpE, ↓wpEs, ↓wpEs', ↓wpCs, ↓wpI, ↓callW, ↓okArgs, ↓sigOk, ↓inouts, ↓lents, ↓peeks, ↓peek, ↓pk, ↓slot, ↓setOwn, ↓setC, ↓freeze, ↓isOwn, ↓isIo, ↓slC, ↓isLst, ↓asV, ↓asS, ↓asVs, ↓asSs, ↓isT, ↓R.still, ↓setMany, ↓bindT, ↓wipeE, ↓unwipe, ↓binD, ↓intBin, ↓cmpD, ↓eqD, ↓ordD, ↓ordI, ↓startE, ↓endsOf, ↓ioOf, ↓newsOf, ↓Sl.r, ↓itemsOf, ↓slcD, ↓revD, ↓b1D, ↓b2D, ↓isNoneD, ↓noRefR, ↓noRef, ↓noRefs, ite_self, ↓isTy, ↓List.getElem?_cons_zero, ↓List.getElem?_cons_succ, ↓List.getElem?_nil, ↓Option.join_some, ↓Option.join_none, ↓Option.isSome_some, ↓Option.isSome_none, ↓List.set_cons_zero, ↓List.set_cons_succ, ↓List.replicate, ↓List.length_cons, ↓List.length_nil, ↓List.isEmpty_cons, ↓List.isEmpty_nil, ↓List.all_cons, ↓List.all_nil, ↓List.filterMap_cons, ↓List.filterMap_nil, ↓List.contains_cons, ↓List.contains_nil, ↓Bool.and_true, ↓Bool.true_and, ↓Bool.and_false, ↓Bool.false_and, ↓Bool.not_true, ↓Bool.not_false, ↓if_true, ↓sh_int, ↓sh_bool, ↓sh_none, ↓eqv_ii, ↓eqv_bb, ↓eqv_ss, ↓brn_true, ↓brn_false, brn_true, brn_false, ↓List.any_cons, ↓List.any_nil, ↓if_false, ↓ite_true, ↓ite_false, ↓true_and, ↓and_true, ↓Bool.false_eq_true, ↓reduceCtorEq, ↓decide_true, ↓decide_false, ↓List.map_cons, ↓List.map_nil, ↓Tg.slots, ↓List.nodup_cons, ↓List.nodup_nil, ↓List.not_mem_nil, ↓not_false_eq_true, ↓forall_const, ↓true_implies, ↓bI, Nat.reduceAdd, Nat.reduceSub, Nat.reduceEqDiff, Int.reduceLT, Int.reduceLE, Nat.reduceLT, Nat.reduceLeDiff, Int.reduceNeg, Nat.reduceBEq, ↓BEq.rfl, ↓beq_self_eq_true, ↓Bool.or_false, ↓Bool.or_true]
            refine next _ ⟨_, kk, pen3, rfl, rfl, fun x hx => ?_, c3.mono (by omega)⟩
            simp only [List.mem_cons, List.not_mem_nil, or_false] at hx
            have hpx : ∀ x ∈ ns'.map PyData.int, (∃ i : Int, x = .int i ∧ i.natAbs < B12) ∨ ∃ b, x = .bool b := fun x hx => by
              obtain ⟨i, hi, rfl⟩ := List.mem_map.mp hx
              exact hlx _ (List.mem_map_of_mem (hpm.mem_iff.mp hi))
            rcases hx with rfl | rfl | rfl | rfl
            · exact (pst_of (by rw [List.length_map]; omega) hpx).1
            · exact (pst_of (by rw [List.length_reverse, List.length_map]; omega) fun x hx => hlx x (List.mem_reverse.mp hx)).1
            · exact (pst_of (by rw [List.length_append, List.length_map]; omega) fun x hx => (List.mem_append.mp hx).elim (hlx x) (hlx x)).1
            · exact (pst_of (by rw [List.length_map]; omega) hlx).2
          · rintro e ⟨l, kk, pen2, rfl, hl, hlp, c2⟩
            refine wps_seq (fun e => ∃ l : List PyData, e = [some (.io pen2), some (.val (houseD n ps)), some (.val (.int way)), some (.val (.int (n : Int))), some (.val (.tuple (ps.map intsD))), some (.val (.int kk)), some (.own (.list l))] ∧ l.length = 8 ∧ ∀ x ∈ l, pst x) (fun N next => ?_) ?_
            · simp -dsimp only [↓wpS, ↓wpE, ↓wpEs, ↓wpEs', ↓wpCs, ↓wpI, ↓callW, ↓okArgs, ↓sigOk, ↓inouts, ↓lents, ↓peeks, ↓peek, ↓pk, ↓slot, ↓setOwn, ↓setC, ↓freeze, ↓isOwn, ↓isIo, ↓slC, ↓isLst, ↓asV, ↓asS, ↓asVs, ↓asSs, ↓isT, ↓R.still, ↓setMany, ↓bindT, ↓wipeE, ↓unwipe, ↓binD, ↓intBin, ↓cmpD, ↓eqD, ↓ordD, ↓ordI, ↓startE, ↓endsOf, ↓ioOf, ↓newsOf, ↓Sl.r, ↓itemsOf, ↓slcD, ↓revD, ↓b1D, ↓b2D, ↓isNoneD, ↓noRefR, ↓noRef, ↓noRefs, ite_self, ↓isTy, ↓List.getElem?_cons_zero, ↓List.getElem?_cons_succ, ↓List.getElem?_nil, ↓Option.join_some, ↓Option.join_none, ↓Option.isSome_some, ↓Option.isSome_none, ↓List.set_cons_zero, ↓List.set_cons_succ, ↓List.replicate, ↓List.length_cons, ↓List.length_nil, ↓List.isEmpty_cons, ↓List.isEmpty_nil, ↓List.all_cons, ↓List.all_nil, ↓List.filterMap_cons, ↓List.filterMap_nil, ↓List.contains_cons, ↓List.contains_nil, ↓Bool.and_true, ↓Bool.true_and, ↓Bool.and_false, ↓Bool.false_and, ↓Bool.not_true, ↓Bool.not_false, ↓if_true, ↓sh_int, ↓sh_bool, ↓sh_none, ↓eqv_ii, ↓eqv_bb, ↓eqv_ss, ↓brn_true, ↓brn_false, brn_true, brn_false, ↓List.any_cons, ↓List.any_nil, ↓if_false, ↓ite_true, ↓ite_false, ↓true_and, ↓and_true, ↓Bool.false_eq_true, ↓reduceCtorEq, ↓decide_true, ↓decide_false, ↓List.map_cons, ↓List.map_nil, ↓Tg.slots, ↓List.nodup_cons, ↓List.nodup_nil, ↓List.not_mem_nil, ↓not_false_eq_true, ↓forall_const, ↓true_implies, ↓bI, Nat.reduceAdd, Nat.reduceSub, Nat.reduceEqDiff, Int.reduceLT, Int.reduceLE, Nat.reduceLT, Nat.reduceLeDiff, Int.reduceNeg, Nat.reduceBEq, ↓BEq.rfl, ↓beq_self_eq_true, ↓Bool.or_false, ↓Bool.or_true]
              refine ⟨by show _ ≤ 16777216; omega, next _ ⟨_, rfl, by simp [hl], fun x hx => ?_⟩⟩
              rcases List.mem_append.mp hx with hx | hx
              · exact hlp x hx
              · simp only [List.mem_cons, List.not_mem_nil, or_false] at hx
                rcases hx with rfl | rfl | rfl | rfl
                · exact ⟨by decide +kernel, by decide +kernel⟩
                · exact ⟨by decide +kernel, by decide +kernel⟩
                · exact ⟨by decide +kernel, by decide +kernel⟩
                · exact (pst_of (by simp) fun x hx => by
                    rw [List.mem_singleton] at hx
                    exact .inl ⟨_, hx, by omega⟩).1
            · rintro e ⟨l, rfl, hl, hlp⟩
              have q1 := cut_len (ps.map intsD) none (some kk)
              have q2 := cut_len (ps.map intsD) (some (kk + 1)) none
              simp -dsimp only [↓wpS, ↓wpE, ↓wpEs, ↓wpEs', ↓wpCs, ↓wpI, ↓callW, ↓okArgs, ↓sigOk, ↓inouts, ↓lents, ↓peeks, ↓peek, ↓pk, ↓slot, ↓setOwn, ↓setC, ↓freeze, ↓isOwn, ↓isIo, ↓slC, ↓isLst, ↓asV, ↓asS, ↓asVs, ↓asSs, ↓isT, ↓R.still, ↓setMany, ↓bindT, ↓wipeE, ↓unwipe, ↓binD, ↓intBin, ↓cmpD, ↓eqD, ↓ordD, ↓ordI, ↓startE, ↓endsOf, ↓ioOf, ↓newsOf, ↓Sl.r, ↓itemsOf, ↓slcD, ↓revD, ↓b1D, ↓b2D, ↓isNoneD, ↓noRefR, ↓noRef, ↓noRefs, ite_self, ↓isTy, ↓List.getElem?_cons_zero, ↓List.getElem?_cons_succ, ↓List.getElem?_nil, ↓Option.join_some, ↓Option.join_none, ↓Option.isSome_some, ↓Option.isSome_none, ↓List.set_cons_zero, ↓List.set_cons_succ, ↓List.replicate, ↓List.length_cons, ↓List.length_nil, ↓List.isEmpty_cons, ↓List.isEmpty_nil, ↓List.all_cons, ↓List.all_nil, ↓List.filterMap_cons, ↓List.filterMap_nil, ↓List.contains_cons, ↓List.contains_nil, ↓Bool.and_true, ↓Bool.true_and, ↓Bool.and_false, ↓Bool.false_and, ↓Bool.not_true, ↓Bool.not_false, ↓if_true, ↓sh_int, ↓sh_bool, ↓sh_none, ↓eqv_ii, ↓eqv_bb, ↓eqv_ss, ↓brn_true, ↓brn_false, brn_true, brn_false, ↓List.any_cons, ↓List.any_nil, ↓if_false, ↓ite_true, ↓ite_false, ↓true_and, ↓and_true, ↓Bool.false_eq_true, ↓reduceCtorEq, ↓decide_true, ↓decide_false, ↓List.map_cons, ↓List.map_nil, ↓Tg.slots, ↓List.nodup_cons, ↓List.nodup_nil, ↓List.not_mem_nil, ↓not_false_eq_true, ↓forall_const, ↓true_implies, ↓bI, Nat.reduceAdd, Nat.reduceSub, Nat.reduceEqDiff, Int.reduceLT, Int.reduceLE, Nat.reduceLT, Nat.reduceLeDiff, Int.reduceNeg, Nat.reduceBEq, ↓BEq.rfl, ↓beq_self_eq_true, ↓Bool.or_false, ↓Bool.or_true]
              refine ⟨by show _ ≤ 16777216; omega, _, rfl, ?_⟩
              rw [h1]
              refine ⟨_, pen2, _, rfl, c2, by omega, _, rfl, by simp, by rw [List.length_append]; simp; omega, fun x pen3 hx c3 _ => ?_⟩
              have hpx : pst x := by
                rcases List.mem_append.mp hx with hx | hx
                · exact hlp x hx
                · simp only [List.mem_cons, List.not_mem_nil, or_false] at hx
                  rcases hx with rfl | rfl
                  · exact ⟨by decide +kernel, by decide +kernel⟩
                  · exact ⟨gd_none, by decide⟩
              simp -dsimp only [↓wpS, ↓wpE, ↓wpEs, ↓wpEs', ↓wpCs, ↓wpI, ↓callW, ↓okArgs, ↓sigOk, ↓inouts, ↓lents, ↓peeks, ↓peek, ↓pk, ↓slot, ↓setOwn, ↓setC, ↓freeze, ↓isOwn, ↓isIo, ↓slC, ↓isLst, ↓asV, ↓asS, ↓asVs, ↓asSs, ↓isT, ↓R.still, ↓setMany, ↓bindT, ↓wipeE, ↓unwipe, ↓binD, ↓intBin, ↓cmpD, ↓eqD, ↓ordD, ↓ordI, ↓startE, ↓endsOf, ↓ioOf, ↓newsOf, ↓Sl.r, ↓itemsOf, ↓slcD, ↓revD, ↓b1D, ↓b2D, ↓isNoneD, ↓noRefR, ↓noRef, ↓noRefs, ite_self, ↓isTy, ↓List.getElem?_cons_zero, ↓List.getElem?_cons_succ, ↓List.getElem?_nil, ↓Option.join_some, ↓Option.join_none, ↓Option.isSome_some, ↓Option.isSome_none, ↓List.set_cons_zero, ↓List.set_cons_succ, ↓List.replicate, ↓List.length_cons, ↓List.length_nil, ↓List.isEmpty_cons, ↓List.isEmpty_nil, ↓List.all_cons, ↓List.all_nil, ↓List.filterMap_cons, ↓List.filterMap_nil, ↓List.contains_cons, ↓List.contains_nil, ↓Bool.and_true, ↓Bool.true_and, ↓Bool.and_false, ↓Bool.false_and, ↓Bool.not_true, ↓Bool.not_false, ↓if_true, ↓sh_int, ↓sh_bool, ↓sh_none, ↓eqv_ii, ↓eqv_bb, ↓eqv_ss, ↓brn_true, ↓brn_false, brn_true, brn_false, ↓List.any_cons, ↓List.any_nil, ↓if_false, ↓ite_true, ↓ite_false, ↓true_and, ↓and_true, ↓Bool.false_eq_true, ↓reduceCtorEq, ↓decide_true, ↓decide_false, ↓List.map_cons, ↓List.map_nil, ↓Tg.slots, ↓List.nodup_cons, ↓List.nodup_nil, ↓List.not_mem_nil, ↓not_false_eq_true, ↓forall_const, ↓true_implies, ↓bI, Nat.reduceAdd, Nat.reduceSub, Nat.reduceEqDiff, Int.reduceLT, Int.reduceLE, Nat.reduceLT, Nat.reduceLeDiff, Int.reduceNeg, Nat.reduceBEq, ↓BEq.rfl, ↓beq_self_eq_true, ↓Bool.or_false, ↓Bool.or_true]
              refine ⟨by show _ ≤ 16777216; omega, by rw [List.length_append]; show _ ≤ 16777216; simp; omega, ?_⟩
              refine k (.val _) pen3 ?_ (.inl ⟨_, rfl⟩) (c3.mono (by omega))
              refine house_of gNn (posts_of (by rw [List.length_append, List.length_append]; simp; omega) fun y hy => ?_).1
              rcases List.mem_append.mp hy with hy | hy
              · rcases List.mem_append.mp hy with hy | hy
                · exact hpst y (cut_mem hy)
                · rw [List.mem_singleton] at hy
                  rw [hy]; exact hpx
              · exact hpst y (cut_mem hy)
        · simp -dsimp only [↓wpS, ↓wpE, ↓wpEs, ↓wpEs', ↓wpCs, ↓wpI, ↓callW, ↓okArgs, ↓sigOk, ↓inouts, ↓lents, ↓peeks, ↓peek, ↓pk, ↓slot, ↓setOwn, ↓setC, ↓freeze, ↓isOwn, ↓isIo, ↓slC, ↓isLst, ↓asV, ↓asS, ↓asVs, ↓asSs, ↓isT, ↓R.still, ↓setMany, ↓bindT, ↓wipeE, ↓unwipe, ↓binD, ↓intBin, ↓cmpD, ↓eqD, ↓ordD, ↓ordI, ↓startE, ↓endsOf, ↓ioOf, ↓newsOf, ↓Sl.r, ↓itemsOf, ↓slcD, ↓revD, ↓b1D, ↓b2D, ↓isNoneD, ↓noRefR, ↓noRef, ↓noRefs, ite_self, ↓isTy, ↓List.getElem?_cons_zero, ↓List.getElem?_cons_succ, ↓List.getElem?_nil, ↓Option.join_some, ↓Option.join_none, ↓Option.isSome_some, ↓Option.isSome_none, ↓List.set_cons_zero, ↓List.set_cons_succ, ↓List.replicate, ↓List.length_cons, ↓List.length_nil, ↓List.isEmpty_cons, ↓List.isEmpty_nil, ↓List.all_cons, ↓List.all_nil, ↓List.filterMap_cons, ↓List.filterMap_nil, ↓List.contains_cons, ↓List.contains_nil, ↓Bool.and_true, ↓Bool.true_and, ↓Bool.and_false, ↓Bool.false_and, ↓Bool.not_true, ↓Bool.not_false, ↓if_true, ↓sh_int, ↓sh_bool, ↓sh_none, ↓eqv_ii, ↓eqv_bb, ↓eqv_ss, ↓brn_true, ↓brn_false, brn_true, brn_false, ↓List.any_cons, ↓List.any_nil, ↓if_false, ↓ite_true, ↓ite_false, ↓true_and, ↓and_true, ↓Bool.false_eq_true, ↓reduceCtorEq, ↓decide_true, ↓decide_false, ↓List.map_cons, ↓List.map_nil, ↓Tg.slots, ↓List.nodup_cons, ↓List.nodup_nil, ↓List.not_mem_nil, ↓not_false_eq_true, ↓forall_const, ↓true_implies, ↓bI, Nat.reduceAdd, Nat.reduceSub, Nat.reduceEqDiff, Int.reduceLT, Int.reduceLE, Nat.reduceLT, Nat.reduceLeDiff, Int.reduceNeg, Nat.reduceBEq, ↓BEq.rfl, ↓beq_self_eq_true, ↓Bool.or_false, ↓Bool.or_true]
          exact next _ rfl
      · simp -dsimp only [↓wpS, ↓wpE, ↓wpEs, ↓wpEs', ↓wpCs, ↓wpI, ↓callW, ↓okArgs, ↓sigOk, ↓inouts, ↓lents, ↓peeks, ↓peek, ↓pk, ↓slot, ↓setOwn, ↓setC, ↓freeze, ↓isOwn, ↓isIo, ↓slC, ↓isLst, ↓asV, ↓asS, ↓asVs, ↓asSs, ↓isT, ↓R.still, ↓setMany, ↓bindT, ↓wipeE, ↓unwipe, ↓binD, ↓intBin, ↓cmpD, ↓eqD, ↓ordD, ↓ordI, ↓startE, ↓endsOf, ↓ioOf, ↓newsOf, ↓Sl.r, ↓itemsOf, ↓slcD, ↓revD, ↓b1D, ↓b2D, ↓isNoneD, ↓noRefR, ↓noRef, ↓noRefs, ite_self, ↓isTy, ↓List.getElem?_cons_zero, ↓List.getElem?_cons_succ, ↓List.getElem?_nil, ↓Option.join_some, ↓Option.join_none, ↓Option.isSome_some, ↓Option.isSome_none, ↓List.set_cons_zero, ↓List.set_cons_succ, ↓List.replicate, ↓List.length_cons, ↓List.length_nil, ↓List.isEmpty_cons, ↓List.isEmpty_nil, ↓List.all_cons, ↓List.all_nil, ↓List.filterMap_cons, ↓List.filterMap_nil, ↓List.contains_cons, ↓List.contains_nil, ↓Bool.and_true, ↓Bool.true_and, ↓Bool.and_false, ↓Bool.false_and, ↓Bool.not_true, ↓Bool.not_false, ↓if_true, ↓sh_int, ↓sh_bool, ↓sh_none, ↓eqv_ii, ↓eqv_bb, ↓eqv_ss, ↓brn_true, ↓brn_false, brn_true, brn_false, ↓List.any_cons, ↓List.any_nil, ↓if_false, ↓ite_true, ↓ite_false, ↓true_and, ↓and_true, ↓Bool.false_eq_true, ↓reduceCtorEq, ↓decide_true, ↓decide_false, ↓List.map_cons, ↓List.map_nil, ↓Tg.slots, ↓List.nodup_cons, ↓List.nodup_nil, ↓List.not_mem_nil, ↓not_false_eq_true, ↓forall_const, ↓true_implies, ↓bI, Nat.reduceAdd, Nat.reduceSub, Nat.reduceEqDiff, Int.reduceLT, Int.reduceLE, Nat.reduceLT, Nat.reduceLeDiff, Int.reduceNeg, Nat.reduceBEq, ↓BEq.rfl, ↓beq_self_eq_true, ↓Bool.or_false, ↓Bool.or_true]
        exact next _ rfl
    rintro e rfl
    rw [hh]
    simp -dsimp only [↓wpS, ↓wpE, ↓wpEs, ↓wpEs', ↓wpCs, ↓wpI, ↓callW, ↓okArgs, ↓sigOk, ↓inouts, ↓lents, ↓peeks, ↓peek, ↓pk, ↓slot, ↓setOwn, ↓setC, ↓freeze, ↓isOwn, ↓isIo, ↓slC, ↓isLst, ↓asV, ↓asS, ↓asVs, ↓asSs, ↓isT, ↓R.still, ↓setMany, ↓bindT, ↓wipeE, ↓unwipe, ↓binD, ↓intBin, ↓cmpD, ↓eqD, ↓ordD, ↓ordI, ↓startE, ↓endsOf, ↓ioOf, ↓newsOf, ↓Sl.r, ↓itemsOf, ↓slcD, ↓revD, ↓b1D, ↓b2D, ↓isNoneD, ↓noRefR, ↓noRef, ↓noRefs, ite_self, ↓isTy, ↓List.getElem?_cons_zero, ↓List.getElem?_cons_succ, ↓List.getElem?_nil, ↓Option.join_some, ↓Option.join_none, ↓Option.isSome_some, ↓Option.isSome_none, ↓List.set_cons_zero, ↓List.set_cons_succ, ↓List.replicate, ↓List.length_cons, ↓List.length_nil, ↓List.isEmpty_cons, ↓List.isEmpty_nil, ↓List.all_cons, ↓List.all_nil, ↓List.filterMap_cons, ↓List.filterMap_nil, ↓List.contains_cons, ↓List.contains_nil, ↓Bool.and_true, ↓Bool.true_and, ↓Bool.and_false, ↓Bool.false_and, ↓Bool.not_true, ↓Bool.not_false, ↓if_true, ↓sh_int, ↓sh_bool, ↓sh_none, ↓eqv_ii, ↓eqv_bb, ↓eqv_ss, ↓brn_true, ↓brn_false, brn_true, brn_false, ↓List.any_cons, ↓List.any_nil, ↓if_false, ↓ite_true, ↓ite_false, ↓true_and, ↓and_true, ↓Bool.false_eq_true, ↓reduceCtorEq, ↓decide_true, ↓decide_false, ↓List.map_cons, ↓List.map_nil, ↓Tg.slots, ↓List.nodup_cons, ↓List.nodup_nil, ↓List.not_mem_nil, ↓not_false_eq_true, ↓forall_const, ↓true_implies, ↓bI, Nat.reduceAdd, Nat.reduceSub, Nat.reduceEqDiff, Int.reduceLT, Int.reduceLE, Nat.reduceLT, Nat.reduceLeDiff, Int.reduceNeg, Nat.reduceBEq, ↓BEq.rfl, ↓beq_self_eq_true, ↓Bool.or_false, ↓Bool.or_true]
    refine ⟨_, rfl, ?_⟩
    rw [h2]
    refine ⟨_, pen1, _, 12, rfl, c1, by omega, by omega, by omega, by omega, gB, fun r pen5 g1 g2 g3 c5 _ => ?_⟩
    have g2' : r.d.bulk ≤ 2 * (houseD n ps).bulk + 2 := g2
    have gr : good r.d := ⟨gd_mono (Nat.le_refl _) (by omega) (by omega) g1, by omega⟩
    rcases g3 with ⟨d, rfl⟩ | ⟨l2, rfl⟩
    all_goals
      simp -dsimp only [↓wpS, ↓wpE, ↓wpEs, ↓wpEs', ↓wpCs, ↓wpI, ↓callW, ↓okArgs, ↓sigOk, ↓inouts, ↓lents, ↓peeks, ↓peek, ↓pk, ↓slot, ↓setOwn, ↓setC, ↓freeze, ↓isOwn, ↓isIo, ↓slC, ↓isLst, ↓asV, ↓asS, ↓asVs, ↓asSs, ↓isT, ↓R.still, ↓setMany, ↓bindT, ↓wipeE, ↓unwipe, ↓binD, ↓intBin, ↓cmpD, ↓eqD, ↓ordD, ↓ordI, ↓startE, ↓endsOf, ↓ioOf, ↓newsOf, ↓Sl.r, ↓itemsOf, ↓slcD, ↓revD, ↓b1D, ↓b2D, ↓isNoneD, ↓noRefR, ↓noRef, ↓noRefs, ite_self, ↓isTy, ↓List.getElem?_cons_zero, ↓List.getElem?_cons_succ, ↓List.getElem?_nil, ↓Option.join_some, ↓Option.join_none, ↓Option.isSome_some, ↓Option.isSome_none, ↓List.set_cons_zero, ↓List.set_cons_succ, ↓List.replicate, ↓List.length_cons, ↓List.length_nil, ↓List.isEmpty_cons, ↓List.isEmpty_nil, ↓List.all_cons, ↓List.all_nil, ↓List.filterMap_cons, ↓List.filterMap_nil, ↓List.contains_cons, ↓List.contains_nil, ↓Bool.and_true, ↓Bool.true_and, ↓Bool.and_false, ↓Bool.false_and, ↓Bool.not_true, ↓Bool.not_false, ↓if_true, ↓sh_int, ↓sh_bool, ↓sh_none, ↓eqv_ii, ↓eqv_bb, ↓eqv_ss, ↓brn_true, ↓brn_false, brn_true, brn_false, ↓List.any_cons, ↓List.any_nil, ↓if_false, ↓ite_true, ↓ite_false, ↓true_and, ↓and_true, ↓Bool.false_eq_true, ↓reduceCtorEq, ↓decide_true, ↓decide_false, ↓List.map_cons, ↓List.map_nil, ↓Tg.slots, ↓List.nodup_cons, ↓List.nodup_nil, ↓List.not_mem_nil, ↓not_false_eq_true, ↓forall_const, ↓true_implies, ↓bI, Nat.reduceAdd, Nat.reduceSub, Nat.reduceEqDiff, Int.reduceLT, Int.reduceLE, Nat.reduceLT, Nat.reduceLeDiff, Int.reduceNeg, Nat.reduceBEq, ↓BEq.rfl, ↓beq_self_eq_true, ↓Bool.or_false, ↓Bool.or_true]
      exact k _ pen5 gr (by first | exact .inl ⟨_, rfl⟩ | exact .inr ⟨_, rfl⟩) (c5.mono (by omega))
end Co

set_option linter.all false
namespace Co
open PySem
theorem fits_dct2 {a b : PyData} (ha : Tm 1000 10 a) (hb : Tm 1000 10 b) : fits (.dict [(.int 0, a), (.int 1, b)]) := by
  have h0 : Tm 1000 10 (.int 0) := tm_int (by decide)
  have h1 : Tm 1000 10 (.int 1) := tm_int (by decide)
  have hT : Tm 10000 12 (.dict [(.int 0, a), (.int 1, b)]) := by
    refine ⟨?_, ?_, ?_, ?_⟩
    · simp only [PyData.leavesShort, PyData.leavesShortKv, Bool.and_eq_true]
      exact ⟨⟨h0.lv, ha.lv⟩, ⟨h1.lv, hb.lv⟩, trivial⟩
    · simp only [PyData.showable, PyData.showableKv, Bool.and_eq_true]
      exact ⟨⟨h0.sh, ha.sh⟩, ⟨h1.sh, hb.sh⟩, trivial⟩
    · have := h0.bk
      have := h1.bk
      have := ha.bk
      have := hb.bk
      simp only [PyData.bulk, PyData.bulkKv] at *
      omega
    · have := h0.dp
      have := h1.dp
      have := ha.dp
      have := hb.dp
      simp only [PyData.depth, PyData.depthKv] at *
      omega
  exact hT.fits (by decide) (by decide)
def okV (v : PyData) : Prop := fits v ∧ ∀ a l l', v = .tuple [a, .tuple l] → .tuple l' ∈ l → l'.length ≤ 63
theorem okV_good {v : PyData} (h : good v) : okV v := ⟨h.fits, fun a l l' e hm => by
  subst e
  have h1 := (gd_tuple (k := 7)).mp h.1 |>.2 (.tuple l) (by simp)
  have h2 := (gd_tuple (k := 6)).mp h1 |>.2 _ hm
  have := (gd_tuple (k := 5)).mp h2 |>.1
  omega⟩
theorem law_ok (Φ : Tbl) (hopen : Φ "_law_open" = openSp) (hhouse : Φ "_law_draw_house" = drawHouseSp) (hnear : Φ "_law_near" = nearHSp)
    (hsame : Φ "_law_same" = sameSp 4) (h1 : Φ "is_house" = isHouseSp) (h2 : Φ "_law_is_house" = isHouseSp) : Impl Φ [false] 8 f_law lawSp := by
  rintro ds Q ⟨⟨ns, rfl, hns⟩, k⟩ _
  unfold f_law
  simp -dsimp only [↓wpS, ↓wpE, ↓wpEs, ↓wpEs', ↓wpCs, ↓wpI, ↓callW, ↓okArgs, ↓sigOk, ↓inouts, ↓lents, ↓peeks, ↓peek, ↓pk, ↓slot, ↓setOwn, ↓setC, ↓freeze, ↓isOwn, ↓isIo, ↓slC, ↓isLst, ↓asV, ↓asS, ↓asVs, ↓asSs, ↓isT, ↓R.still, ↓setMany, ↓bindT, ↓wipeE, ↓unwipe, ↓binD, ↓intBin, ↓cmpD, ↓eqD, ↓ordD, ↓ordI, ↓startE, ↓endsOf, ↓ioOf, ↓newsOf, ↓Sl.r, ↓itemsOf, ↓slcD, ↓revD, ↓b1D, ↓b2D, ↓isNoneD, ↓noRefR, ↓noRef, ↓noRefs, ite_self, ↓isTy, ↓List.getElem?_cons_zero, ↓List.getElem?_cons_succ, ↓List.getElem?_nil, ↓Option.join_some, ↓Option.join_none, ↓Option.isSome_some, ↓Option.isSome_none, ↓List.set_cons_zero, ↓List.set_cons_succ, ↓List.replicate, ↓List.length_cons, ↓List.length_nil, ↓List.isEmpty_cons, ↓List.isEmpty_nil, ↓List.all_cons, ↓List.all_nil, ↓List.filterMap_cons, ↓List.filterMap_nil, ↓List.contains_cons, ↓List.contains_nil, ↓Bool.and_true, ↓Bool.true_and, ↓Bool.and_false, ↓Bool.false_and, ↓Bool.not_true, ↓Bool.not_false, ↓if_true, ↓sh_int, ↓sh_bool, ↓sh_none, ↓eqv_ii, ↓eqv_bb, ↓eqv_ss, ↓brn_true, ↓brn_false, brn_true, brn_false, ↓List.any_cons, ↓List.any_nil, ↓if_false, ↓ite_true, ↓ite_false, ↓true_and, ↓and_true, ↓Bool.false_eq_true, ↓reduceCtorEq, ↓decide_true, ↓decide_false, ↓List.map_cons, ↓List.map_nil, ↓Tg.slots, ↓List.nodup_cons, ↓List.nodup_nil, ↓List.not_mem_nil, ↓not_false_eq_true, ↓forall_const, ↓true_implies, ↓bI, Nat.reduceAdd, Nat.reduceSub, Nat.reduceEqDiff, Int.reduceLT, Int.reduceLE, Nat.reduceLT, Nat.reduceLeDiff, Int.reduceNeg, Nat.reduceBEq, ↓BEq.rfl, ↓beq_self_eq_true, ↓Bool.or_false, ↓Bool.or_true]
  refine ⟨_, rfl, ?_⟩
  rw [hopen]
  refine ⟨ns, rfl, hns, fun p hp _ => ?_⟩
  simp -dsimp only [↓wpS, ↓wpE, ↓wpEs, ↓wpEs', ↓wpCs, ↓wpI, ↓callW, ↓okArgs, ↓sigOk, ↓inouts, ↓lents, ↓peeks, ↓peek, ↓pk, ↓slot, ↓setOwn, ↓setC, ↓freeze, ↓isOwn, ↓isIo, ↓slC, ↓isLst, ↓asV, ↓asS, ↓asVs, ↓asSs, ↓isT, ↓R.still, ↓setMany, ↓bindT, ↓wipeE, ↓unwipe, ↓binD, ↓intBin, ↓cmpD, ↓eqD, ↓ordD, ↓ordI, ↓startE, ↓endsOf, ↓ioOf, ↓newsOf, ↓Sl.r, ↓itemsOf, ↓slcD, ↓revD, ↓b1D, ↓b2D, ↓isNoneD, ↓noRefR, ↓noRef, ↓noRefs, ite_self, ↓isTy, ↓List.getElem?_cons_zero, ↓List.getElem?_cons_succ, ↓List.getElem?_nil, ↓Option.join_some, ↓Option.join_none, ↓Option.isSome_some, ↓Option.isSome_none, ↓List.set_cons_zero, ↓List.set_cons_succ, ↓List.replicate, ↓List.length_cons, ↓List.length_nil, ↓List.isEmpty_cons, ↓List.isEmpty_nil, ↓List.all_cons, ↓List.all_nil, ↓List.filterMap_cons, ↓List.filterMap_nil, ↓List.contains_cons, ↓List.contains_nil, ↓Bool.and_true, ↓Bool.true_and, ↓Bool.and_false, ↓Bool.false_and, ↓Bool.not_true, ↓Bool.not_false, ↓if_true, ↓sh_int, ↓sh_bool, ↓sh_none, ↓eqv_ii, ↓eqv_bb, ↓eqv_ss, ↓brn_true, ↓brn_false, brn_true, brn_false, ↓List.any_cons, ↓List.any_nil, ↓if_false, ↓ite_true, ↓ite_false, ↓true_and, ↓and_true, ↓Bool.false_eq_true, ↓reduceCtorEq, ↓decide_true, ↓decide_false, ↓List.map_cons, ↓List.map_nil, ↓Tg.slots, ↓List.nodup_cons, ↓List.nodup_nil, ↓List.not_mem_nil, ↓not_false_eq_true, ↓forall_const, ↓true_implies, ↓bI, Nat.reduceAdd, Nat.reduceSub, Nat.reduceEqDiff, Int.reduceLT, Int.reduceLE, Nat.reduceLT, Nat.reduceLeDiff, Int.reduceNeg, Nat.reduceBEq, ↓BEq.rfl, ↓beq_self_eq_true, ↓Bool.or_false, ↓Bool.or_true]
  refine ⟨by decide, by decide, for_inv (fun i e => ∃ (pen : PyData) (y2 y3 y4 y5 y6 y7 : Option Sl), e = [some (.val (.list (ns.map .int))), some (.own pen), y2, y3, y4, y5, y6, y7] ∧ Pen (10000 * i) pen)
    ⟨p, none, none, none, none, none, none, rfl, hp⟩ ?_ ?_⟩
  · rintro i x e N hx ⟨pen, y2, y3, y4, y5, y6, y7, rfl, hpen⟩ next
    obtain ⟨rfl, hi⟩ := range_some hx
    have hi4 : i < 2 := hi
    unfold f_law_b2
    refine wps_seq (fun e => ∃ (n : Nat) (ps : List (List Int)) (pen : PyData), e = [some (.val (.list (ns.map .int))), some (.own pen), some (.val (.int (0 + (i : Int)))), some (.val (houseD n ps)), y4, y5, y6, y7] ∧
      0 < n ∧ n ≤ 10 ∧ ps.length ≤ 6 ∧ (∀ l ∈ ps, asc n l) ∧ Pen (10000 * i + 1001) pen) (fun N2 next2 => ?_) ?_
    · simp -dsimp only [↓wpS, ↓wpE, ↓wpEs, ↓wpEs', ↓wpCs, ↓wpI, ↓callW, ↓okArgs, ↓sigOk, ↓inouts, ↓lents, ↓peeks, ↓peek, ↓pk, ↓slot, ↓setOwn, ↓setC, ↓freeze, ↓isOwn, ↓isIo, ↓slC, ↓isLst, ↓asV, ↓asS, ↓asVs, ↓asSs, ↓isT, ↓R.still, ↓setMany, ↓bindT, ↓wipeE, ↓unwipe, ↓binD, ↓intBin, ↓cmpD, ↓eqD, ↓ordD, ↓ordI, ↓startE, ↓endsOf, ↓ioOf, ↓newsOf, ↓Sl.r, ↓itemsOf, ↓slcD, ↓revD, ↓b1D, ↓b2D, ↓isNoneD, ↓noRefR, ↓noRef, ↓noRefs, ite_self, ↓isTy, ↓List.getElem?_cons_zero, ↓List.getElem?_cons_succ, ↓List.getElem?_nil, ↓Option.join_some, ↓Option.join_none, ↓Option.isSome_some, ↓Option.isSome_none, ↓List.set_cons_zero, ↓List.set_cons_succ, ↓List.replicate, ↓List.length_cons, ↓List.length_nil, ↓List.isEmpty_cons, ↓List.isEmpty_nil, ↓List.all_cons, ↓List.all_nil, ↓List.filterMap_cons, ↓List.filterMap_nil, ↓List.contains_cons, ↓List.contains_nil, ↓Bool.and_true, ↓Bool.true_and, ↓Bool.and_false, ↓Bool.false_and, ↓Bool.not_true, ↓Bool.not_false, ↓if_true, ↓sh_int, ↓sh_bool, ↓sh_none, ↓eqv_ii, ↓eqv_bb, ↓eqv_ss, ↓brn_true, ↓brn_false, brn_true, brn_false, ↓List.any_cons, ↓List.any_nil, ↓if_false, ↓ite_true, ↓ite_false, ↓true_and, ↓and_true, ↓Bool.false_eq_true, ↓reduceCtorEq, ↓decide_true, ↓decide_false, ↓List.map_cons, ↓List.map_nil, ↓Tg.slots, ↓List.nodup_cons, ↓List.nodup_nil, ↓List.not_mem_nil, ↓not_false_eq_true, ↓forall_const, ↓true_implies, ↓bI, Nat.reduceAdd, Nat.reduceSub, Nat.reduceEqDiff, Int.reduceLT, Int.reduceLE, Nat.reduceLT, Nat.reduceLeDiff, Int.reduceNeg, Nat.reduceBEq, ↓BEq.rfl, ↓beq_self_eq_true, ↓Bool.or_false, ↓Bool.or_true]
      refine ⟨_, rfl, ?_⟩
      rw [hhouse]
      refine ⟨_, pen, 10, 6, 3, rfl, hpen, by omega, by decide, by decide, by decide, by decide, by decide, fun n ps pen3 n0 n7 p4 hasc c3 _ => ?_⟩
      simp -dsimp only [↓wpS, ↓wpE, ↓wpEs, ↓wpEs', ↓wpCs, ↓wpI, ↓callW, ↓okArgs, ↓sigOk, ↓inouts, ↓lents, ↓peeks, ↓peek, ↓pk, ↓slot, ↓setOwn, ↓setC, ↓freeze, ↓isOwn, ↓isIo, ↓slC, ↓isLst, ↓asV, ↓asS, ↓asVs, ↓asSs, ↓isT, ↓R.still, ↓setMany, ↓bindT, ↓wipeE, ↓unwipe, ↓binD, ↓intBin, ↓cmpD, ↓eqD, ↓ordD, ↓ordI, ↓startE, ↓endsOf, ↓ioOf, ↓newsOf, ↓Sl.r, ↓itemsOf, ↓slcD, ↓revD, ↓b1D, ↓b2D, ↓isNoneD, ↓noRefR, ↓noRef, ↓noRefs, ite_self, ↓isTy, ↓List.getElem?_cons_zero, ↓List.getElem?_cons_succ, ↓List.getElem?_nil, ↓Option.join_some, ↓Option.join_none, ↓Option.isSome_some, ↓Option.isSome_none, ↓List.set_cons_zero, ↓List.set_cons_succ, ↓List.replicate, ↓List.length_cons, ↓List.length_nil, ↓List.isEmpty_cons, ↓List.isEmpty_nil, ↓List.all_cons, ↓List.all_nil, ↓List.filterMap_cons, ↓List.filterMap_nil, ↓List.contains_cons, ↓List.contains_nil, ↓Bool.and_true, ↓Bool.true_and, ↓Bool.and_false, ↓Bool.false_and, ↓Bool.not_true, ↓Bool.not_false, ↓if_true, ↓sh_int, ↓sh_bool, ↓sh_none, ↓eqv_ii, ↓eqv_bb, ↓eqv_ss, ↓brn_true, ↓brn_false, brn_true, brn_false, ↓List.any_cons, ↓List.any_nil, ↓if_false, ↓ite_true, ↓ite_false, ↓true_and, ↓and_true, ↓Bool.false_eq_true, ↓reduceCtorEq, ↓decide_true, ↓decide_false, ↓List.map_cons, ↓List.map_nil, ↓Tg.slots, ↓List.nodup_cons, ↓List.nodup_nil, ↓List.not_mem_nil, ↓not_false_eq_true, ↓forall_const, ↓true_implies, ↓bI, Nat.reduceAdd, Nat.reduceSub, Nat.reduceEqDiff, Int.reduceLT, Int.reduceLE, Nat.reduceLT, Nat.reduceLeDiff, Int.reduceNeg, Nat.reduceBEq, ↓BEq.rfl, ↓beq_self_eq_true, ↓Bool.or_false, ↓Bool.or_true]
      exact next2 _ ⟨n, ps, pen3, rfl, n0, n7, p4, hasc, c3.mono (by omega)⟩
    · rintro e ⟨n, ps, pen1, rfl, n0, n10, p6, hasc, c1⟩
      have hh : houseD n ps = .tuple [.int n, .tuple (ps.map intsD)] := rfl
      have e12 : B12 = 10 ^ 12 := rfl
      have gH : gd B12 20 3 (houseD n ps) = true := gd_house (by omega) (by omega) hasc
      have bH : (houseD n ps).bulk ≤ 68 := by
        have := bulk_house hasc
        have h4 : (n + 1) * ps.length ≤ 11 * 6 := Nat.mul_le_mul (by omega) p6
        omega
      have goodH : good (houseD n ps) := ⟨gd_mono (by decide) (by decide) (by decide) gH, by omega⟩
      have gP : gd B12 20 2 (.tuple (ps.map intsD)) = true := by
        have := (gd_tuple (k := 2)).mp gH |>.2 (.tuple (ps.map intsD)) (by simp)
        exact this
      have bP : (PyData.tuple (ps.map intsD)).bulk ≤ 68 := by
        have : (houseD n ps).bulk = 0 + 1 + ((PyData.tuple (ps.map intsD)).bulk + 1 + 0) := rfl
        omega
      have tP : Tm 1000 10 (.tuple (ps.map intsD)) := by
        have := gd_tm (by decide) gP
        exact ⟨this.lv, this.sh, by omega, by have := this.dp; omega⟩
      have fD : fits (.dict [(.int 0, .int (n : Int)), (.int 1, .tuple (ps.map intsD))]) := fits_dct2 (tm_int (by omega)) tP
      refine wps_seq (fun e => ∃ (vs : List PyData), e = [some (.val (.list (ns.map .int))), some (.own pen1), some (.val (.int (0 + (i : Int)))), some (.val (houseD n ps)), some (.own (.list vs)), y5, y6, y7] ∧ vs.length = 7 ∧ ∀ v ∈ vs, okV v) (fun N2 next2 => ?_) ?_
      · rw [hh]
        simp -dsimp only [↓wpS, ↓wpE, ↓wpEs, ↓wpEs', ↓wpCs, ↓wpI, ↓callW, ↓okArgs, ↓sigOk, ↓inouts, ↓lents, ↓peeks, ↓peek, ↓pk, ↓slot, ↓setOwn, ↓setC, ↓freeze, ↓isOwn, ↓isIo, ↓slC, ↓isLst, ↓asV, ↓asS, ↓asVs, ↓asSs, ↓isT, ↓R.still, ↓setMany, ↓bindT, ↓wipeE, ↓unwipe, ↓binD, ↓intBin, ↓cmpD, ↓eqD, ↓ordD, ↓ordI, ↓startE, ↓endsOf, ↓ioOf, ↓newsOf, ↓Sl.r, ↓itemsOf, ↓slcD, ↓revD, ↓b1D, ↓b2D, ↓isNoneD, ↓noRefR, ↓noRef, ↓noRefs, ite_self, ↓isTy, ↓List.getElem?_cons_zero, ↓List.getElem?_cons_succ, ↓List.getElem?_nil, ↓Option.join_some, ↓Option.join_none, ↓Option.isSome_some, ↓Option.isSome_none, ↓List.set_cons_zero, ↓List.set_cons_succ, ↓List.replicate, ↓List.length_cons, ↓List.length_nil, ↓List.isEmpty_cons, ↓List.isEmpty_nil, ↓List.all_cons, ↓List.all_nil, ↓List.filterMap_cons, ↓List.filterMap_nil, ↓List.contains_cons, ↓List.contains_nil, ↓Bool.and_true, ↓Bool.true_and, ↓Bool.and_false, ↓Bool.false_and, ↓Bool.not_true, ↓Bool.not_false, ↓if_true, ↓sh_int, ↓sh_bool, ↓sh_none, ↓eqv_ii, ↓eqv_bb, ↓eqv_ss, ↓brn_true, ↓brn_false, brn_true, brn_false, ↓List.any_cons, ↓List.any_nil, ↓if_false, ↓ite_true, ↓ite_false, ↓true_and, ↓and_true, ↓Bool.false_eq_true, ↓reduceCtorEq, ↓decide_true, ↓decide_false, ↓List.map_cons, ↓List.map_nil, ↓Tg.slots, ↓List.nodup_cons, ↓List.nodup_nil, ↓List.not_mem_nil, ↓not_false_eq_true, ↓forall_const, ↓true_implies, ↓bI, Nat.reduceAdd, Nat.reduceSub, Nat.reduceEqDiff, Int.reduceLT, Int.reduceLE, Nat.reduceLT, Nat.reduceLeDiff, Int.reduceNeg, Nat.reduceBEq, ↓BEq.rfl, ↓beq_self_eq_true, ↓Bool.or_false, ↓Bool.or_true]
        refine stp_nT (n := 0) rfl ?_
        simp -dsimp only [↓wpS, ↓wpE, ↓wpEs, ↓wpEs', ↓wpCs, ↓wpI, ↓callW, ↓okArgs, ↓sigOk, ↓inouts, ↓lents, ↓peeks, ↓peek, ↓pk, ↓slot, ↓setOwn, ↓setC, ↓freeze, ↓isOwn, ↓isIo, ↓slC, ↓isLst, ↓asV, ↓asS, ↓asVs, ↓asSs, ↓isT, ↓R.still, ↓setMany, ↓bindT, ↓wipeE, ↓unwipe, ↓binD, ↓intBin, ↓cmpD, ↓eqD, ↓ordD, ↓ordI, ↓startE, ↓endsOf, ↓ioOf, ↓newsOf, ↓Sl.r, ↓itemsOf, ↓slcD, ↓revD, ↓b1D, ↓b2D, ↓isNoneD, ↓noRefR, ↓noRef, ↓noRefs, ite_self, ↓isTy, ↓List.getElem?_cons_zero, ↓List.getElem?_cons_succ, ↓List.getElem?_nil, ↓Option.join_some, ↓Option.join_none, ↓Option.isSome_some, ↓Option.isSome_none, ↓List.set_cons_zero, ↓List.set_cons_succ, ↓List.replicate, ↓List.length_cons, ↓List.length_nil, ↓List.isEmpty_cons, ↓List.isEmpty_nil, ↓List.all_cons, ↓List.all_nil, ↓List.filterMap_cons, ↓List.filterMap_nil, ↓List.contains_cons, ↓List.contains_nil, ↓Bool.and_true, ↓Bool.true_and, ↓Bool.and_false, ↓Bool.false_and, ↓Bool.not_true, ↓Bool.not_false, ↓if_true, ↓sh_int, ↓sh_bool, ↓sh_none, ↓eqv_ii, ↓eqv_bb, ↓eqv_ss, ↓brn_true, ↓brn_false, brn_true, brn_false, ↓List.any_cons, ↓List.any_nil, ↓if_false, ↓ite_true, ↓ite_false, ↓true_and, ↓and_true, ↓Bool.false_eq_true, ↓reduceCtorEq, ↓decide_true, ↓decide_false, ↓List.map_cons, ↓List.map_nil, ↓Tg.slots, ↓List.nodup_cons, ↓List.nodup_nil, ↓List.not_mem_nil, ↓not_false_eq_true, ↓forall_const, ↓true_implies, ↓bI, Nat.reduceAdd, Nat.reduceSub, Nat.reduceEqDiff, Int.reduceLT, Int.reduceLE, Nat.reduceLT, Nat.reduceLeDiff, Int.reduceNeg, Nat.reduceBEq, ↓BEq.rfl, ↓beq_self_eq_true, ↓Bool.or_false, ↓Bool.or_true]
        refine stp_nT (n := 1) rfl ?_
        simp -dsimp only [↓wpS, ↓wpE, ↓wpEs, ↓wpEs', ↓wpCs, ↓wpI, ↓callW, ↓okArgs, ↓sigOk, ↓inouts, ↓lents, ↓peeks, ↓peek, ↓pk, ↓slot, ↓setOwn, ↓setC, ↓freeze, ↓isOwn, ↓isIo, ↓slC, ↓isLst, ↓asV, ↓asS, ↓asVs, ↓asSs, ↓isT, ↓R.still, ↓setMany, ↓bindT, ↓wipeE, ↓unwipe, ↓binD, ↓intBin, ↓cmpD, ↓eqD, ↓ordD, ↓ordI, ↓startE, ↓endsOf, ↓ioOf, ↓newsOf, ↓Sl.r, ↓itemsOf, ↓slcD, ↓revD, ↓b1D, ↓b2D, ↓isNoneD, ↓noRefR, ↓noRef, ↓noRefs, ite_self, ↓isTy, ↓List.getElem?_cons_zero, ↓List.getElem?_cons_succ, ↓List.getElem?_nil, ↓Option.join_some, ↓Option.join_none, ↓Option.isSome_some, ↓Option.isSome_none, ↓List.set_cons_zero, ↓List.set_cons_succ, ↓List.replicate, ↓List.length_cons, ↓List.length_nil, ↓List.isEmpty_cons, ↓List.isEmpty_nil, ↓List.all_cons, ↓List.all_nil, ↓List.filterMap_cons, ↓List.filterMap_nil, ↓List.contains_cons, ↓List.contains_nil, ↓Bool.and_true, ↓Bool.true_and, ↓Bool.and_false, ↓Bool.false_and, ↓Bool.not_true, ↓Bool.not_false, ↓if_true, ↓sh_int, ↓sh_bool, ↓sh_none, ↓eqv_ii, ↓eqv_bb, ↓eqv_ss, ↓brn_true, ↓brn_false, brn_true, brn_false, ↓List.any_cons, ↓List.any_nil, ↓if_false, ↓ite_true, ↓ite_false, ↓true_and, ↓and_true, ↓Bool.false_eq_true, ↓reduceCtorEq, ↓decide_true, ↓decide_false, ↓List.map_cons, ↓List.map_nil, ↓Tg.slots, ↓List.nodup_cons, ↓List.nodup_nil, ↓List.not_mem_nil, ↓not_false_eq_true, ↓forall_const, ↓true_implies, ↓bI, Nat.reduceAdd, Nat.reduceSub, Nat.reduceEqDiff, Int.reduceLT, Int.reduceLE, Nat.reduceLT, Nat.reduceLeDiff, Int.reduceNeg, Nat.reduceBEq, ↓BEq.rfl, ↓beq_self_eq_true, ↓Bool.or_false, ↓Bool.or_true]
        have ed : ∀ a b : PyData, putK (putK [] (.int 0) a) (.int 1) b = [(.int 0, a), (.int 1, b)] := fun a b => by simp [putK, PyData.eqv]
        refine ⟨by simp, rfl, rfl, ?_⟩
        show N2 _
        rw [ed]
        refine next2 _ ⟨_, rfl, rfl, fun v hv => ?_⟩
        simp only [List.mem_cons, List.not_mem_nil, or_false] at hv
        rcases hv with rfl | rfl | rfl | rfl | rfl | rfl | rfl
        · exact okV_good goodH
        · exact okV_good ⟨by decide +kernel, by decide +kernel⟩
        · exact okV_good ⟨by decide +kernel, by decide +kernel⟩
        · exact okV_good ⟨by decide +kernel, by decide +kernel⟩
        · exact okV_good ⟨by decide +kernel, by decide +kernel⟩
        · exact okV_good ⟨by decide +kernel, by decide +kernel⟩
        · exact ⟨fD, fun a l l' e => by cases e⟩
      · rintro e ⟨vs, rfl, hvl, hvs⟩
        refine wps_seq (fun e => ∃ (vs : List PyData), e = [some (.val (.list (ns.map .int))), some (.own pen1), some (.val (.int (0 + (i : Int)))), some (.val (houseD n ps)), some (.own (.list vs)), y5, y6, y7] ∧ vs.length = 11 ∧ ∀ v ∈ vs, okV v) (fun N2 next2 => ?_) ?_
        · simp -dsimp only [↓wpS, ↓wpE, ↓wpEs, ↓wpEs', ↓wpCs, ↓wpI, ↓callW, ↓okArgs, ↓sigOk, ↓inouts, ↓lents, ↓peeks, ↓peek, ↓pk, ↓slot, ↓setOwn, ↓setC, ↓freeze, ↓isOwn, ↓isIo, ↓slC, ↓isLst, ↓asV, ↓asS, ↓asVs, ↓asSs, ↓isT, ↓R.still, ↓setMany, ↓bindT, ↓wipeE, ↓unwipe, ↓binD, ↓intBin, ↓cmpD, ↓eqD, ↓ordD, ↓ordI, ↓startE, ↓endsOf, ↓ioOf, ↓newsOf, ↓Sl.r, ↓itemsOf, ↓slcD, ↓revD, ↓b1D, ↓b2D, ↓isNoneD, ↓noRefR, ↓noRef, ↓noRefs, ite_self, ↓isTy, ↓List.getElem?_cons_zero, ↓List.getElem?_cons_succ, ↓List.getElem?_nil, ↓Option.join_some, ↓Option.join_none, ↓Option.isSome_some, ↓Option.isSome_none, ↓List.set_cons_zero, ↓List.set_cons_succ, ↓List.replicate, ↓List.length_cons, ↓List.length_nil, ↓List.isEmpty_cons, ↓List.isEmpty_nil, ↓List.all_cons, ↓List.all_nil, ↓List.filterMap_cons, ↓List.filterMap_nil, ↓List.contains_cons, ↓List.contains_nil, ↓Bool.and_true, ↓Bool.true_and, ↓Bool.and_false, ↓Bool.false_and, ↓Bool.not_true, ↓Bool.not_false, ↓if_true, ↓sh_int, ↓sh_bool, ↓sh_none, ↓eqv_ii, ↓eqv_bb, ↓eqv_ss, ↓brn_true, ↓brn_false, brn_true, brn_false, ↓List.any_cons, ↓List.any_nil, ↓if_false, ↓ite_true, ↓ite_false, ↓true_and, ↓and_true, ↓Bool.false_eq_true, ↓reduceCtorEq, ↓decide_true, ↓decide_false, ↓List.map_cons, ↓List.map_nil, ↓Tg.slots, ↓List.nodup_cons, ↓List.nodup_nil, ↓List.not_mem_nil, ↓not_false_eq_true, ↓forall_const, ↓true_implies, ↓bI, Nat.reduceAdd, Nat.reduceSub, Nat.reduceEqDiff, Int.reduceLT, Int.reduceLE, Nat.reduceLT, Nat.reduceLeDiff, Int.reduceNeg, Nat.reduceBEq, ↓BEq.rfl, ↓beq_self_eq_true, ↓Bool.or_false, ↓Bool.or_true]
          refine ⟨by show _ ≤ 16777216; omega, next2 _ ⟨_, rfl, by simp [hvl], fun v hv => ?_⟩⟩
          rcases List.mem_append.mp hv with hv | hv
          · exact hvs v hv
          · simp only [List.mem_cons, List.not_mem_nil, or_false] at hv
            rcases hv with rfl | rfl | rfl | rfl <;> exact okV_good ⟨by decide +kernel, by decide +kernel⟩
        · rintro e ⟨vs, rfl, hvl, hvs⟩
          simp -dsimp only [↓wpS, ↓wpE, ↓wpEs, ↓wpEs', ↓wpCs, ↓wpI, ↓callW, ↓okArgs, ↓sigOk, ↓inouts, ↓lents, ↓peeks, ↓peek, ↓pk, ↓slot, ↓setOwn, ↓setC, ↓freeze, ↓isOwn, ↓isIo, ↓slC, ↓isLst, ↓asV, ↓asS, ↓asVs, ↓asSs, ↓isT, ↓R.still, ↓setMany, ↓bindT, ↓wipeE, ↓unwipe, ↓binD, ↓intBin, ↓cmpD, ↓eqD, ↓ordD, ↓ordI, ↓startE, ↓endsOf, ↓ioOf, ↓newsOf, ↓Sl.r, ↓itemsOf, ↓slcD, ↓revD, ↓b1D, ↓b2D, ↓isNoneD, ↓noRefR, ↓noRef, ↓noRefs, ite_self, ↓isTy, ↓List.getElem?_cons_zero, ↓List.getElem?_cons_succ, ↓List.getElem?_nil, ↓Option.join_some, ↓Option.join_none, ↓Option.isSome_some, ↓Option.isSome_none, ↓List.set_cons_zero, ↓List.set_cons_succ, ↓List.replicate, ↓List.length_cons, ↓List.length_nil, ↓List.isEmpty_cons, ↓List.isEmpty_nil, ↓List.all_cons, ↓List.all_nil, ↓List.filterMap_cons, ↓List.filterMap_nil, ↓List.contains_cons, ↓List.contains_nil, ↓Bool.and_true, ↓Bool.true_and, ↓Bool.and_false, ↓Bool.false_and, ↓Bool.not_true, ↓Bool.not_false, ↓if_true, ↓sh_int, ↓sh_bool, ↓sh_none, ↓eqv_ii, ↓eqv_bb, ↓eqv_ss, ↓brn_true, ↓brn_false, brn_true, brn_false, ↓List.any_cons, ↓List.any_nil, ↓if_false, ↓ite_true, ↓ite_false, ↓true_and, ↓and_true, ↓Bool.false_eq_true, ↓reduceCtorEq, ↓decide_true, ↓decide_false, ↓List.map_cons, ↓List.map_nil, ↓Tg.slots, ↓List.nodup_cons, ↓List.nodup_nil, ↓List.not_mem_nil, ↓not_false_eq_true, ↓forall_const, ↓true_implies, ↓bI, Nat.reduceAdd, Nat.reduceSub, Nat.reduceEqDiff, Int.reduceLT, Int.reduceLE, Nat.reduceLT, Nat.reduceLeDiff, Int.reduceNeg, Nat.reduceBEq, ↓BEq.rfl, ↓beq_self_eq_true, ↓Bool.or_false, ↓Bool.or_true]
          refine ⟨by decide, by decide, by rw [rangeL_length]; decide, lc_inv (fun jj acc e => ∃ (pen' : PyData) (z7 : Option Sl), e = [some (.val (.list (ns.map .int))), some (.own pen'), some (.val (.int (0 + (i : Int)))), some (.val (houseD n ps)), some (.own (.list vs)), y5, y6, z7] ∧
            acc.length = jj ∧ jj ≤ 14 ∧ (∀ v ∈ acc, okV v) ∧ Pen (10000 * i + 1001 + 100 * jj) pen') ⟨pen1, y7, rfl, rfl, Nat.zero_le _, by simp, c1⟩ ?_ ?_⟩
          · rintro jj x acc e N5 hx5 ⟨pen5, z7, rfl, hl, hjj, hacc, c5⟩ next5
            obtain ⟨_, hj5⟩ := range_some hx5
            have hj5 : jj < 14 := hj5
            unfold f_law_e1
            simp -dsimp only [↓wpS, ↓wpE, ↓wpEs, ↓wpEs', ↓wpCs, ↓wpI, ↓callW, ↓okArgs, ↓sigOk, ↓inouts, ↓lents, ↓peeks, ↓peek, ↓pk, ↓slot, ↓setOwn, ↓setC, ↓freeze, ↓isOwn, ↓isIo, ↓slC, ↓isLst, ↓asV, ↓asS, ↓asVs, ↓asSs, ↓isT, ↓R.still, ↓setMany, ↓bindT, ↓wipeE, ↓unwipe, ↓binD, ↓intBin, ↓cmpD, ↓eqD, ↓ordD, ↓ordI, ↓startE, ↓endsOf, ↓ioOf, ↓newsOf, ↓Sl.r, ↓itemsOf, ↓slcD, ↓revD, ↓b1D, ↓b2D, ↓isNoneD, ↓noRefR, ↓noRef, ↓noRefs, ite_self, ↓isTy, ↓List.getElem?_cons_zero, ↓List.getElem?_cons_succ, ↓List.getElem?_nil, ↓Option.join_some, ↓Option.join_none, ↓Option.isSome_some, ↓Option.isSome_none, ↓List.set_cons_zero, ↓List.set_cons_succ, ↓List.replicate, ↓List.length_cons, ↓List.length_nil, ↓List.isEmpty_cons, ↓List.isEmpty_nil, ↓List.all_cons, ↓List.all_nil, ↓List.filterMap_cons, ↓List.filterMap_nil, ↓List.contains_cons, ↓List.contains_nil, ↓Bool.and_true, ↓Bool.true_and, ↓Bool.and_false, ↓Bool.false_and, ↓Bool.not_true, ↓Bool.not_false, ↓if_true, ↓sh_int, ↓sh_bool, ↓sh_none, ↓eqv_ii, ↓eqv_bb, ↓eqv_ss, ↓brn_true, ↓brn_false, brn_true, brn_false, ↓List.any_cons, ↓List.any_nil, ↓if_false, ↓ite_true, ↓ite_false, ↓true_and, ↓and_true, ↓Bool.false_eq_true, ↓reduceCtorEq, ↓decide_true, ↓decide_false, ↓List.map_cons, ↓List.map_nil, ↓Tg.slots, ↓List.nodup_cons, ↓List.nodup_nil, ↓List.not_mem_nil, ↓not_false_eq_true, ↓forall_const, ↓true_implies, ↓bI, Nat.reduceAdd, Nat.reduceSub, Nat.reduceEqDiff, Int.reduceLT, Int.reduceLE, Nat.reduceLT, Nat.reduceLeDiff, Int.reduceNeg, Nat.reduceBEq, ↓BEq.rfl, ↓beq_self_eq_true, ↓Bool.or_false, ↓Bool.or_true]
            refine ⟨_, rfl, ?_⟩
            rw [hnear]
            refine ⟨_, pen5, n, ps, rfl, c5, by omega, n0, n10, p6, hasc, fun res pen6 hg6 hi6 c6 _ => ?_⟩
            have more : N5 (acc ++ [res.d]) [some (.val (.list (ns.map .int))), some (.own pen6), some (.val (.int (0 + (i : Int)))), some (.val (houseD n ps)), some (.own (.list vs)), y5, y6, some (.val x)] := next5 _ _ ⟨pen6, _, rfl, by simp [hl], by omega, fun v hv => by
              rcases List.mem_append.mp hv with hv | hv
              · exact hacc v hv
              · rw [List.mem_singleton] at hv
                rw [hv]; exact okV_good hg6, c6.mono (by omega)⟩
            rcases hi6 with ⟨d, rfl⟩ | ⟨l2, rfl⟩
            · simp -dsimp only [↓wpS, ↓wpE, ↓wpEs, ↓wpEs', ↓wpCs, ↓wpI, ↓callW, ↓okArgs, ↓sigOk, ↓inouts, ↓lents, ↓peeks, ↓peek, ↓pk, ↓slot, ↓setOwn, ↓setC, ↓freeze, ↓isOwn, ↓isIo, ↓slC, ↓isLst, ↓asV, ↓asS, ↓asVs, ↓asSs, ↓isT, ↓R.still, ↓setMany, ↓bindT, ↓wipeE, ↓unwipe, ↓binD, ↓intBin, ↓cmpD, ↓eqD, ↓ordD, ↓ordI, ↓startE, ↓endsOf, ↓ioOf, ↓newsOf, ↓Sl.r, ↓itemsOf, ↓slcD, ↓revD, ↓b1D, ↓b2D, ↓isNoneD, ↓noRefR, ↓noRef, ↓noRefs, ite_self, ↓isTy, ↓List.getElem?_cons_zero, ↓List.getElem?_cons_succ, ↓List.getElem?_nil, ↓Option.join_some, ↓Option.join_none, ↓Option.isSome_some, ↓Option.isSome_none, ↓List.set_cons_zero, ↓List.set_cons_succ, ↓List.replicate, ↓List.length_cons, ↓List.length_nil, ↓List.isEmpty_cons, ↓List.isEmpty_nil, ↓List.all_cons, ↓List.all_nil, ↓List.filterMap_cons, ↓List.filterMap_nil, ↓List.contains_cons, ↓List.contains_nil, ↓Bool.and_true, ↓Bool.true_and, ↓Bool.and_false, ↓Bool.false_and, ↓Bool.not_true, ↓Bool.not_false, ↓if_true, ↓sh_int, ↓sh_bool, ↓sh_none, ↓eqv_ii, ↓eqv_bb, ↓eqv_ss, ↓brn_true, ↓brn_false, brn_true, brn_false, ↓List.any_cons, ↓List.any_nil, ↓if_false, ↓ite_true, ↓ite_false, ↓true_and, ↓and_true, ↓Bool.false_eq_true, ↓reduceCtorEq, ↓decide_true, ↓decide_false, ↓List.map_cons, ↓List.map_nil, ↓Tg.slots, ↓List.nodup_cons, ↓List.nodup_nil, ↓List.not_mem_nil, ↓not_false_eq_true, ↓forall_const, ↓true_implies, ↓bI, Nat.reduceAdd, Nat.reduceSub, Nat.reduceEqDiff, Int.reduceLT, Int.reduceLE, Nat.reduceLT, Nat.reduceLeDiff, Int.reduceNeg, Nat.reduceBEq, ↓BEq.rfl, ↓beq_self_eq_true, ↓Bool.or_false, ↓Bool.or_true]
              exact more
            · simp -dsimp only [↓wpS, ↓wpE, ↓wpEs, ↓wpEs', ↓wpCs, ↓wpI, ↓callW, ↓okArgs, ↓sigOk, ↓inouts, ↓lents, ↓peeks, ↓peek, ↓pk, ↓slot, ↓setOwn, ↓setC, ↓freeze, ↓isOwn, ↓isIo, ↓slC, ↓isLst, ↓asV, ↓asS, ↓asVs, ↓asSs, ↓isT, ↓R.still, ↓setMany, ↓bindT, ↓wipeE, ↓unwipe, ↓binD, ↓intBin, ↓cmpD, ↓eqD, ↓ordD, ↓ordI, ↓startE, ↓endsOf, ↓ioOf, ↓newsOf, ↓Sl.r, ↓itemsOf, ↓slcD, ↓revD, ↓b1D, ↓b2D, ↓isNoneD, ↓noRefR, ↓noRef, ↓noRefs, ite_self, ↓isTy, ↓List.getElem?_cons_zero, ↓List.getElem?_cons_succ, ↓List.getElem?_nil, ↓Option.join_some, ↓Option.join_none, ↓Option.isSome_some, ↓Option.isSome_none, ↓List.set_cons_zero, ↓List.set_cons_succ, ↓List.replicate, ↓List.length_cons, ↓List.length_nil, ↓List.isEmpty_cons, ↓List.isEmpty_nil, ↓List.all_cons, ↓List.all_nil, ↓List.filterMap_cons, ↓List.filterMap_nil, ↓List.contains_cons, ↓List.contains_nil, ↓Bool.and_true, ↓Bool.true_and, ↓Bool.and_false, ↓Bool.false_and, ↓Bool.not_true, ↓Bool.not_false, ↓if_true, ↓sh_int, ↓sh_bool, ↓sh_none, ↓eqv_ii, ↓eqv_bb, ↓eqv_ss, ↓brn_true, ↓brn_false, brn_true, brn_false, ↓List.any_cons, ↓List.any_nil, ↓if_false, ↓ite_true, ↓ite_false, ↓true_and, ↓and_true, ↓Bool.false_eq_true, ↓reduceCtorEq, ↓decide_true, ↓decide_false, ↓List.map_cons, ↓List.map_nil, ↓Tg.slots, ↓List.nodup_cons, ↓List.nodup_nil, ↓List.not_mem_nil, ↓not_false_eq_true, ↓forall_const, ↓true_implies, ↓bI, Nat.reduceAdd, Nat.reduceSub, Nat.reduceEqDiff, Int.reduceLT, Int.reduceLE, Nat.reduceLT, Nat.reduceLeDiff, Int.reduceNeg, Nat.reduceBEq, ↓BEq.rfl, ↓beq_self_eq_true, ↓Bool.or_false, ↓Bool.or_true]
              exact more
          · rintro acc e ⟨pen5, z7, rfl, hl, hjj, hacc, c5⟩
            rw [rangeL_length] at hl c5
            have e14 : (14 : Int).toNat = 14 := rfl
            rw [e14] at hl c5
            simp -dsimp only [↓wpS, ↓wpE, ↓wpEs, ↓wpEs', ↓wpCs, ↓wpI, ↓callW, ↓okArgs, ↓sigOk, ↓inouts, ↓lents, ↓peeks, ↓peek, ↓pk, ↓slot, ↓setOwn, ↓setC, ↓freeze, ↓isOwn, ↓isIo, ↓slC, ↓isLst, ↓asV, ↓asS, ↓asVs, ↓asSs, ↓isT, ↓R.still, ↓setMany, ↓bindT, ↓wipeE, ↓unwipe, ↓binD, ↓intBin, ↓cmpD, ↓eqD, ↓ordD, ↓ordI, ↓startE, ↓endsOf, ↓ioOf, ↓newsOf, ↓Sl.r, ↓itemsOf, ↓slcD, ↓revD, ↓b1D, ↓b2D, ↓isNoneD, ↓noRefR, ↓noRef, ↓noRefs, ite_self, ↓isTy, ↓List.getElem?_cons_zero, ↓List.getElem?_cons_succ, ↓List.getElem?_nil, ↓Option.join_some, ↓Option.join_none, ↓Option.isSome_some, ↓Option.isSome_none, ↓List.set_cons_zero, ↓List.set_cons_succ, ↓List.replicate, ↓List.length_cons, ↓List.length_nil, ↓List.isEmpty_cons, ↓List.isEmpty_nil, ↓List.all_cons, ↓List.all_nil, ↓List.filterMap_cons, ↓List.filterMap_nil, ↓List.contains_cons, ↓List.contains_nil, ↓Bool.and_true, ↓Bool.true_and, ↓Bool.and_false, ↓Bool.false_and, ↓Bool.not_true, ↓Bool.not_false, ↓if_true, ↓sh_int, ↓sh_bool, ↓sh_none, ↓eqv_ii, ↓eqv_bb, ↓eqv_ss, ↓brn_true, ↓brn_false, brn_true, brn_false, ↓List.any_cons, ↓List.any_nil, ↓if_false, ↓ite_true, ↓ite_false, ↓true_and, ↓and_true, ↓Bool.false_eq_true, ↓reduceCtorEq, ↓decide_true, ↓decide_false, ↓List.map_cons, ↓List.map_nil, ↓Tg.slots, ↓List.nodup_cons, ↓List.nodup_nil, ↓List.not_mem_nil, ↓not_false_eq_true, ↓forall_const, ↓true_implies, ↓bI, Nat.reduceAdd, Nat.reduceSub, Nat.reduceEqDiff, Int.reduceLT, Int.reduceLE, Nat.reduceLT, Nat.reduceLeDiff, Int.reduceNeg, Nat.reduceBEq, ↓BEq.rfl, ↓beq_self_eq_true, ↓Bool.or_false, ↓Bool.or_true]
            refine ⟨by show _ ≤ 16777216; omega, for_inv (fun j e => ∃ (y5 y6 y7 : Option Sl), e = [some (.val (.list (ns.map .int))), some (.own pen5), some (.val (.int (0 + (i : Int)))), some (.val (houseD n ps)), some (.own (.list vs)), y5, y6, y7]) ⟨_, _, _, rfl⟩ ?_ ?_⟩
            · rintro j v e N6 hx6 ⟨z5, z6, z8, rfl⟩ next6
              have hv : okV v := by
                rcases List.mem_append.mp (List.mem_of_getElem? hx6) with hv | hv
                · exact hvs v hv
                · exact hacc v hv
              unfold f_law_b1
              simp -dsimp only [↓wpS, ↓wpE, ↓wpEs, ↓wpEs', ↓wpCs, ↓wpI, ↓callW, ↓okArgs, ↓sigOk, ↓inouts, ↓lents, ↓peeks, ↓peek, ↓pk, ↓slot, ↓setOwn, ↓setC, ↓freeze, ↓isOwn, ↓isIo, ↓slC, ↓isLst, ↓asV, ↓asS, ↓asVs, ↓asSs, ↓isT, ↓R.still, ↓setMany, ↓bindT, ↓wipeE, ↓unwipe, ↓binD, ↓intBin, ↓cmpD, ↓eqD, ↓ordD, ↓ordI, ↓startE, ↓endsOf, ↓ioOf, ↓newsOf, ↓Sl.r, ↓itemsOf, ↓slcD, ↓revD, ↓b1D, ↓b2D, ↓isNoneD, ↓noRefR, ↓noRef, ↓noRefs, ite_self, ↓isTy, ↓List.getElem?_cons_zero, ↓List.getElem?_cons_succ, ↓List.getElem?_nil, ↓Option.join_some, ↓Option.join_none, ↓Option.isSome_some, ↓Option.isSome_none, ↓List.set_cons_zero, ↓List.set_cons_succ, ↓List.replicate, ↓List.length_cons, ↓List.length_nil, ↓List.isEmpty_cons, ↓List.isEmpty_nil, ↓List.all_cons, ↓List.all_nil, ↓List.filterMap_cons, ↓List.filterMap_nil, ↓List.contains_cons, ↓List.contains_nil, ↓Bool.and_true, ↓Bool.true_and, ↓Bool.and_false, ↓Bool.false_and, ↓Bool.not_true, ↓Bool.not_false, ↓if_true, ↓sh_int, ↓sh_bool, ↓sh_none, ↓eqv_ii, ↓eqv_bb, ↓eqv_ss, ↓brn_true, ↓brn_false, brn_true, brn_false, ↓List.any_cons, ↓List.any_nil, ↓if_false, ↓ite_true, ↓ite_false, ↓true_and, ↓and_true, ↓Bool.false_eq_true, ↓reduceCtorEq, ↓decide_true, ↓decide_false, ↓List.map_cons, ↓List.map_nil, ↓Tg.slots, ↓List.nodup_cons, ↓List.nodup_nil, ↓List.not_mem_nil, ↓not_false_eq_true, ↓forall_const, ↓true_implies, ↓bI, Nat.reduceAdd, Nat.reduceSub, Nat.reduceEqDiff, Int.reduceLT, Int.reduceLE, Nat.reduceLT, Nat.reduceLeDiff, Int.reduceNeg, Nat.reduceBEq, ↓BEq.rfl, ↓beq_self_eq_true, ↓Bool.or_false, ↓Bool.or_true]
              refine ⟨hv.1, ?_⟩
              refine ⟨_, rfl, ?_⟩
              rw [h1]
              refine ⟨v, rfl, hv.2, fun _ => ?_⟩
              simp -dsimp only [↓wpS, ↓wpE, ↓wpEs, ↓wpEs', ↓wpCs, ↓wpI, ↓callW, ↓okArgs, ↓sigOk, ↓inouts, ↓lents, ↓peeks, ↓peek, ↓pk, ↓slot, ↓setOwn, ↓setC, ↓freeze, ↓isOwn, ↓isIo, ↓slC, ↓isLst, ↓asV, ↓asS, ↓asVs, ↓asSs, ↓isT, ↓R.still, ↓setMany, ↓bindT, ↓wipeE, ↓unwipe, ↓binD, ↓intBin, ↓cmpD, ↓eqD, ↓ordD, ↓ordI, ↓startE, ↓endsOf, ↓ioOf, ↓newsOf, ↓Sl.r, ↓itemsOf, ↓slcD, ↓revD, ↓b1D, ↓b2D, ↓isNoneD, ↓noRefR, ↓noRef, ↓noRefs, ite_self, ↓isTy, ↓List.getElem?_cons_zero, ↓List.getElem?_cons_succ, ↓List.getElem?_nil, ↓Option.join_some, ↓Option.join_none, ↓Option.isSome_some, ↓Option.isSome_none, ↓List.set_cons_zero, ↓List.set_cons_succ, ↓List.replicate, ↓List.length_cons, ↓List.length_nil, ↓List.isEmpty_cons, ↓List.isEmpty_nil, ↓List.all_cons, ↓List.all_nil, ↓List.filterMap_cons, ↓List.filterMap_nil, ↓List.contains_cons, ↓List.contains_nil, ↓Bool.and_true, ↓Bool.true_and, ↓Bool.and_false, ↓Bool.false_and, ↓Bool.not_true, ↓Bool.not_false, ↓if_true, ↓sh_int, ↓sh_bool, ↓sh_none, ↓eqv_ii, ↓eqv_bb, ↓eqv_ss, ↓brn_true, ↓brn_false, brn_true, brn_false, ↓List.any_cons, ↓List.any_nil, ↓if_false, ↓ite_true, ↓ite_false, ↓true_and, ↓and_true, ↓Bool.false_eq_true, ↓reduceCtorEq, ↓decide_true, ↓decide_false, ↓List.map_cons, ↓List.map_nil, ↓Tg.slots, ↓List.nodup_cons, ↓List.nodup_nil, ↓List.not_mem_nil, ↓not_false_eq_true, ↓forall_const, ↓true_implies, ↓bI, Nat.reduceAdd, Nat.reduceSub, Nat.reduceEqDiff, Int.reduceLT, Int.reduceLE, Nat.reduceLT, Nat.reduceLeDiff, Int.reduceNeg, Nat.reduceBEq, ↓BEq.rfl, ↓beq_self_eq_true, ↓Bool.or_false, ↓Bool.or_true]
              refine ⟨_, rfl, ?_⟩
              rw [h2]
              refine ⟨v, rfl, hv.2, fun _ => ?_⟩
              simp -dsimp only [↓wpS, ↓wpE, ↓wpEs, ↓wpEs', ↓wpCs, ↓wpI, ↓callW, ↓okArgs, ↓sigOk, ↓inouts, ↓lents, ↓peeks, ↓peek, ↓pk, ↓slot, ↓setOwn, ↓setC, ↓freeze, ↓isOwn, ↓isIo, ↓slC, ↓isLst, ↓asV, ↓asS, ↓asVs, ↓asSs, ↓isT, ↓R.still, ↓setMany, ↓bindT, ↓wipeE, ↓unwipe, ↓binD, ↓intBin, ↓cmpD, ↓eqD, ↓ordD, ↓ordI, ↓startE, ↓endsOf, ↓ioOf, ↓newsOf, ↓Sl.r, ↓itemsOf, ↓slcD, ↓revD, ↓b1D, ↓b2D, ↓isNoneD, ↓noRefR, ↓noRef, ↓noRefs, ite_self, ↓isTy, ↓List.getElem?_cons_zero, ↓List.getElem?_cons_succ, ↓List.getElem?_nil, ↓Option.join_some, ↓Option.join_none, ↓Option.isSome_some, ↓Option.isSome_none, ↓List.set_cons_zero, ↓List.set_cons_succ, ↓List.replicate, ↓List.length_cons, ↓List.length_nil, ↓List.isEmpty_cons, ↓List.isEmpty_nil, ↓List.all_cons, ↓List.all_nil, ↓List.filterMap_cons, ↓List.filterMap_nil, ↓List.contains_cons, ↓List.contains_nil, ↓Bool.and_true, ↓Bool.true_and, ↓Bool.and_false, ↓Bool.false_and, ↓Bool.not_true, ↓Bool.not_false, ↓if_true, ↓sh_int, ↓sh_bool, ↓sh_none, ↓eqv_ii, ↓eqv_bb, ↓eqv_ss, ↓brn_true, ↓brn_false, brn_true, brn_false, ↓List.any_cons, ↓List.any_nil, ↓if_false, ↓ite_true, ↓ite_false, ↓true_and, ↓and_true, ↓Bool.false_eq_true, ↓reduceCtorEq, ↓decide_true, ↓decide_false, ↓List.map_cons, ↓List.map_nil, ↓Tg.slots, ↓List.nodup_cons, ↓List.nodup_nil, ↓List.not_mem_nil, ↓not_false_eq_true, ↓forall_const, ↓true_implies, ↓bI, Nat.reduceAdd, Nat.reduceSub, Nat.reduceEqDiff, Int.reduceLT, Int.reduceLE, Nat.reduceLT, Nat.reduceLeDiff, Int.reduceNeg, Nat.reduceBEq, ↓BEq.rfl, ↓beq_self_eq_true, ↓Bool.or_false, ↓Bool.or_true]
              rw [hsame]
              refine ⟨_, rfl, ⟨_, rfl, rfl⟩, fun _ => ?_⟩
              simp -dsimp only [↓wpS, ↓wpE, ↓wpEs, ↓wpEs', ↓wpCs, ↓wpI, ↓callW, ↓okArgs, ↓sigOk, ↓inouts, ↓lents, ↓peeks, ↓peek, ↓pk, ↓slot, ↓setOwn, ↓setC, ↓freeze, ↓isOwn, ↓isIo, ↓slC, ↓isLst, ↓asV, ↓asS, ↓asVs, ↓asSs, ↓isT, ↓R.still, ↓setMany, ↓bindT, ↓wipeE, ↓unwipe, ↓binD, ↓intBin, ↓cmpD, ↓eqD, ↓ordD, ↓ordI, ↓startE, ↓endsOf, ↓ioOf, ↓newsOf, ↓Sl.r, ↓itemsOf, ↓slcD, ↓revD, ↓b1D, ↓b2D, ↓isNoneD, ↓noRefR, ↓noRef, ↓noRefs, ite_self, ↓isTy, ↓List.getElem?_cons_zero, ↓List.getElem?_cons_succ, ↓List.getElem?_nil, ↓Option.join_some, ↓Option.join_none, ↓Option.isSome_some, ↓Option.isSome_none, ↓List.set_cons_zero, ↓List.set_cons_succ, ↓List.replicate, ↓List.length_cons, ↓List.length_nil, ↓List.isEmpty_cons, ↓List.isEmpty_nil, ↓List.all_cons, ↓List.all_nil, ↓List.filterMap_cons, ↓List.filterMap_nil, ↓List.contains_cons, ↓List.contains_nil, ↓Bool.and_true, ↓Bool.true_and, ↓Bool.and_false, ↓Bool.false_and, ↓Bool.not_true, ↓Bool.not_false, ↓if_true, ↓sh_int, ↓sh_bool, ↓sh_none, ↓eqv_ii, ↓eqv_bb, ↓eqv_ss, ↓brn_true, ↓brn_false, brn_true, brn_false, ↓List.any_cons, ↓List.any_nil, ↓if_false, ↓ite_true, ↓ite_false, ↓true_and, ↓and_true, ↓Bool.false_eq_true, ↓reduceCtorEq, ↓decide_true, ↓decide_false, ↓List.map_cons, ↓List.map_nil, ↓Tg.slots, ↓List.nodup_cons, ↓List.nodup_nil, ↓List.not_mem_nil, ↓not_false_eq_true, ↓forall_const, ↓true_implies, ↓bI, Nat.reduceAdd, Nat.reduceSub, Nat.reduceEqDiff, Int.reduceLT, Int.reduceLE, Nat.reduceLT, Nat.reduceLeDiff, Int.reduceNeg, Nat.reduceBEq, ↓BEq.rfl, ↓beq_self_eq_true, ↓Bool.or_false, ↓Bool.or_true]
              refine ⟨hv.1, next6 _ ⟨_, _, _, rfl⟩⟩
            · rintro e ⟨z5, z6, z8, rfl⟩
              exact next _ ⟨pen5, _, _, _, _, _, _, rfl, c5.mono (by omega)⟩
  · rintro e ⟨pen, y2, y3, y4, y5, y6, y7, rfl, hpen⟩
    simp -dsimp only [↓wpS, ↓wpE, ↓wpEs, ↓wpEs', ↓wpCs, ↓wpI, ↓callW, ↓okArgs, ↓sigOk, ↓inouts, ↓lents, ↓peeks, ↓peek, ↓pk, ↓slot, ↓setOwn, ↓setC, ↓freeze, ↓isOwn, ↓isIo, ↓slC, ↓isLst, ↓asV, ↓asS, ↓asVs, ↓asSs, ↓isT, ↓R.still, ↓setMany, ↓bindT, ↓wipeE, ↓unwipe, ↓binD, ↓intBin, ↓cmpD, ↓eqD, ↓ordD, ↓ordI, ↓startE, ↓endsOf, ↓ioOf, ↓newsOf, ↓Sl.r, ↓itemsOf, ↓slcD, ↓revD, ↓b1D, ↓b2D, ↓isNoneD, ↓noRefR, ↓noRef, ↓noRefs, ite_self, ↓isTy, ↓List.getElem?_cons_zero, ↓List.getElem?_cons_succ, ↓List.getElem?_nil, ↓Option.join_some, ↓Option.join_none, ↓Option.isSome_some, ↓Option.isSome_none, ↓List.set_cons_zero, ↓List.set_cons_succ, ↓List.replicate, ↓List.length_cons, ↓List.length_nil, ↓List.isEmpty_cons, ↓List.isEmpty_nil, ↓List.all_cons, ↓List.all_nil, ↓List.filterMap_cons, ↓List.filterMap_nil, ↓List.contains_cons, ↓List.contains_nil, ↓Bool.and_true, ↓Bool.true_and, ↓Bool.and_false, ↓Bool.false_and, ↓Bool.not_true, ↓Bool.not_false, ↓if_true, ↓sh_int, ↓sh_bool, ↓sh_none, ↓eqv_ii, ↓eqv_bb, ↓eqv_ss, ↓brn_true, ↓brn_false, brn_true, brn_false, ↓List.any_cons, ↓List.any_nil, ↓if_false, ↓ite_true, ↓ite_false, ↓true_and, ↓and_true, ↓Bool.false_eq_true, ↓reduceCtorEq, ↓decide_true, ↓decide_false, ↓List.map_cons, ↓List.map_nil, ↓Tg.slots, ↓List.nodup_cons, ↓List.nodup_nil, ↓List.not_mem_nil, ↓not_false_eq_true, ↓forall_const, ↓true_implies, ↓bI, Nat.reduceAdd, Nat.reduceSub, Nat.reduceEqDiff, Int.reduceLT, Int.reduceLE, Nat.reduceLT, Nat.reduceLeDiff, Int.reduceNeg, Nat.reduceBEq, ↓BEq.rfl, ↓beq_self_eq_true, ↓Bool.or_false, ↓Bool.or_true]
    exact k _
end Co

namespace Co
open PySem PySem.Spec PyProof.Rows L2
def Phi (j : Nat) : Tbl := fun s => if s = "_law_open" then openSp else if s = "_law_spread" then spreadSp else if s = "_law_take" then takeSp else if s = "_law_draw_house" then drawHouseSp else if s = "_law_one_of" then oneOfSp else if s = "_law_odd" then oddSp else if s = "_law_bent" then (bentSp 4) else if s = "_law_shuffled" then shufSp else if s = "_law_near" then nearHSp else if s = "_law_same" then (sameSp 4) else if s = "is_integer" then intSp else if s = "is_within" then withinSp else if s = "is_ascending" then ascSp else if s = "is_house" then isHouseSp else if s = "_law_is_integer" then withinSp else if s = "_law_is_tuple" then ascSp else if s = "_law_is_house" then isHouseSp else fun _ _ => False
theorem Phi_law_open {j : Nat} : Phi j "_law_open" = openSp := by simp [Phi]
theorem Phi_law_spread {j : Nat} : Phi j "_law_spread" = spreadSp := by simp [Phi]
theorem Phi_law_take {j : Nat} : Phi j "_law_take" = takeSp := by simp [Phi]
theorem Phi_law_draw_house {j : Nat} : Phi j "_law_draw_house" = drawHouseSp := by simp [Phi]
theorem Phi_law_one_of {j : Nat} : Phi j "_law_one_of" = oneOfSp := by simp [Phi]
theorem Phi_law_odd {j : Nat} : Phi j "_law_odd" = oddSp := by simp [Phi]
theorem Phi_law_bent {j : Nat} : Phi j "_law_bent" = (bentSp 4) := by simp [Phi]
theorem Phi_law_shuffled {j : Nat} : Phi j "_law_shuffled" = shufSp := by simp [Phi]
theorem Phi_law_near {j : Nat} : Phi j "_law_near" = nearHSp := by simp [Phi]
theorem Phi_law_same {j : Nat} : Phi j "_law_same" = (sameSp 4) := by simp [Phi]
theorem Phi_is_integer {j : Nat} : Phi j "is_integer" = intSp := by simp [Phi]
theorem Phi_is_within {j : Nat} : Phi j "is_within" = withinSp := by simp [Phi]
theorem Phi_is_ascending {j : Nat} : Phi j "is_ascending" = ascSp := by simp [Phi]
theorem Phi_is_house {j : Nat} : Phi j "is_house" = isHouseSp := by simp [Phi]
theorem Phi_law_is_integer {j : Nat} : Phi j "_law_is_integer" = withinSp := by simp [Phi]
theorem Phi_law_is_tuple {j : Nat} : Phi j "_law_is_tuple" = ascSp := by simp [Phi]
theorem Phi_law_is_house {j : Nat} : Phi j "_law_is_house" = isHouseSp := by simp [Phi]
theorem all_mk {l : PySem.W.OpenLaw} {w : World} {K : PySem.W.Frag} {h : Heap} {mg : Str → Option Value} {fa f1 f2 f3 f4 f5 f6 f7 f8 f9 f10 f11 f12 f13 f14 f15 f16 f17 f18 : Addr} (X : K.In h) (G : h.Ns mainGlobals mg) (hfa : mg "law" = some (.ref fa))
    {od1 an1 : Option Addr} {sl1 : Array (Option Value)} {oc1 kV1 dc1 pm1 cd1 ct1 : Value} {od2 an2 : Option Addr} {sl2 : Array (Option Value)} {oc2 kV2 dc2 pm2 cd2 ct2 : Value} {od3 an3 : Option Addr} {sl3 : Array (Option Value)} {oc3 kV3 dc3 pm3 cd3 ct3 : Value} {od4 an4 : Option Addr} {sl4 : Array (Option Value)} {oc4 kV4 dc4 pm4 cd4 ct4 : Value} {od5 an5 : Option Addr} {sl5 : Array (Option Value)} {oc5 kV5 dc5 pm5 cd5 ct5 : Value} {od6 an6 : Option Addr} {sl6 : Array (Option Value)} {oc6 kV6 dc6 pm6 cd6 ct6 : Value} {od7 an7 : Option Addr} {sl7 : Array (Option Value)} {oc7 kV7 dc7 pm7 cd7 ct7 : Value} {od8 an8 : Option Addr} {sl8 : Array (Option Value)} {oc8 kV8 dc8 pm8 cd8 ct8 : Value} {od9 an9 : Option Addr} {sl9 : Array (Option Value)} {oc9 kV9 dc9 pm9 cd9 ct9 : Value} {od10 an10 : Option Addr} {sl10 : Array (Option Value)} {oc10 kV10 dc10 pm10 cd10 ct10 : Value} {od11 an11 : Option Addr} {sl11 : Array (Option Value)} {oc11 kV11 dc11 pm11 cd11 ct11 : Value} {od12 an12 : Option Addr} {sl12 : Array (Option Value)} {oc12 kV12 dc12 pm12 cd12 ct12 : Value} {od13 an13 : Option Addr} {sl13 : Array (Option Value)} {oc13 kV13 dc13 pm13 cd13 ct13 : Value} {od14 an14 : Option Addr} {sl14 : Array (Option Value)} {oc14 kV14 dc14 pm14 cd14 ct14 : Value} {od15 an15 : Option Addr} {sl15 : Array (Option Value)} {oc15 kV15 dc15 pm15 cd15 ct15 : Value} {od16 an16 : Option Addr} {sl16 : Array (Option Value)} {oc16 kV16 dc16 pm16 cd16 ct16 : Value} {od17 an17 : Option Addr} {sl17 : Array (Option Value)} {oc17 kV17 dc17 pm17 cd17 ct17 : Value} {od18 an18 : Option Addr} {sl18 : Array (Option Value)} {oc18 kV18 dc18 pm18 cd18 ct18 : Value}
    (a1 : PySem.W.nsIn K mainGlobals "_law_open" = some (some (.ref f1))) (l1 : K.lookup f1 = some ⟨oc1, od1, .func (PySem.W.fnOf "_law_open" "_law_open" (defArgs (tops 8)) (defBody (tops 8)) (defScope (tops 8)) .none kV1 dc1 pm1 an1 cd1 ct1), sl1⟩) (c1 : PySem.W.codeIn K cd1 "_law_open" = true) (k1 : PySem.W.keepIn K (.ref f1) = true)
    (a2 : PySem.W.nsIn K mainGlobals "_law_spread" = some (some (.ref f2))) (l2 : K.lookup f2 = some ⟨oc2, od2, .func (PySem.W.fnOf "_law_spread" "_law_spread" (defArgs (tops 9)) (defBody (tops 9)) (defScope (tops 9)) .none kV2 dc2 pm2 an2 cd2 ct2), sl2⟩) (c2 : PySem.W.codeIn K cd2 "_law_spread" = true) (k2 : PySem.W.keepIn K (.ref f2) = true)
    (a3 : PySem.W.nsIn K mainGlobals "_law_take" = some (some (.ref f3))) (l3 : K.lookup f3 = some ⟨oc3, od3, .func (PySem.W.fnOf "_law_take" "_law_take" (defArgs (tops 10)) (defBody (tops 10)) (defScope (tops 10)) .none kV3 dc3 pm3 an3 cd3 ct3), sl3⟩) (c3 : PySem.W.codeIn K cd3 "_law_take" = true) (k3 : PySem.W.keepIn K (.ref f3) = true)
    (a4 : PySem.W.nsIn K mainGlobals "_law_draw_house" = some (some (.ref f4))) (l4 : K.lookup f4 = some ⟨oc4, od4, .func (PySem.W.fnOf "_law_draw_house" "_law_draw_house" (defArgs (tops 16)) (defBody (tops 16)) (defScope (tops 16)) .none kV4 dc4 pm4 an4 cd4 ct4), sl4⟩) (c4 : PySem.W.codeIn K cd4 "_law_draw_house" = true) (k4 : PySem.W.keepIn K (.ref f4) = true)
    (a5 : PySem.W.nsIn K mainGlobals "_law_one_of" = some (some (.ref f5))) (l5 : K.lookup f5 = some ⟨oc5, od5, .func (PySem.W.fnOf "_law_one_of" "_law_one_of" (defArgs (tops 12)) (defBody (tops 12)) (defScope (tops 12)) .none kV5 dc5 pm5 an5 cd5 ct5), sl5⟩) (c5 : PySem.W.codeIn K cd5 "_law_one_of" = true) (k5 : PySem.W.keepIn K (.ref f5) = true)
    (a6 : PySem.W.nsIn K mainGlobals "_law_odd" = some (some (.ref f6))) (l6 : K.lookup f6 = some ⟨oc6, od6, .func (PySem.W.fnOf "_law_odd" "_law_odd" (defArgs (tops 14)) (defBody (tops 14)) (defScope (tops 14)) .none kV6 dc6 pm6 an6 cd6 ct6), sl6⟩) (c6 : PySem.W.codeIn K cd6 "_law_odd" = true) (k6 : PySem.W.keepIn K (.ref f6) = true)
    (a7 : PySem.W.nsIn K mainGlobals "_law_bent" = some (some (.ref f7))) (l7 : K.lookup f7 = some ⟨oc7, od7, .func (PySem.W.fnOf "_law_bent" "_law_bent" (defArgs (tops 15)) (defBody (tops 15)) (defScope (tops 15)) .none kV7 dc7 pm7 an7 cd7 ct7), sl7⟩) (c7 : PySem.W.codeIn K cd7 "_law_bent" = true) (k7 : PySem.W.keepIn K (.ref f7) = true)
    (a8 : PySem.W.nsIn K mainGlobals "_law_shuffled" = some (some (.ref f8))) (l8 : K.lookup f8 = some ⟨oc8, od8, .func (PySem.W.fnOf "_law_shuffled" "_law_shuffled" (defArgs (tops 20)) (defBody (tops 20)) (defScope (tops 20)) .none kV8 dc8 pm8 an8 cd8 ct8), sl8⟩) (c8 : PySem.W.codeIn K cd8 "_law_shuffled" = true) (k8 : PySem.W.keepIn K (.ref f8) = true)
    (a9 : PySem.W.nsIn K mainGlobals "_law_near" = some (some (.ref f9))) (l9 : K.lookup f9 = some ⟨oc9, od9, .func (PySem.W.fnOf "_law_near" "_law_near" (defArgs (tops 19)) (defBody (tops 19)) (defScope (tops 19)) .none kV9 dc9 pm9 an9 cd9 ct9), sl9⟩) (c9 : PySem.W.codeIn K cd9 "_law_near" = true) (k9 : PySem.W.keepIn K (.ref f9) = true)
    (a10 : PySem.W.nsIn K mainGlobals "_law_same" = some (some (.ref f10))) (l10 : K.lookup f10 = some ⟨oc10, od10, .func (PySem.W.fnOf "_law_same" "_law_same" (defArgs (tops 11)) (defBody (tops 11)) (defScope (tops 11)) .none kV10 dc10 pm10 an10 cd10 ct10), sl10⟩) (c10 : PySem.W.codeIn K cd10 "_law_same" = true) (k10 : PySem.W.keepIn K (.ref f10) = true)
    (a11 : PySem.W.nsIn K mainGlobals "is_integer" = some (some (.ref f11))) (l11 : K.lookup f11 = some ⟨oc11, od11, .func (PySem.W.fnOf "is_integer" "is_integer" (defArgs (tops 3)) (defBody (tops 3)) (defScope (tops 3)) .none kV11 dc11 pm11 an11 cd11 ct11), sl11⟩) (c11 : PySem.W.codeIn K cd11 "is_integer" = true) (k11 : PySem.W.keepIn K (.ref f11) = true)
    (a12 : PySem.W.nsIn K mainGlobals "is_within" = some (some (.ref f12))) (l12 : K.lookup f12 = some ⟨oc12, od12, .func (PySem.W.fnOf "is_within" "is_within" (defArgs (tops 4)) (defBody (tops 4)) (defScope (tops 4)) .none kV12 dc12 pm12 an12 cd12 ct12), sl12⟩) (c12 : PySem.W.codeIn K cd12 "is_within" = true) (k12 : PySem.W.keepIn K (.ref f12) = true)
    (a13 : PySem.W.nsIn K mainGlobals "is_ascending" = some (some (.ref f13))) (l13 : K.lookup f13 = some ⟨oc13, od13, .func (PySem.W.fnOf "is_ascending" "is_ascending" (defArgs (tops 5)) (defBody (tops 5)) (defScope (tops 5)) .none kV13 dc13 pm13 an13 cd13 ct13), sl13⟩) (c13 : PySem.W.codeIn K cd13 "is_ascending" = true) (k13 : PySem.W.keepIn K (.ref f13) = true)
    (a14 : PySem.W.nsIn K mainGlobals "is_house" = some (some (.ref f14))) (l14 : K.lookup f14 = some ⟨oc14, od14, .func (PySem.W.fnOf "is_house" "is_house" (defArgs (tops 6)) (defBody (tops 6)) (defScope (tops 6)) .none kV14 dc14 pm14 an14 cd14 ct14), sl14⟩) (c14 : PySem.W.codeIn K cd14 "is_house" = true) (k14 : PySem.W.keepIn K (.ref f14) = true)
    (a15 : PySem.W.nsIn K mainGlobals "_law_is_integer" = some (some (.ref f15))) (l15 : K.lookup f15 = some ⟨oc15, od15, .func (PySem.W.fnOf "_law_is_integer" "_law_is_integer" (defArgs (tops 13)) (defBody (tops 13)) (defScope (tops 13)) .none kV15 dc15 pm15 an15 cd15 ct15), sl15⟩) (c15 : PySem.W.codeIn K cd15 "_law_is_integer" = true) (k15 : PySem.W.keepIn K (.ref f15) = true)
    (a16 : PySem.W.nsIn K mainGlobals "_law_is_tuple" = some (some (.ref f16))) (l16 : K.lookup f16 = some ⟨oc16, od16, .func (PySem.W.fnOf "_law_is_tuple" "_law_is_tuple" (defArgs (tops 17)) (defBody (tops 17)) (defScope (tops 17)) .none kV16 dc16 pm16 an16 cd16 ct16), sl16⟩) (c16 : PySem.W.codeIn K cd16 "_law_is_tuple" = true) (k16 : PySem.W.keepIn K (.ref f16) = true)
    (a17 : PySem.W.nsIn K mainGlobals "_law_is_house" = some (some (.ref f17))) (l17 : K.lookup f17 = some ⟨oc17, od17, .func (PySem.W.fnOf "_law_is_house" "_law_is_house" (defArgs (tops 18)) (defBody (tops 18)) (defScope (tops 18)) .none kV17 dc17 pm17 an17 cd17 ct17), sl17⟩) (c17 : PySem.W.codeIn K cd17 "_law_is_house" = true) (k17 : PySem.W.keepIn K (.ref f17) = true)
    (a18 : PySem.W.nsIn K mainGlobals "law" = some (some (.ref f18))) (l18 : K.lookup f18 = some ⟨oc18, od18, .func (PySem.W.fnOf "law" "law" (defArgs (tops 21)) (defBody (tops 21)) (defScope (tops 21)) .none kV18 dc18 pm18 an18 cd18 ct18), sl18⟩) (c18 : PySem.W.codeIn K cd18 "law" = true) (k18 : PySem.W.keepIn K (.ref f18) = true)
    {u1 u2 : Value} (g1 : PySem.W.nsIn K mainGlobals "MOST_POSTS" = some (some u1)) (r1 : ∃ t, u1 = Value.int 6 t) (g2 : PySem.W.nsIn K mainGlobals "MOST_PEOPLE" = some (some u2)) (r2 : ∃ t, u2 = Value.int 10 t)
    (z1 : PySem.W.nsIn K mainGlobals "len" = some none) (z2 : PySem.W.nsIn K mainGlobals "repr" = some none) (z3 : PySem.W.nsIn K mainGlobals "sorted" = some none) (z4 : PySem.W.nsIn K mainGlobals "tuple" = some none) (z5 : PySem.W.nsIn K mainGlobals "list" = some none) (z6 : PySem.W.nsIn K mainGlobals "min" = some none) (z7 : PySem.W.nsIn K mainGlobals "max" = some none) (z8 : PySem.W.nsIn K mainGlobals "sum" = some none) (z9 : PySem.W.nsIn K mainGlobals "all" = some none) (z10 : PySem.W.nsIn K mainGlobals "any" = some none) (z11 : PySem.W.nsIn K mainGlobals "int" = some none) (z12 : PySem.W.nsIn K mainGlobals "isinstance" = some none) (z13 : PySem.W.nsIn K mainGlobals "range" = some none) (z14 : PySem.W.nsIn K mainGlobals "enumerate" = some none) (z15 : PySem.W.nsIn K mainGlobals "zip" = some none) (z16 : PySem.W.nsIn K mainGlobals "set" = some none) (z17 : PySem.W.nsIn K mainGlobals "bool" = some none) (z18 : PySem.W.nsIn K mainGlobals "str" = some none) (z19 : PySem.W.nsIn K mainGlobals "dict" = some none) :
    ∃ fd : FuncData, (∀ (s : Shared) (v : Value), BindsTo s fd ⟨[v], []⟩ [("script", v)]) ∧ ∀ base : Heap, K.In base → base.Ns mainGlobals mg → (∃ m, base.Ns sysModules m) → FnG l.prog w K mg base 11 fa fd ["script"] (spOf K [false] lawSp) := by
  have e := hfa.symm.trans (PySem.W.mg_of X G a18)
  cases e
  have blt : ∀ x ∈ bltNames, mg (Str.ofString x) = none := by
    intro x hx
    simp only [bltNames, List.mem_cons, List.not_mem_nil, or_false] at hx
    rcases hx with rfl | rfl | rfl | rfl | rfl | rfl | rfl | rfl | rfl | rfl | rfl | rfl | rfl | rfl | rfl | rfl | rfl | rfl | rfl
    · exact PySem.W.mg_none_of X G z1
    · exact PySem.W.mg_none_of X G z2
    · exact PySem.W.mg_none_of X G z3
    · exact PySem.W.mg_none_of X G z4
    · exact PySem.W.mg_none_of X G z5
    · exact PySem.W.mg_none_of X G z6
    · exact PySem.W.mg_none_of X G z7
    · exact PySem.W.mg_none_of X G z8
    · exact PySem.W.mg_none_of X G z9
    · exact PySem.W.mg_none_of X G z10
    · exact PySem.W.mg_none_of X G z11
    · exact PySem.W.mg_none_of X G z12
    · exact PySem.W.mg_none_of X G z13
    · exact PySem.W.mg_none_of X G z14
    · exact PySem.W.mg_none_of X G z15
    · exact PySem.W.mg_none_of X G z16
    · exact PySem.W.mg_none_of X G z17
    · exact PySem.W.mg_none_of X G z18
    · exact PySem.W.mg_none_of X G z19
  have F1 := fun_mk (st := tops 8) l1 c1 k1
  have b1 := F1.binds (ps := ["script"]) fun _ _ _ _ _ _ us hl => match us, hl with | [_], _ => rfl
  have F2 := fun_mk (st := tops 9) l2 c2 k2
  have b2 := F2.binds (ps := ["cell", "at"]) fun _ _ _ _ _ _ us hl => match us, hl with | [_, _], _ => rfl
  have F3 := fun_mk (st := tops 10) l3 c3 k3
  have b3 := F3.binds (ps := ["pen", "amount"]) fun _ _ _ _ _ _ us hl => match us, hl with | [_, _], _ => rfl
  have F4 := fun_mk (st := tops 16) l4 c4 k4
  have b4 := F4.binds (ps := ["pen", "people", "posts", "rare"]) fun _ _ _ _ _ _ us hl => match us, hl with | [_, _, _, _], _ => rfl
  have F5 := fun_mk (st := tops 12) l5 c5 k5
  have b5 := F5.binds (ps := ["pen", "some"]) fun _ _ _ _ _ _ us hl => match us, hl with | [_, _], _ => rfl
  have F6 := fun_mk (st := tops 14) l6 c6 k6
  have b6 := F6.binds (ps := ["pen"]) fun _ _ _ _ _ _ us hl => match us, hl with | [_], _ => rfl
  have F7 := fun_mk (st := tops 15) l7 c7 k7
  have b7 := F7.binds (ps := ["pen", "value"]) fun _ _ _ _ _ _ us hl => match us, hl with | [_, _], _ => rfl
  have F8 := fun_mk (st := tops 20) l8 c8 k8
  have b8 := F8.binds (ps := ["pen", "some"]) fun _ _ _ _ _ _ us hl => match us, hl with | [_, _], _ => rfl
  have F9 := fun_mk (st := tops 19) l9 c9 k9
  have b9 := F9.binds (ps := ["pen", "house"]) fun _ _ _ _ _ _ us hl => match us, hl with | [_, _], _ => rfl
  have F10 := fun_mk (st := tops 11) l10 c10 k10
  have b10 := F10.binds (ps := ["found", "due"]) fun _ _ _ _ _ _ us hl => match us, hl with | [_, _], _ => rfl
  have F11 := fun_mk (st := tops 3) l11 c11 k11
  have b11 := F11.binds (ps := ["value"]) fun _ _ _ _ _ _ us hl => match us, hl with | [_], _ => rfl
  have F12 := fun_mk (st := tops 4) l12 c12 k12
  have b12 := F12.binds (ps := ["value", "low", "high"]) fun _ _ _ _ _ _ us hl => match us, hl with | [_, _, _], _ => rfl
  have F13 := fun_mk (st := tops 5) l13 c13 k13
  have b13 := F13.binds (ps := ["value", "many"]) fun _ _ _ _ _ _ us hl => match us, hl with | [_, _], _ => rfl
  have F14 := fun_mk (st := tops 6) l14 c14 k14
  have b14 := F14.binds (ps := ["value"]) fun _ _ _ _ _ _ us hl => match us, hl with | [_], _ => rfl
  have F15 := fun_mk (st := tops 13) l15 c15 k15
  have b15 := F15.binds (ps := ["value", "low", "high"]) fun _ _ _ _ _ _ us hl => match us, hl with | [_, _, _], _ => rfl
  have F16 := fun_mk (st := tops 17) l16 c16 k16
  have b16 := F16.binds (ps := ["value", "many"]) fun _ _ _ _ _ _ us hl => match us, hl with | [_, _], _ => rfl
  have F17 := fun_mk (st := tops 18) l17 c17 k17
  have b17 := F17.binds (ps := ["value"]) fun _ _ _ _ _ _ us hl => match us, hl with | [_], _ => rfl
  have F18 := fun_mk (st := tops 21) l18 c18 k18
  have b18 := F18.binds (ps := ["script"]) fun _ _ _ _ _ _ us hl => match us, hl with | [_], _ => rfl
  refine ⟨PySem.W.fnOf "law" "law" (defArgs (tops 21)) (defBody (tops 21)) (defScope (tops 21)) .none kV18 dc18 pm18 an18 cd18 ct18, fun s v => .of_eq rfl, fun base _ _ sys => ?_⟩
  have G1 : FnG l.prog w K mg base 1 f1 _ _ (spOf K [false] openSp) := fn_ok (Φ := Phi 0) (body := f_law_open) F1 sc_law_open rfl sys blt (fun p hp => absurd hp (by simp [L_law_open])) m_law_open (open_ok _)
  have G2 : FnG l.prog w K mg base 1 f2 _ _ (spOf K [false, false] spreadSp) := fn_ok (Φ := Phi 0) (body := f_law_spread) F2 sc_law_spread rfl sys blt (fun p hp => absurd hp (by simp [L_law_spread])) m_law_spread (spread_ok _)
  have G3 : FnG l.prog w K mg base 2 f3 _ _ (spOf K [true, false] takeSp) := fn_ok (Φ := Phi 0) (body := f_law_take) F3 sc_law_take rfl sys blt (fun p hp => by
      simp only [L_law_take, List.mem_cons, List.not_mem_nil, or_false] at hp
      rcases hp with rfl
      · exact ⟨_, _, _, PySem.W.mg_of X G a2, k2, b2, by rw [Phi_law_spread]; exact G2.mono (by decide)⟩) m_law_take (take_ok _ Phi_law_spread)
  have G4 : FnG l.prog w K mg base 3 f4 _ _ (spOf K [true, false, false, false] drawHouseSp) := fn_ok (Φ := Phi 0) (body := f_law_draw_house) F4 sc_law_draw_house rfl sys blt (fun p hp => by
      simp only [L_law_draw_house, List.mem_cons, List.not_mem_nil, or_false] at hp
      rcases hp with rfl
      · exact ⟨_, _, _, PySem.W.mg_of X G a3, k3, b3, by rw [Phi_law_take]; exact G3.mono (by decide)⟩) m_law_draw_house (draw_house_ok _ Phi_law_take)
  have G5 : FnG l.prog w K mg base 3 f5 _ _ (spOf K [true, false] oneOfSp) := fn_ok (Φ := Phi 0) (body := f_law_one_of) F5 sc_law_one_of rfl sys blt (fun p hp => by
      simp only [L_law_one_of, List.mem_cons, List.not_mem_nil, or_false] at hp
      rcases hp with rfl
      · exact ⟨_, _, _, PySem.W.mg_of X G a3, k3, b3, by rw [Phi_law_take]; exact G3.mono (by decide)⟩) m_law_one_of (one_of_ok _ Phi_law_take)
  have G6 : FnG l.prog w K mg base 4 f6 _ _ (spOf K [true] oddSp) := fn_ok (Φ := Phi 0) (body := f_law_odd) F6 sc_law_odd rfl sys blt (fun p hp => by
      simp only [L_law_odd, List.mem_cons, List.not_mem_nil, or_false] at hp
      rcases hp with rfl
      · exact ⟨_, _, _, PySem.W.mg_of X G a5, k5, b5, by rw [Phi_law_one_of]; exact G5.mono (by decide)⟩) m_law_odd (odd_ok _ Phi_law_one_of)
  have Gs7 : ∀ j, FnG l.prog w K mg base (j + 5) f7 (PySem.W.fnOf "_law_bent" "_law_bent" (defArgs (tops 15)) (defBody (tops 15)) (defScope (tops 15)) .none kV7 dc7 pm7 an7 cd7 ct7) ["pen", "value"] (spOf K [true, false] (bentSp j)) := fun j => by
    induction j with
    | zero => exact fn_ok (k := 0 + 4) (Φ := fun s => if s = "_law_bent" then fun _ _ => False else Phi 0 s) (body := f_law_bent) F7 sc_law_bent rfl sys blt (fun p hp => by
        simp only [L_law_bent, List.mem_cons, List.not_mem_nil, or_false] at hp
        rcases hp with rfl | rfl | rfl | rfl
        · exact ⟨_, _, _, PySem.W.mg_of X G a5, k5, b5, by rw [if_neg (by decide), Phi_law_one_of]; exact G5.mono (by omega)⟩
        · exact ⟨_, _, _, PySem.W.mg_of X G a6, k6, b6, by rw [if_neg (by decide), Phi_law_odd]; exact G6.mono (by omega)⟩
        · exact ⟨_, _, _, PySem.W.mg_of X G a3, k3, b3, by rw [if_neg (by decide), Phi_law_take]; exact G3.mono (by omega)⟩
        · exact ⟨_, _, _, PySem.W.mg_of X G a7, k7, b7, by rw [if_pos rfl]; exact FnG.none rfl⟩) m_law_bent (bent_ok _ 0 (by rw [if_neg (by decide), Phi_law_take]) (by rw [if_neg (by decide), Phi_law_one_of]) (by rw [if_neg (by decide), Phi_law_odd]) (.inl rfl))
    | succ j ih => exact fn_ok (k := j + 1 + 4) (Φ := fun s => if s = "_law_bent" then bentSp j else Phi 0 s) (body := f_law_bent) F7 sc_law_bent rfl sys blt (fun p hp => by
        simp only [L_law_bent, List.mem_cons, List.not_mem_nil, or_false] at hp
        rcases hp with rfl | rfl | rfl | rfl
        · exact ⟨_, _, _, PySem.W.mg_of X G a5, k5, b5, by rw [if_neg (by decide), Phi_law_one_of]; exact G5.mono (by omega)⟩
        · exact ⟨_, _, _, PySem.W.mg_of X G a6, k6, b6, by rw [if_neg (by decide), Phi_law_odd]; exact G6.mono (by omega)⟩
        · exact ⟨_, _, _, PySem.W.mg_of X G a3, k3, b3, by rw [if_neg (by decide), Phi_law_take]; exact G3.mono (by omega)⟩
        · exact ⟨_, _, _, PySem.W.mg_of X G a7, k7, b7, by rw [if_pos rfl]; exact ih.mono (by omega)⟩) m_law_bent (bent_ok _ (j + 1) (by rw [if_neg (by decide), Phi_law_take]) (by rw [if_neg (by decide), Phi_law_one_of]) (by rw [if_neg (by decide), Phi_law_odd]) (.inr ⟨j, rfl, if_pos rfl⟩))
  have G7 := Gs7 4
  have G8 : FnG l.prog w K mg base 3 f8 _ _ (spOf K [true, false] shufSp) := fn_ok (Φ := Phi 0) (body := f_law_shuffled) F8 sc_law_shuffled rfl sys blt (fun p hp => by
      simp only [L_law_shuffled, List.mem_cons, List.not_mem_nil, or_false] at hp
      rcases hp with rfl
      · exact ⟨_, _, _, PySem.W.mg_of X G a3, k3, b3, by rw [Phi_law_take]; exact G3.mono (by decide)⟩) m_law_shuffled (shuffled_ok _ Phi_law_take)
  have G9 : FnG l.prog w K mg base 10 f9 _ _ (spOf K [true, false] nearHSp) := fn_ok (Φ := Phi 0) (body := f_law_near) F9 sc_law_near rfl sys blt (fun p hp => by
      simp only [L_law_near, List.mem_cons, List.not_mem_nil, or_false] at hp
      rcases hp with rfl | rfl | rfl | rfl
      · exact ⟨_, _, _, PySem.W.mg_of X G a3, k3, b3, by rw [Phi_law_take]; exact G3.mono (by decide)⟩
      · exact ⟨_, _, _, PySem.W.mg_of X G a7, k7, b7, by rw [Phi_law_bent]; exact G7.mono (by decide)⟩
      · exact ⟨_, _, _, PySem.W.mg_of X G a5, k5, b5, by rw [Phi_law_one_of]; exact G5.mono (by decide)⟩
      · exact ⟨_, _, _, PySem.W.mg_of X G a8, k8, b8, by rw [Phi_law_shuffled]; exact G8.mono (by decide)⟩) m_law_near (near_ok _ Phi_law_take Phi_law_one_of Phi_law_bent Phi_law_shuffled)
  have Gs10 : ∀ j, FnG l.prog w K mg base (j + 1) f10 (PySem.W.fnOf "_law_same" "_law_same" (defArgs (tops 11)) (defBody (tops 11)) (defScope (tops 11)) .none kV10 dc10 pm10 an10 cd10 ct10) ["found", "due"] (spOf K [false, false] (sameSp j)) := fun j => by
    induction j with
    | zero => exact fn_ok (k := 0 + 0) (Φ := fun s => if s = "_law_same" then fun _ _ => False else Phi 0 s) (body := f_law_same) F10 sc_law_same rfl sys blt (fun p hp => by
        simp only [L_law_same, List.mem_cons, List.not_mem_nil, or_false] at hp
        rcases hp with rfl
        · exact ⟨_, _, _, PySem.W.mg_of X G a10, k10, b10, by rw [if_pos rfl]; exact FnG.none rfl⟩) m_law_same (same_ok _ 0  (.inl rfl))
    | succ j ih => exact fn_ok (k := j + 1 + 0) (Φ := fun s => if s = "_law_same" then sameSp j else Phi 0 s) (body := f_law_same) F10 sc_law_same rfl sys blt (fun p hp => by
        simp only [L_law_same, List.mem_cons, List.not_mem_nil, or_false] at hp
        rcases hp with rfl
        · exact ⟨_, _, _, PySem.W.mg_of X G a10, k10, b10, by rw [if_pos rfl]; exact ih.mono (by omega)⟩) m_law_same (same_ok _ (j + 1)  (.inr ⟨j, rfl, if_pos rfl⟩))
  have G10 := Gs10 4
  have G11 : FnG l.prog w K mg base 1 f11 _ _ (spOf K [false] intSp) := fn_ok (Φ := Phi 0) (body := f_is_integer) F11 sc_is_integer rfl sys blt (fun p hp => absurd hp (by simp [L_is_integer])) m_is_integer (is_integer_ok _)
  have G12 : FnG l.prog w K mg base 2 f12 _ _ (spOf K [false, false, false] withinSp) := fn_ok (Φ := Phi 0) (body := f_is_within) F12 sc_is_within rfl sys blt (fun p hp => by
      simp only [L_is_within, List.mem_cons, List.not_mem_nil, or_false] at hp
      rcases hp with rfl
      · exact ⟨_, _, _, PySem.W.mg_of X G a11, k11, b11, by rw [Phi_is_integer]; exact G11.mono (by decide)⟩) m_is_within (is_within_ok _ Phi_is_integer)
  have G13 : FnG l.prog w K mg base 3 f13 _ _ (spOf K [false, false] ascSp) := fn_ok (Φ := Phi 0) (body := f_is_ascending) F13 sc_is_ascending rfl sys blt (fun p hp => by
      simp only [L_is_ascending, List.mem_cons, List.not_mem_nil, or_false] at hp
      rcases hp with rfl
      · exact ⟨_, _, _, PySem.W.mg_of X G a12, k12, b12, by rw [Phi_is_within]; exact G12.mono (by decide)⟩) m_is_ascending (is_ascending_ok _ Phi_is_within)
  have G14 : FnG l.prog w K mg base 4 f14 _ _ (spOf K [false] isHouseSp) := fn_okC (Φ := Phi 0) (body := f_is_house) F14 sc_is_house rfl sys blt (fun p hp hl => by
      simp only [L_is_house, List.mem_cons, List.not_mem_nil, or_false] at hp
      rcases hp with rfl | rfl | rfl | rfl
      · exact ⟨_, _, _, PySem.W.mg_of X G a12, k12, b12, by rw [Phi_is_within]; exact G12.mono (by decide)⟩
      · exact ⟨_, _, _, PySem.W.mg_of X G a13, k13, b13, by rw [Phi_is_ascending]; exact G13.mono (by decide)⟩
      · exact absurd hl (by decide)
      · exact absurd hl (by decide)) (fun p hp hl => by
      simp only [L_is_house, List.mem_cons, List.not_mem_nil, or_false] at hp
      rcases hp with rfl | rfl | rfl | rfl
      · exact absurd hl (by decide)
      · exact absurd hl (by decide)
      · obtain ⟨t, e⟩ := r1
        exact ⟨_, PySem.W.mg_of X G g1, t, e⟩
      · obtain ⟨t, e⟩ := r2
        exact ⟨_, PySem.W.mg_of X G g2, t, e⟩) m_is_house (is_house_ok _ Phi_is_within Phi_is_ascending)
  have G15 : FnG l.prog w K mg base 1 f15 _ _ (spOf K [false, false, false] withinSp) := fn_ok (Φ := Phi 0) (body := f_law_is_integer) F15 sc_law_is_integer rfl sys blt (fun p hp => absurd hp (by simp [L_law_is_integer])) m_law_is_integer (law_is_integer_ok _)
  have G16 : FnG l.prog w K mg base 2 f16 _ _ (spOf K [false, false] ascSp) := fn_ok (Φ := Phi 0) (body := f_law_is_tuple) F16 sc_law_is_tuple rfl sys blt (fun p hp => by
      simp only [L_law_is_tuple, List.mem_cons, List.not_mem_nil, or_false] at hp
      rcases hp with rfl
      · exact ⟨_, _, _, PySem.W.mg_of X G a15, k15, b15, by rw [Phi_law_is_integer]; exact G15.mono (by decide)⟩) m_law_is_tuple (law_is_tuple_ok _ Phi_law_is_integer)
  have G17 : FnG l.prog w K mg base 3 f17 _ _ (spOf K [false] isHouseSp) := fn_ok (Φ := Phi 0) (body := f_law_is_house) F17 sc_law_is_house rfl sys blt (fun p hp => by
      simp only [L_law_is_house, List.mem_cons, List.not_mem_nil, or_false] at hp
      rcases hp with rfl | rfl
      · exact ⟨_, _, _, PySem.W.mg_of X G a15, k15, b15, by rw [Phi_law_is_integer]; exact G15.mono (by decide)⟩
      · exact ⟨_, _, _, PySem.W.mg_of X G a16, k16, b16, by rw [Phi_law_is_tuple]; exact G16.mono (by decide)⟩) m_law_is_house (law_is_house_ok _ Phi_law_is_integer Phi_law_is_tuple)
  have G18 : FnG l.prog w K mg base 11 fa _ _ (spOf K [false] lawSp) := fn_ok (Φ := Phi 0) (body := f_law) F18 sc_law rfl sys blt (fun p hp => by
      simp only [L_law, List.mem_cons, List.not_mem_nil, or_false] at hp
      rcases hp with rfl | rfl | rfl | rfl | rfl | rfl
      · exact ⟨_, _, _, PySem.W.mg_of X G a1, k1, b1, by rw [Phi_law_open]; exact G1.mono (by decide)⟩
      · exact ⟨_, _, _, PySem.W.mg_of X G a4, k4, b4, by rw [Phi_law_draw_house]; exact G4.mono (by decide)⟩
      · exact ⟨_, _, _, PySem.W.mg_of X G a9, k9, b9, by rw [Phi_law_near]; exact G9.mono (by decide)⟩
      · exact ⟨_, _, _, PySem.W.mg_of X G a10, k10, b10, by rw [Phi_law_same]; exact G10.mono (by decide)⟩
      · exact ⟨_, _, _, PySem.W.mg_of X G a14, k14, b14, by rw [Phi_is_house]; exact G14.mono (by decide)⟩
      · exact ⟨_, _, _, PySem.W.mg_of X G a17, k17, b17, by rw [Phi_law_is_house]; exact G17.mono (by decide)⟩) m_law (law_ok _ Phi_law_open Phi_law_draw_house Phi_law_near Phi_law_same Phi_is_house Phi_law_is_house)
  exact G18
end Co
open PySem PySem.W PyProof.Rows in
set_option maxRecDepth 100000 in
set_option maxHeartbeats 0 in
theorem PySem.Challenge.cw_sparehands_k01_houses_recognized_holds : PySem.Challenge.rw_sparehands_k01_houses_recognized.Holds := by
  w_on; o_law; k_head; (case hw => w_witness2)
  k_fill
  refine Co.walkG (l := PySem.Challenge.rw_sparehands_k01_houses_recognized) (k := 11) (x := "script") rfl (by decide) rfl ⟨rfl, by decide, by decide⟩ (fun w h Y => PySem.W.kIn_of Y) ?F
  case F =>
    intro w mg fa h KX G hmg
    refine' Co.all_mk KX G hmg ?a1 ?l1 ?c1 ?k1 ?a2 ?l2 ?c2 ?k2 ?a3 ?l3 ?c3 ?k3 ?a4 ?l4 ?c4 ?k4 ?a5 ?l5 ?c5 ?k5 ?a6 ?l6 ?c6 ?k6 ?a7 ?l7 ?c7 ?k7 ?a8 ?l8 ?c8 ?k8 ?a9 ?l9 ?c9 ?k9 ?a10 ?l10 ?c10 ?k10 ?a11 ?l11 ?c11 ?k11 ?a12 ?l12 ?c12 ?k12 ?a13 ?l13 ?c13 ?k13 ?a14 ?l14 ?c14 ?k14 ?a15 ?l15 ?c15 ?k15 ?a16 ?l16 ?c16 ?k16 ?a17 ?l17 ?c17 ?k17 ?a18 ?l18 ?c18 ?k18 ?g1 ?r1 ?g2 ?r2 ?z1 ?z2 ?z3 ?z4 ?z5 ?z6 ?z7 ?z8 ?z9 ?z10 ?z11 ?z12 ?z13 ?z14 ?z15 ?z16 ?z17 ?z18 ?z19
    (case a1 => k_is)
    (case l1 => k_is)
    (case c1 => k_is)
    (case k1 => k_is)
    (case a2 => k_is)
    (case l2 => k_is)
    (case c2 => k_is)
    (case k2 => k_is)
    (case a3 => k_is)
    (case l3 => k_is)
    (case c3 => k_is)
    (case k3 => k_is)
    (case a4 => k_is)
    (case l4 => k_is)
    (case c4 => k_is)
    (case k4 => k_is)
    (case a5 => k_is)
    (case l5 => k_is)
    (case c5 => k_is)
    (case k5 => k_is)
    (case a6 => k_is)
    (case l6 => k_is)
    (case c6 => k_is)
    (case k6 => k_is)
    (case a7 => k_is)
    (case l7 => k_is)
    (case c7 => k_is)
    (case k7 => k_is)
    (case a8 => k_is)
    (case l8 => k_is)
    (case c8 => k_is)
    (case k8 => k_is)
    (case a9 => k_is)
    (case l9 => k_is)
    (case c9 => k_is)
    (case k9 => k_is)
    (case a10 => k_is)
    (case l10 => k_is)
    (case c10 => k_is)
    (case k10 => k_is)
    (case a11 => k_is)
    (case l11 => k_is)
    (case c11 => k_is)
    (case k11 => k_is)
    (case a12 => k_is)
    (case l12 => k_is)
    (case c12 => k_is)
    (case k12 => k_is)
    (case a13 => k_is)
    (case l13 => k_is)
    (case c13 => k_is)
    (case k13 => k_is)
    (case a14 => k_is)
    (case l14 => k_is)
    (case c14 => k_is)
    (case k14 => k_is)
    (case a15 => k_is)
    (case l15 => k_is)
    (case c15 => k_is)
    (case k15 => k_is)
    (case a16 => k_is)
    (case l16 => k_is)
    (case c16 => k_is)
    (case k16 => k_is)
    (case a17 => k_is)
    (case l17 => k_is)
    (case c17 => k_is)
    (case k17 => k_is)
    (case a18 => k_is)
    (case l18 => k_is)
    (case c18 => k_is)
    (case k18 => k_is)
    (case g1 => k_is)
    (case r1 => exact ⟨_, rfl⟩)
    (case g2 => k_is)
    (case r2 => exact ⟨_, rfl⟩)
    (case z1 => k_is)
    (case z2 => k_is)
    (case z3 => k_is)
    (case z4 => k_is)
    (case z5 => k_is)
    (case z6 => k_is)
    (case z7 => k_is)
    (case z8 => k_is)
    (case z9 => k_is)
    (case z10 => k_is)
    (case z11 => k_is)
    (case z12 => k_is)
    (case z13 => k_is)
    (case z14 => k_is)
    (case z15 => k_is)
    (case z16 => k_is)
    (case z17 => k_is)
    (case z18 => k_is)
    (case z19 => k_is)
