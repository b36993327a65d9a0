import PyProof.Rows.All
import PyProof.P3Statements
import KE.KRevIter
import KE.KDictList
import OpenK.KLine
import KE.KItem
import KE.KMinKey
import OpenK.KMore
import KE.KRevSl
import OpenK.AllK
import Wide.All
import Wide.FinOn
import PySem.Challenge.RW_uf060017_01

set_option autoImplicit false
set_option genSizeOf false
set_option genInjectivity false
set_option bootstrap.genMatcherCode false
namespace Mine
open PySem

/-- values -/
inductive V where
  | none | bool (b : Bool) | int (i : Int) | str (s : Str) | tup (vs : List V) | ref (l : Nat) | rng (lo hi : Int)

/-- objects of the store -/
inductive AO where
  | lst (vs : List V)
  | dI (es : List (Int × V))
  | dT (es : List (List Int × V))
  | inst (d : Nat)
  | att (es : List (Nat × V))
  | exc (c : Nat)
  | frz (vs : List V)
  | tab (used : Bool)

noncomputable abbrev Fra := List (Option V)
noncomputable abbrev Sto := List AO

inductive RE where
  | ok (v : V) (σ : Sto) | ex (x : Nat) (σ : Sto) | bad
inductive REs where
  | ok (vs : List V) (σ : Sto) | ex (x : Nat) (σ : Sto) | bad
inductive Fl where
  | next | brk | cont | ret (v : V)
inductive RS where
  | ok (f : Fl) (fr : Fra) (σ : Sto) | ex (x : Nat) (fr : Fra) (σ : Sto) | bad

noncomputable def RE.bind (r : RE) (k : V → Sto → RE) : RE := match r with | .ok v σ => k v σ | .ex x σ => .ex x σ | .bad => .bad
noncomputable def RE.binds (r : RE) (k : V → Sto → REs) : REs := match r with | .ok v σ => k v σ | .ex x σ => .ex x σ | .bad => .bad
noncomputable def REs.bind (r : REs) (k : List V → Sto → RE) : RE := match r with | .ok v σ => k v σ | .ex x σ => .ex x σ | .bad => .bad
noncomputable def REs.binds (r : REs) (k : List V → Sto → REs) : REs := match r with | .ok v σ => k v σ | .ex x σ => .ex x σ | .bad => .bad
noncomputable def RE.bindS (r : RE) (fr : Fra) (k : V → Sto → RS) : RS := match r with | .ok v σ => k v σ | .ex x σ => .ex x fr σ | .bad => .bad
theorem RE.bind_ok (v : V) (σ : Sto) (k) : (RE.ok v σ).bind k = k v σ := rfl
theorem RE.binds_ok (v : V) (σ : Sto) (k) : (RE.ok v σ).binds k = k v σ := rfl
theorem REs.bind_ok (v : List V) (σ : Sto) (k) : (REs.ok v σ).bind k = k v σ := rfl
theorem REs.binds_ok (v : List V) (σ : Sto) (k) : (REs.ok v σ).binds k = k v σ := rfl
theorem RE.bindS_ok (v : V) (σ : Sto) (fr) (k) : (RE.ok v σ).bindS fr k = k v σ := rfl

inductive BN where
  | len | max | min | list | tuple | all | int | range | setLen | revl
inductive MN where
  | user (f : Nat) | append | pop | clear | extend | index | get
inductive Ty where
  | int | bool | tuple | list | inst | exc (c : Nat)

inductive E where
  | none | bool (b : Bool) | int (i : Int) | str (s : Str)
  | loc (i : Nat)
  | pow (a n : Nat)
  | neg (a : E) | not (a : E)
  | and (a b : E) | or (a b : E)
  | bin (op : Operator) (a b : E)
  | cmp (op : CmpOp) (a b : E)
  | cmp2 (o1 o2 : CmpOp) (a b c : E)
  | sub (a i : E)
  | slo (a lo : E) | shi (a hi : E) | sst (a st : E)
  | attr (a : E) (x : Nat)
  | list (es : List E) | tup (es : List E)
  | dict0 | dict1 (k v : E)
  | call (f : Nat) (as : List E)
  | mk (f : Nat) (as : List E)
  | meth (a : E) (x : MN) (as : List E)
  | blt (b : BN) (as : List E)
  | maxd (a : E)
  | isi (a : E) (t : Ty)
  | join (s : Str) (a : E)
  | srt (n : E) (p : Nat) (key : E) (frm : List (Option Nat))
  | comp (tg : List Nat) (one : Bool) (it : E) (conds : List E) (elt : E) (frm : List (Option Nat))

inductive It where
  | e (a : E) | enum (a : E) | zip (a b : E)

inductive S where
  | expr (a : E)
  | ret (a : E)
  | asg (i : Nat) (a : E)
  | asgT (is : List Nat) (a : E)
  | asgA (o : E) (x : Nat) (a : E)
  | asgI (o i a : E)
  | ifS (t : E) (b o : List S)
  | whileS (t : E) (b : List S)
  | forS (tg : List Nat) (one : Bool) (it : It) (b : List S)
  | raise (c : Nat)
  | tryS (b : List S) (c : Nat) (i : Nat) (h : List S)
  | pass

/-! ### operations -/
noncomputable def getL (σ : Sto) (l : Nat) : Option (List V) := match σ[l]? with | some (.lst xs) => some xs | _ => none
noncomputable def newL (xs : List V) (σ : Sto) : RE := if xs.length ≤ 16777216 then .ok (.ref σ.length) (σ ++ [.lst xs]) else .bad
noncomputable def ofOpt (σ : Sto) (o : Option V) : RE := match o with | some v => .ok v σ | none => .bad
noncomputable def ofOptB (σ : Sto) (o : Option Bool) : RE := match o with | some v => .ok (.bool v) σ | none => .bad

noncomputable abbrev mulOk (a b : Int) : Prop := a.natAbs < 2 ^ 64 ∨ b.natAbs < 2 ^ 64 ∨ (a.natAbs < 10 ^ 100 ∧ b.natAbs < 10 ^ 100)

noncomputable def wII (a b : V) (f : Int → Int → RE) : RE := match a with
  | .int x => (match b with | .int y => f x y | _ => .bad)
  | _ => .bad
noncomputable def addV (a b : V) (σ : Sto) : RE := match a with
  | .int x => (match b with | .int y => .ok (.int (x + y)) σ | _ => .bad)
  | .ref l => (match b with
    | .ref k => (match getL σ l with
      | some xs => (match getL σ k with | some ys => newL (xs ++ ys) σ | none => .bad)
      | none => .bad)
    | _ => .bad)
  | .str x => (match b with | .str y => if x.length + y.length ≤ 1000 then .ok (.str (x ++ y)) σ else .bad | _ => .bad)
  | _ => .bad
noncomputable def repN (o : Option (List V)) (n : Int) (σ : Sto) : RE := match o with
  | some [x] => if -1000000 ≤ n then newL (List.replicate n.toNat x) σ else .bad
  | _ => .bad
noncomputable def mulV (a b : V) (σ : Sto) : RE := match b with
  | .int n => (match a with
    | .int x => if mulOk x n then .ok (.int (x * n)) σ else .bad
    | .ref l => repN (getL σ l) n σ
    | _ => .bad)
  | _ => .bad
noncomputable def binV (op : Operator) (a b : V) (σ : Sto) : RE := match op with
  | .Add => addV a b σ
  | .Sub => wII a b fun x y => .ok (.int (x - y)) σ
  | .Mult => mulV a b σ
  | .FloorDiv => wII a b fun x y => if y ≠ 0 ∧ y.natAbs < 10 ^ 100 then .ok (.int (x.fdiv y)) σ else .bad
  | .Mod => wII a b fun x y => if y = 0 then .bad else .ok (.int (x.fmod y)) σ
  | _ => .bad

noncomputable def mapO {α β : Type} (f : α → Option β) : List α → Option (List β)
  | [] => some []
  | x :: xs => match f x, mapO f xs with | some y, some ys => some (y :: ys) | _, _ => none

noncomputable def intOf : V → Option Int | .int i => some i | _ => none
noncomputable def intsOf (xs : List V) : Option (List Int) := mapO intOf xs

noncomputable def toD : Nat → Sto → V → Option PyData
  | _, _, .none => some .none
  | _, _, .bool b => some (.bool b)
  | _, _, .int i => some (.int i)
  | _, _, .str s => if PyData.strOk s then some (.str s) else none
  | n + 1, σ, .tup vs => (mapO (toD n σ) vs).map .tuple
  | n + 1, σ, .ref l => match getL σ l with | some vs => (mapO (toD n σ) vs).map .list | none => none
  | _, _, _ => none

noncomputable def eqV (σ : Sto) (a b : V) : Option Bool := match toD 4 σ a, toD 4 σ b with | some x, some y => some (PyData.eqv x y) | _, _ => none

noncomputable def isNone : V → Bool | .none => true | _ => false

noncomputable def inV (σ : Sto) (x c : V) : Option Bool := match c with
  | .ref l => (match σ[l]?, x with
    | some (.lst vs), .int i => (intsOf vs).map fun is => decide (i ∈ is)
    | some (.dI es), .int i => some (es.any fun e => e.1 == i)
    | some (.dT es), .tup ks => (intsOf ks).map fun k => es.any fun e => e.1 == k
    | _, _ => none)
  | _ => none

noncomputable def notInV (σ : Sto) (x c : V) : Option Bool := match c with
  | .ref l => (match σ[l]?, x with
    | some (.lst vs), .int i => (intsOf vs).map fun is => !decide (i ∈ is)
    | some (.dI es), .int i => some (!es.any fun e => e.1 == i)
    | _, _ => none)
  | _ => none

noncomputable def cmpV (op : CmpOp) (a b : V) (σ : Sto) : Option Bool :=
  match op with
  | .Lt => (match a, b with | .int x, .int y => some (decide (x < y)) | _, _ => none)
  | .LtE => (match a, b with | .int x, .int y => some (decide (x ≤ y)) | _, _ => none)
  | .Gt => (match a, b with | .int x, .int y => some (decide (y < x)) | _, _ => none)
  | .GtE => (match a, b with | .int x, .int y => some (decide (y ≤ x)) | _, _ => none)
  | .Eq => (match a, b with | .int x, .int y => some (x == y) | _, _ => eqV σ a b)
  | .NotEq => (match a, b with | .int x, .int y => some (x != y) | _, _ => (eqV σ a b).map (!·))
  | .Is => (match b with | .none => some (isNone a) | _ => none)
  | .IsNot => (match b with | .none => some (!isNone a) | _ => none)
  | .In => inV σ a b
  | .NotIn => notInV σ a b

noncomputable def idxV (xs : List V) (k : Int) : Option V :=
  if 0 ≤ k then xs[k.toNat]? else if -(xs.length : Int) ≤ k then xs[(k + xs.length).toNat]? else none

noncomputable def subV (a i : V) (σ : Sto) : Option V := match a, i with
  | .tup vs, .int k => idxV vs k
  | .ref l, .int k => (match σ[l]? with
    | some (.lst vs) => idxV vs k
    | some (.frz vs) => idxV vs k
    | some (.dI es) => es.lookup k
    | _ => none)
  | .ref l, .tup ks => (match σ[l]?, intsOf ks with
    | some (.dT es), some k => es.lookup k
    | _, _ => none)
  | _, _ => none

noncomputable def lenV (a : V) (σ : Sto) : Option Int := match a with
  | .tup vs => some vs.length
  | .ref l => (match σ[l]? with | some (.lst vs) => some vs.length | some (.frz vs) => some vs.length | some (.dI es) => some es.length | _ => none)
  | _ => none

noncomputable def isiV (t : Ty) (a : V) (σ : Sto) : Option Bool := match t with
  | .int => (match a with | .int _ => some true | .bool _ => some true | .str _ => some false | .tup _ => some false | .ref l => (match σ[l]? with | some (.lst _) => some false | _ => none) | _ => none)
  | .bool => (match a with | .int _ => some false | .bool _ => some true | .str _ => some false | .tup _ => some false | .ref l => (match σ[l]? with | some (.lst _) => some false | _ => none) | _ => none)
  | .tuple => (match a with | .int _ => some false | .bool _ => some false | .str _ => some false | .tup _ => some true | .ref l => (match σ[l]? with | some (.lst _) => some false | _ => none) | _ => none)
  | .list => (match a with | .int _ => some false | .bool _ => some false | .str _ => some false | .tup _ => some false | .ref l => (match σ[l]? with | some (.lst _) => some true | _ => none) | _ => none)
  | .inst => (match a with | .ref l => (match σ[l]? with | some (.inst _) => some true | _ => none) | _ => none)
  | .exc _ => none

noncomputable def maxL : List Int → Option Int
  | [] => none
  | x :: xs => some (xs.foldl (fun a b => if a < b then b else a) x)
noncomputable def minL : List Int → Option Int
  | [] => none
  | x :: xs => some (xs.foldl (fun a b => if b < a then b else a) x)

noncomputable def rngL (lo hi : Int) : List V := (List.range (hi - lo).toNat).map fun (k : Nat) => V.int (lo + (k : Int))

noncomputable def allB : List V → Option Bool
  | [] => some true
  | .bool b :: r => (match allB r with | some c => some (b && c) | none => none)
  | _ => none

/-- each once, in the order of first coming -/
noncomputable def dedup (is : List Int) : List Int := is.foldl (fun acc v => if acc.any (· == v) then acc else acc ++ [v]) []

noncomputable def bLen (as : List V) (σ : Sto) : RE := match as with
  | [a] => ofOpt σ ((lenV a σ).map V.int)
  | _ => .bad
noncomputable def bInts (f : List Int → Option Int) (as : List V) (σ : Sto) : RE := match as with
  | [.ref l] => ofOpt σ ((((getL σ l).bind intsOf).bind f).map V.int)
  | _ => .bad
noncomputable def bMax (as : List V) (σ : Sto) : RE := match as with
  | [a, b] => (match a with
    | .int x => (match b with | .int y => .ok (.int (if x < y then y else x)) σ | _ => .bad)
    | _ => .bad)
  | _ => bInts maxL as σ
noncomputable def bList (as : List V) (σ : Sto) : RE := match as with
  | [a] => (match a with
    | .ref l => (match getL σ l with | some xs => newL xs σ | none => .bad)
    | .rng lo hi => newL (rngL lo hi) σ
    | _ => .bad)
  | _ => .bad
noncomputable def bTuple (as : List V) (σ : Sto) : RE := match as with
  | [a] => (match a with
    | .ref l => (match getL σ l with | some xs => .ok (.tup xs) σ | none => .bad)
    | _ => .bad)
  | _ => .bad
noncomputable def bAll (as : List V) (σ : Sto) : RE := match as with
  | [a] => (match a with
    | .ref l => ofOpt σ (((getL σ l).bind allB).map V.bool)
    | _ => .bad)
  | _ => .bad
noncomputable def bInt (as : List V) (σ : Sto) : RE := match as with
  | [a] => (match a with | .bool b => .ok (.int (if b then 1 else 0)) σ | _ => .bad)
  | _ => .bad
noncomputable def rngV (a b : Int) (σ : Sto) : RE := if -1000000 ≤ a ∧ a ≤ 1000000 ∧ -1000000 ≤ b ∧ b ≤ 1000000 then .ok (.rng a b) σ else .bad
noncomputable def bRange (as : List V) (σ : Sto) : RE := match as with
  | [a] => (match a with | .int n => rngV 0 n σ | _ => .bad)
  | [a, b] => (match a with | .int x => (match b with | .int y => rngV x y σ | _ => .bad) | _ => .bad)
  | _ => .bad
noncomputable def bSet (as : List V) (σ : Sto) : RE := match as with
  | [a] => (match a with
    | .ref l => (match (getL σ l).bind intsOf with | some is => if is.length ≤ 1000 then .ok (.int (dedup is).length) σ else .bad | none => .bad)
    | _ => .bad)
  | _ => .bad
noncomputable def bRev (as : List V) (σ : Sto) : RE := match as with
  | [a] => (match a with
    | .ref l => (match getL σ l with | some xs => newL xs.reverse σ | none => .bad)
    | _ => .bad)
  | _ => .bad
noncomputable def bltV (b : BN) (as : List V) (σ : Sto) : RE := match b with
  | .len => bLen as σ
  | .max => bMax as σ
  | .min => bInts minL as σ
  | .list => bList as σ
  | .tuple => bTuple as σ
  | .all => bAll as σ
  | .int => bInt as σ
  | .range => bRange as σ
  | .setLen => bSet as σ
  | .revl => bRev as σ

noncomputable def setL (σ : Sto) (l : Nat) (xs : List V) : Sto := σ.set l (.lst xs)

noncomputable def putI (k : Int) (v : V) : List (Int × V) → List (Int × V)
  | [] => [(k, v)]
  | e :: r => if e.1 == k then (e.1, v) :: r else e :: putI k v r
noncomputable def putT (k : List Int) (v : V) : List (List Int × V) → List (List Int × V)
  | [] => [(k, v)]
  | e :: r => if e.1 == k then (e.1, v) :: r else e :: putT k v r

noncomputable def methV (x : MN) (a : V) (as : List V) (σ : Sto) : RE := match a with
  | .ref l => (match x, σ[l]?, as with
    | .append, some (.lst xs), [v] => if xs.length < 16777216 then .ok .none (setL σ l (xs ++ [v])) else .bad
    | .pop, some (.lst xs), [] => (match xs.getLast? with | some v => .ok v (setL σ l xs.dropLast) | none => .bad)
    | .clear, some (.lst _), [] => .ok .none (setL σ l [])
    | .extend, some (.lst xs), [.ref k] => (match getL σ k with | some ys => if xs.length + ys.length ≤ 16777216 ∧ k ≠ l then .ok .none (setL σ l (xs ++ ys)) else .bad | none => .bad)
    | .index, some (.lst xs), [.int i] => (match intsOf xs with | some is => if i ∈ is ∧ is.length ≤ 1000 ∧ (∀ j ∈ is, j.natAbs < 1024) then .ok (.int (is.idxOf i)) σ else .bad | none => .bad)
    | .get, some (.dI es), [.int k, d] => .ok ((es.lookup k).getD d) σ
    | _, _, _ => .bad)
  | _ => .bad

/-- what is looked at before a method's arguments -/
noncomputable def methPre (x : MN) (a : V) (σ : Sto) : Bool := match a with
  | .ref l => (match x, σ[l]? with
    | .user _, some (.inst d) => (match σ[d]? with | some (.att _) => true | _ => false)
    | .user _, _ => false
    | .get, some (.dI _) => true
    | .get, _ => false
    | _, some (.lst _) => true
    | _, _ => false)
  | _ => false

noncomputable def setIdx (a i v : V) (σ : Sto) : Option Sto := match a, i with
  | .ref l, .int k => (match σ[l]? with
    | some (.lst xs) => if 0 ≤ k ∧ k < xs.length then some (setL σ l (xs.set k.toNat v)) else none
    | some (.dI es) => if es.length < 1000000 then some (σ.set l (.dI (putI k v es))) else none
    | _ => none)
  | .ref l, .tup ks => (match σ[l]?, intsOf ks with
    | some (.dT es), some k => if es.length < 1000000 then some (σ.set l (.dT (putT k v es))) else none
    | _, _ => none)
  | _, _ => none

noncomputable def putA (k : Nat) (v : V) : List (Nat × V) → List (Nat × V)
  | [] => [(k, v)]
  | e :: r => if e.1 == k then (e.1, v) :: r else e :: putA k v r

noncomputable def attrV (a : V) (x : Nat) (σ : Sto) : Option V := match a with
  | .ref l => (match σ[l]? with
    | some (.inst d) => (match σ[d]? with | some (.att es) => es.lookup x | _ => none)
    | _ => none)
  | _ => none
noncomputable def setAttrV (a : V) (x : Nat) (v : V) (σ : Sto) : Option Sto := match a with
  | .ref l => (match σ[l]? with
    | some (.inst d) => (match σ[d]? with | some (.att es) => if es.length < 100 then some (σ.set d (.att (putA x v es))) else none | _ => none)
    | _ => none)
  | _ => none

/-- putting a value into a frame by a target -/
noncomputable def bindT (tg : List Nat) (one : Bool) (v : V) (fr : Fra) : Option Fra :=
  if one then (match tg with | [i] => if i < fr.length then some (fr.set i (some v)) else none | _ => none)
  else match v with
    | .tup vs => if vs.length = tg.length ∧ tg.all (· < fr.length) then some ((tg.zip vs).foldl (fun f p => f.set p.1 (some p.2)) fr) else none
    | _ => none

noncomputable def subFr (fr : Fra) (frm : List (Option Nat)) : Fra := frm.map fun o => match o with | some j => (fr[j]?).join | none => none

noncomputable def insK (p : Int × V) : List (Int × V) → List (Int × V)
  | [] => [p]
  | q :: r => if p.1 < q.1 then p :: q :: r else q :: insK p r
noncomputable def sortK (ps : List (Int × V)) : List (Int × V) := ps.foldl (fun acc p => insK p acc) []

section
variable (call : Nat → List V → Sto → RE)

noncomputable def keysL (f : V → Sto → RE) : List V → Sto → List (Int × V) → Option (List (Int × V) × Sto)
  | [], σ, acc => some (acc, σ)
  | v :: vs, σ, acc => match f v σ with
    | .ok (.int k) σ' => keysL f vs σ' (acc ++ [(k, v)])
    | _ => none

noncomputable def testL (ts : List (Fra → Sto → RE)) (fr : Fra) (σ : Sto) : RE := match ts with
  | [] => .ok (.bool true) σ
  | t :: r => (t fr σ).bind fun v σ => match v with | .bool true => testL r fr σ | .bool false => .ok (.bool false) σ | _ => .bad

/-- a comprehension over the items of a store list, live, or over a fixed list of values -/
noncomputable def compF (tg : List Nat) (one : Bool) (cond elt : Fra → Sto → RE) (v : V) (fr : Fra) (σ : Sto) (acc : List V) : Option (Fra × List V × Sto) ⊕ (Nat × Sto) :=
  match bindT tg one v fr with
  | none => .inl none
  | some fr => match cond fr σ with
    | .ok (.bool true) σ => (match elt fr σ with
      | .ok y σ => .inl (some (fr, acc ++ [y], σ))
      | .ex x σ => .inr (x, σ)
      | .bad => .inl none)
    | .ok (.bool false) σ => .inl (some (fr, acc, σ))
    | .ex x σ => .inr (x, σ)
    | _ => .inl none

noncomputable def compV (tg : List Nat) (one : Bool) (cond elt : Fra → Sto → RE) : List V → Fra → Sto → List V → REs
  | [], _, σ, acc => .ok acc σ
  | v :: vs, fr, σ, acc => match compF tg one cond elt v fr σ acc with
    | .inl (some (fr, acc, σ)) => compV tg one cond elt vs fr σ acc
    | .inl none => .bad
    | .inr (x, σ) => .ex x σ

noncomputable def compL (tg : List Nat) (one : Bool) (cond elt : Fra → Sto → RE) (l : Nat) : Nat → Nat → Fra → Sto → List V → REs
  | 0, _, _, _, _ => .bad
  | n + 1, i, fr, σ, acc => match getL σ l with
    | none => .bad
    | some xs => match xs[i]? with
      | none => .ok acc σ
      | some v => match compF tg one cond elt v fr σ acc with
        | .inl (some (fr, acc, σ)) => compL tg one cond elt l n (i + 1) fr σ acc
        | .inl none => .bad
        | .inr (x, σ) => .ex x σ

mutual
noncomputable def evE : E → Fra → Sto → RE
  | .none => fun _ σ => .ok .none σ
  | .bool b => fun _ σ => .ok (.bool b) σ
  | .int i => fun _ σ => .ok (.int i) σ
  | .str s => fun _ σ => .ok (.str s) σ
  | .loc i => fun fr σ => match fr[i]? with | some (some v) => .ok v σ | _ => .bad
  | .pow a n => fun _ σ => .ok (.int ((a : Int) ^ n)) σ
  | .neg a => fun fr σ => (evE a fr σ).bind fun v σ => match v with | .int i => .ok (.int (-i)) σ | _ => .bad
  | .not a => fun fr σ => (evE a fr σ).bind fun v σ => match v with | .bool b => .ok (.bool (!b)) σ | _ => .bad
  | .and a b => fun fr σ => (evE a fr σ).bind fun v σ => match v with | .bool true => evE b fr σ | .bool false => .ok (.bool false) σ | _ => .bad
  | .or a b => fun fr σ => (evE a fr σ).bind fun v σ => match v with | .bool false => evE b fr σ | .bool true => .ok (.bool true) σ | _ => .bad
  | .bin op a b => fun fr σ => (evE a fr σ).bind fun x σ => (evE b fr σ).bind fun y σ => binV op x y σ
  | .cmp op a b => fun fr σ => (evE a fr σ).bind fun x σ => (evE b fr σ).bind fun y σ => ofOptB σ (cmpV op x y σ)
  | .cmp2 o1 o2 a b c => fun fr σ => (evE a fr σ).bind fun x σ => (evE b fr σ).bind fun y σ => match cmpV o1 x y σ with
      | some true => (evE c fr σ).bind fun z σ => ofOptB σ (cmpV o2 y z σ)
      | some false => .ok (.bool false) σ
      | none => .bad
  | .sub a i => fun fr σ => (evE a fr σ).bind fun x σ => (evE i fr σ).bind fun y σ => ofOpt σ (subV x y σ)
  | .slo a lo => fun fr σ => (evE a fr σ).bind fun x σ => (evE lo fr σ).bind fun y σ => match x, y with
      | .ref l, .int k => (match getL σ l with | some xs => if 0 ≤ k then newL (xs.drop k.toNat) σ else .bad | none => .bad)
      | _, _ => .bad
  | .shi a hi => fun fr σ => (evE a fr σ).bind fun x σ => (evE hi fr σ).bind fun y σ => match x, y with
      | .ref l, .int k => (match getL σ l with | some xs => if 0 ≤ k then newL (xs.take k.toNat) σ else .bad | none => .bad)
      | _, _ => .bad
  | .sst a st => fun fr σ => (evE a fr σ).bind fun x σ => (evE st fr σ).bind fun y σ => match x, y with
      | .ref l, .int k => (match getL σ l with | some xs => if k = 1 then newL xs σ else if k = -1 then newL xs.reverse σ else .bad | none => .bad)
      | _, _ => .bad
  | .attr a x => fun fr σ => (evE a fr σ).bind fun v σ => ofOpt σ (attrV v x σ)
  | .list es => fun fr σ => (evEs es fr σ).bind fun vs σ => newL vs σ
  | .tup es => fun fr σ => (evEs es fr σ).bind fun vs σ => if vs.length ≤ 1000 then .ok (.tup vs) σ else .bad
  | .dict0 => fun _ σ => .ok (.ref σ.length) (σ ++ [.dT []])
  | .dict1 k v => fun fr σ => (evE k fr σ).bind fun x σ => (evE v fr σ).bind fun y σ => match x with
      | .int i => .ok (.ref σ.length) (σ ++ [.dI [(i, y)]])
      | _ => .bad
  | .call f as => fun fr σ => (evEs as fr σ).bind fun vs σ => call f vs σ
  | .mk f as => fun fr σ => (evEs as fr σ).bind fun vs σ =>
      match call f (.ref (σ.length + 1) :: vs) (σ ++ [.att [], .inst σ.length]) with
      | .ok .none σ' => .ok (.ref (σ.length + 1)) σ'
      | .ok _ _ => .bad
      | .ex x σ' => .ex x σ'
      | .bad => .bad
  | .meth a x as => fun fr σ => (evE a fr σ).bind fun v σ => if methPre x v σ then (evEs as fr σ).bind fun vs σ => (match x with
      | .user f => call f (v :: vs) σ
      | x => methV x v vs σ) else .bad
  | .blt b as => fun fr σ => (evEs as fr σ).bind fun vs σ => bltV b vs σ
  | .maxd a => fun fr σ => (evE a fr σ).bind fun v σ => match v with
      | .ref l => (match (getL σ l).bind intsOf with | some [] => .ok .none σ | some is => ofOpt σ ((maxL is).map V.int) | none => .bad)
      | _ => .bad
  | .isi a t => fun fr σ => (evE a fr σ).bind fun v σ => ofOptB σ (isiV t v σ)
  | .join _ _ => fun _ _ => .bad
  | .srt n p key frm => fun fr σ => (evE n fr σ).bind fun v σ => match v with
      | .int k => if k < 60 then
          (match keysL (fun v σ => match bindT [p] true v (subFr fr frm) with | some fr => evE key fr σ | none => .bad) (rngL 0 k) σ [] with
           | some (ps, σ) => if (ps.map (·.1)).Nodup then newL ((sortK ps).map (·.2)) σ else .bad
           | none => .bad) else .bad
      | _ => .bad
  | .comp tg one it conds elt frm => fun fr σ => (evE it fr σ).bind fun v σ => match v with
      | .ref l => (match getL σ l with
        | some xs => (compL tg one (testL (evTs conds)) (evE elt) l (xs.length + 1) 0 (subFr fr frm) σ []).bind fun ys σ => newL ys σ
        | none => .bad)
      | .tup vs => (compV tg one (testL (evTs conds)) (evE elt) vs (subFr fr frm) σ []).bind fun ys σ => newL ys σ
      | .rng lo hi => (compV tg one (testL (evTs conds)) (evE elt) (rngL lo hi) (subFr fr frm) σ []).bind fun ys σ => newL ys σ
      | _ => .bad
noncomputable def evEs : List E → Fra → Sto → REs
  | [] => fun _ σ => .ok [] σ
  | e :: es => fun fr σ => (evE e fr σ).binds fun v σ => (evEs es fr σ).binds fun vs σ => .ok (v :: vs) σ
noncomputable def evTs : List E → List (Fra → Sto → RE)
  | [] => []
  | e :: es => evE e :: evTs es
end

noncomputable def whileL (test : Fra → Sto → RE) (body : Fra → Sto → RS) : Nat → Fra → Sto → RS
  | 0, _, _ => .bad
  | n + 1, fr, σ => (test fr σ).bindS fr fun v σ => match v with
    | .bool false => .ok .next fr σ
    | .bool true => (match body fr σ with
      | .ok .next fr σ => whileL test body n fr σ
      | .ok .cont fr σ => whileL test body n fr σ
      | .ok .brk fr σ => .ok .next fr σ
      | r => r)
    | _ => .bad

noncomputable def forV (tg : List Nat) (one : Bool) (body : Fra → Sto → RS) : List V → Fra → Sto → RS
  | [], fr, σ => .ok .next fr σ
  | v :: vs, fr, σ => match bindT tg one v fr with
    | none => .bad
    | some fr => match body fr σ with
      | .ok .next fr σ => forV tg one body vs fr σ
      | .ok .cont fr σ => forV tg one body vs fr σ
      | .ok .brk fr σ => .ok .next fr σ
      | r => r

noncomputable def forL (tg : List Nat) (one : Bool) (body : Fra → Sto → RS) (l : Nat) : Nat → Nat → Fra → Sto → RS
  | 0, _, _, _ => .bad
  | n + 1, i, fr, σ => match getL σ l with
    | none => .bad
    | some xs => match xs[i]? with
      | none => .ok .next fr σ
      | some v => match bindT tg one v fr with
        | none => .bad
        | some fr => match body fr σ with
          | .ok .next fr σ => forL tg one body l n (i + 1) fr σ
          | .ok .cont fr σ => forL tg one body l n (i + 1) fr σ
          | .ok .brk fr σ => .ok .next fr σ
          | r => r

variable (wf : Nat)
mutual
noncomputable def evS : S → Fra → Sto → RS
  | .expr a => fun fr σ => (evE call a fr σ).bindS fr fun _ σ => .ok .next fr σ
  | .ret a => fun fr σ => (evE call a fr σ).bindS fr fun v σ => .ok (.ret v) fr σ
  | .asg i a => fun fr σ => (evE call a fr σ).bindS fr fun v σ => if i < fr.length then .ok .next (fr.set i (some v)) σ else .bad
  | .asgT is a => fun fr σ => (evE call a fr σ).bindS fr fun v σ => match bindT is false v fr with | some fr => .ok .next fr σ | none => .bad
  | .asgA o x a => fun fr σ => (evE call a fr σ).bindS fr fun v σ => (evE call o fr σ).bindS fr fun w σ => match setAttrV w x v σ with
      | some σ => .ok .next fr σ | none => .bad
  | .asgI o i a => fun fr σ => (evE call a fr σ).bindS fr fun v σ => (evE call o fr σ).bindS fr fun w σ => (evE call i fr σ).bindS fr fun k σ => match setIdx w k v σ with
      | some σ => .ok .next fr σ | none => .bad
  | .ifS t b o => fun fr σ => (evE call t fr σ).bindS fr fun v σ => match v with
      | .bool true => evSs b fr σ | .bool false => evSs o fr σ | _ => .bad
  | .whileS t b => fun fr σ => whileL (evE call t) (evSs b) wf fr σ
  | .forS tg one it b => fun fr σ => match it with
      | .e a => (evE call a fr σ).bindS fr fun v σ => (match v with
        | .ref l => (match getL σ l with | some xs => forL tg one (evSs b) l (xs.length + 1) 0 fr σ | none => .bad)
        | .tup vs => forV tg one (evSs b) vs fr σ
        | .rng lo hi => forV tg one (evSs b) (rngL lo hi) fr σ
        | _ => .bad)
      | _ => .bad
  | .raise _ => fun _ _ => .bad
  | .tryS _ _ _ _ => fun _ _ => .bad
  | .pass => fun fr σ => .ok .next fr σ
noncomputable def evSs : List S → Fra → Sto → RS
  | [] => fun fr σ => .ok .next fr σ
  | s :: ss => fun fr σ => match evS s fr σ with
    | .ok .next fr σ => evSs ss fr σ
    | r => r
end
end

/-- a def: its parameters' places, the size of its frame, its body -/
structure Fn where
  ps : List Nat
  size : Nat
  body : List S

noncomputable def putPs : List Nat → List V → Fra → Fra
  | p :: ps, v :: vs, fr => putPs ps vs (fr.set p (some v))
  | _, _, fr => fr
noncomputable def frame0 (f : Fn) (vs : List V) : Fra := putPs f.ps vs (List.replicate f.size none)

noncomputable def evFn (P : Nat → Option Fn) (wf : Nat) : Nat → Nat → List V → Sto → RE
  | 0, _, _, _ => .bad
  | n + 1, f, vs, σ => match P f with
    | none => .bad
    | some fn => if vs.length = fn.ps.length then
        (match evSs (evFn P wf n) wf fn.body (frame0 fn vs) σ with
         | .ok (.ret v) _ σ => .ok v σ
         | .ok .next _ σ => .ok .none σ
         | .ok _ _ _ => .bad
         | .ex x _ σ => .ex x σ
         | .bad => .bad)
      else .bad

end Mine

set_option autoImplicit false
set_option genSizeOf false
set_option genInjectivity false
set_option bootstrap.genMatcherCode false
namespace Mine
open PySem

structure CE where
  names : List (Str × NameKind)
  fns : List (Str × Nat)
  clss : List (Str × Nat)
  excs : List (Str × Nat)
  mths : List (Str × Nat)
  attrs : List (Str × Nat)
  consts : List (Str × Int)
  lam : Option Nat

noncomputable def CE.loc? (c : CE) (x : Str) : Option Nat := match c.names.lookup x with
  | some .local | some .cell | some .free => c.names.findIdx? (·.1 == x)
  | _ => none
/-- a name that the block itself may bind -/
noncomputable def CE.locW? (c : CE) (x : Str) : Option Nat := match c.names.lookup x with
  | some .local | some .cell => c.names.findIdx? (·.1 == x)
  | _ => none
noncomputable def CE.glob (c : CE) (x : Str) : Bool := c.names.lookup x == some .globalImplicit
noncomputable def CE.sub (c : CE) (names : List (Str × NameKind)) : CE := { c with names := names }

/-! ### putting together -/
noncomputable def opt2 {α β γ : Type} (f : α → β → γ) (a : Option α) (b : Option β) : Option γ := a.bind fun x => b.map fun y => f x y
noncomputable def opt3 {α β γ δ : Type} (f : α → β → γ → δ) (a : Option α) (b : Option β) (c : Option γ) : Option δ := a.bind fun x => opt2 (f x) b c
noncomputable def gd {α : Type} (b : Bool) (x : Option α) : Option α := match b with | true => x | false => none
theorem nn {α : Type} {z : α} {P : Prop} (h : (none : Option α) = some z) : P := nomatch h
theorem ft {P : Prop} (h : false = true) : P := nomatch h
theorem tf {P : Prop} (h : true = false) : P := nomatch h
theorem si {α : Type} {a b : α} {P : α → Prop} (h : some a = some b) (H : P a) : P b := Option.some.inj h ▸ H
theorem opt2_inv {α β γ : Type} {f : α → β → γ} {a : Option α} {b : Option β} {z : γ} : opt2 f a b = some z → ∃ x y, a = some x ∧ b = some y ∧ f x y = z :=
  Option.casesOn a nn fun x => Option.casesOn b nn fun y h => ⟨x, y, rfl, rfl, Option.some.inj h⟩
theorem opt3_inv {α β γ δ : Type} {f : α → β → γ → δ} {a : Option α} {b : Option β} {c : Option γ} {w : δ} : opt3 f a b c = some w → ∃ x y z, a = some x ∧ b = some y ∧ c = some z ∧ f x y z = w :=
  Option.casesOn a nn fun x => Option.casesOn b nn fun y => Option.casesOn c nn fun z h => ⟨x, y, z, rfl, rfl, rfl, Option.some.inj h⟩
theorem gd_inv {α : Type} {b : Bool} {x : Option α} {z : α} : gd b x = some z → b = true ∧ x = some z := Bool.casesOn b nn fun h => ⟨rfl, h⟩
theorem map_inv {α β : Type} {f : α → β} {a : Option α} {z : β} : a.map f = some z → ∃ x, a = some x ∧ f x = z := Option.casesOn a nn fun x h => ⟨x, rfl, Option.some.inj h⟩
theorem bind_inv {α β : Type} {f : α → Option β} {a : Option α} {z : β} : a.bind f = some z → ∃ x, a = some x ∧ f x = some z := Option.casesOn a nn fun x h => ⟨x, rfl, h⟩
theorem and_inv {a b : Bool} : (a && b) = true → a = true ∧ b = true := Bool.casesOn a ft fun h => ⟨rfl, h⟩
theorem not_inv {a : Bool} : (!a) = true → a = false := Bool.casesOn a (fun _ => rfl) ft

/-! ### looks at one node -/
inductive EV where
  | name (x : Str) | const (k : Const) | slice (t : Option Expr × Option Expr × Option Expr) | lc | tup (ts : List Expr) | attr (t : Expr × Str × Pos) | sub (t : Expr × Expr) | call (t : Expr × List Expr × List Keyword) | other
noncomputable def vw : Expr → EV
  | .Name x _ => .name x
  | .Constant k _ _ => .const k
  | .Slice a b c _ => .slice (a, b, c)
  | .ListComp .. => .lc
  | .Tuple ts _ _ => .tup ts
  | .Attribute o x p => .attr (o, x, p)
  | .Subscript o i _ => .sub (o, i)
  | .Call f as ks _ => .call (f, as, ks)
  | _ => .other
def VwOk (e : Expr) : EV → Prop
  | .name x => ∃ p, e = .Name x p
  | .const k => ∃ a p, e = .Constant k a p
  | .slice t => ∃ p, e = .Slice t.1 t.2.1 t.2.2 p
  | .tup ts => ∃ k p, e = .Tuple ts k p
  | .attr t => e = .Attribute t.1 t.2.1 t.2.2
  | .sub t => ∃ p, e = .Subscript t.1 t.2 p
  | .call t => ∃ p, e = .Call t.1 t.2.1 t.2.2 p
  | _ => True
theorem vw_ok (e : Expr) : VwOk e (vw e) := by
  cases e <;> first | exact True.intro | exact ⟨_, rfl⟩ | exact ⟨_, _, rfl⟩ | rfl
theorem vw_of {e : Expr} {v : EV} (h : vw e = v) : VwOk e v := h ▸ vw_ok e
noncomputable def name? (e : Expr) : Option Str := match vw e with | .name x => some x | _ => none
noncomputable def constI? (e : Expr) : Option Int := match vw e with | .const (.int i) => some i | _ => none
noncomputable def isLC (e : Expr) : Bool := match vw e with | .lc => true | _ => false
theorem name?_inv {e : Expr} {x : Str} (h : name? e = some x) : ∃ p, e = .Name x p := by
  unfold name? at h
  cases q : vw e <;> rw [q] at h <;> first | exact nn h | skip
  exact Option.some.inj h ▸ vw_of q
theorem constI?_inv {e : Expr} {x : Int} (h : constI? e = some x) : ∃ k p, e = .Constant (.int x) k p := by
  unfold constI? at h
  cases q : vw e <;> rw [q] at h <;> first | exact nn h | skip
  rename_i k; cases k <;> first | exact nn h | skip
  exact Option.some.inj h ▸ vw_of q
theorem isLC_inv {e : Expr} (h : isLC e = false) : ∀ a b c d, e ≠ .ListComp a b c d := by
  intro a b c d q; subst q; exact tf h
noncomputable def scOk (sc : Scope) : Bool := (match sc.kind with | .function => true | _ => false) && decide ((sc.names.map (·.1)).Nodup)

noncomputable def opOk : Operator → Bool
  | .Add | .Sub | .Mult | .FloorDiv | .Mod => true
  | _ => false

noncomputable def bltName : List (Str × BN) := [("len", .len)]
noncomputable def tyName : List (Str × Ty) := [("int", .int), ("bool", .bool), ("tuple", .tuple), ("list", .list)]
noncomputable def mkB (op : BoolOp) (x y : E) : E := match op with | .And => .and x y | .Or => .or x y
noncomputable def foldB (op : BoolOp) : List E → Option E
  | [] => none
  | [x] => some x
  | x :: r => (foldB op r).map fun y => mkB op x y

noncomputable def noMark (op : CmpOp) (r : Expr) : Bool := !behindInMarks op r

inductive CK where
  | setLen (a : Expr) | revl (a : Expr) | isi (a : Expr) (t : Str) | plain

noncomputable def ck2 (c : CE) (f : Str) (a : Expr) (t : Str) : CK := match (f == ("isinstance" : Str) && (c.glob f && (c.glob t && !(t == ("__debug__" : Str))))) with
  | true => .isi a t
  | false => .plain
noncomputable def callKind (c : CE) (f : Str) (args : List Expr) : CK := match args with
  | [a, t] => (match name? t with | some x => ck2 c f a x | none => .plain)
  | _ => .plain

noncomputable def isiTy (c : CE) (t : Str) : Option Ty := match tyName.lookup t with
  | some ty => some ty
  | none => none

noncomputable def plainCall' (c : CE) (f : Str) (as : List E) : Option E := match bltName.lookup f with
  | some b => some (.blt b as)
  | none => (match c.fns.lookup f with
    | some k => some (.call k as)
    | none => none)

/-! ### expressions, by kind -/
noncomputable def cConst : Const → Option E
  | .none => some .none
  | .bool b => some (.bool b)
  | .int i => some (.int i)
  | .str s => some (.str s)
  | _ => none
noncomputable def cName (c : CE) (x : Str) : Option E := gd (!(x == ("__debug__" : Str)) && !(x == ("__classdict__" : Str))) (match c.loc? x with
  | some i => some (.loc i)
  | none => gd (c.glob x) ((c.consts.lookup x).map .int))
noncomputable def isPow : Operator → Bool | .Pow => true | _ => false
noncomputable def cBin (f : Expr → Option E) (l : Expr) (op : Operator) (r : Expr) : Option E := match opOk op with
  | true => opt2 (.bin op) (f l) (f r)
  | false => gd (isPow op) ((constI? l).bind fun a => (constI? r).bind fun b => gd (decide (0 ≤ a ∧ a ≤ 10 ∧ 0 ≤ b ∧ b ≤ 100)) (some (.pow a.toNat b.toNat)))
noncomputable def cUn (f : Expr → Option E) (op : UnaryOp) (x : Expr) : Option E := match op with
  | .Not => (f x).map .not
  | .USub => (f x).map .neg
  | _ => none
noncomputable def cCmp (f : Expr → Option E) (l : Expr) (ops : List CmpOp) (rs : List Expr) : Option E := match ops with
  | [op] => (match rs with | [r] => gd (noMark op r) (opt2 (.cmp op) (f l) (f r)) | _ => none)
  | [o1, o2] => (match rs with | [m, r] => gd (noMark o2 r) (opt3 (.cmp2 o1 o2) (f l) (f m) (f r)) | _ => none)
  | _ => none
noncomputable def cSub (f : Expr → Option E) (v i : Expr) : Option E := match vw i with
  | .slice _ => none
  | _ => opt2 .sub (f v) (f i)
noncomputable def cCallN (c : CE) (f : Expr → Option E) (x : Str) (args : List Expr) : Option E := match callKind c x args with
  | .setLen _ => none
  | .revl _ => none
  | .isi a t => opt2 .isi (f a) (isiTy c t)
  | .plain => gd (decide (args.length ≤ 8) && (c.glob x && !(x == ("__debug__" : Str)))) ((mapO f args).bind fun as => plainCall' c x as)
noncomputable def cCall (c : CE) (f : Expr → Option E) (fn : Expr) (args : List Expr) (ks : List Keyword) (pos : Pos) : Option E := match name? fn with
  | some x => (match ks with
    | [] => cCallN c f x args
    | _ => none)
  | none => none
noncomputable def compX (rec : CE → Expr → Option E) (c : CE) (e : Expr) : Option E := match e with
  | .Constant k _ _ => cConst k
  | .Name x _ => cName c x
  | .BoolOp op vs _ => (mapO (rec c) vs).bind (foldB op)
  | .BinOp l op r _ => cBin (rec c) l op r
  | .UnaryOp op x _ => cUn (rec c) op x
  | .Compare l ops rs _ => cCmp (rec c) l ops rs
  | .Subscript v i _ => cSub (rec c) v i
  | .List es _ => gd (decide (es.length ≤ 60)) ((mapO (rec c) es).map .list)
  | .Tuple es _ _ => gd (decide (es.length ≤ 60)) ((mapO (rec c) es).map .tup)
  | .Call f args ks p => cCall c (rec c) f args ks p
  | _ => none
noncomputable def compE : Nat → CE → Expr → Option E
  | 0 => fun _ _ => none
  | n + 1 => compX (compE n)

/-- the kinds that compE may take -/
noncomputable def kindOk : Expr → Bool
  | .Constant .. | .Name .. | .BoolOp .. | .BinOp .. | .UnaryOp .. | .Compare .. | .Subscript .. | .Attribute .. | .List .. | .Tuple .. | .Dict .. | .Call .. | .ListComp .. => true
  | _ => false
theorem comp_kind {n : Nat} {c : CE} {e : Expr} {a : E} (h : compE n c e = some a) : kindOk e = true := by
  cases n with
  | zero => exact nn h
  | succ n => cases e <;> first | rfl | exact nn h

/-! ### statements -/
noncomputable def cAsg (c : CE) (t e : Expr) : Option S := match vw t with
  | .name x => opt2 .asg (c.locW? x) (compE 30 c e)
  | _ => none
noncomputable def compSX (rec : CE → Stmt → Option S) (c : CE) (s : Stmt) : Option S := match s with
  | .Expr e _ => gd (!isLC e) ((compE 30 c e).map .expr)
  | .Return v _ => v.bind fun e => (compE 30 c e).map .ret
  | .Assign ts e _ => (match ts with | [t] => cAsg c t e | _ => none)
  | .If t b o _ => opt3 .ifS (compE 30 c t) (mapO (rec c) b) (mapO (rec c) o)
  | .While t b o _ => gd o.isEmpty (opt2 .whileS (compE 30 c t) (mapO (rec c) b))
  | .Pass _ => some .pass
  | _ => none
noncomputable def compS : Nat → CE → Stmt → Option S
  | 0 => fun _ _ => none
  | n + 1 => compSX (compS n)

end Mine

set_option autoImplicit false
namespace Mine
open PySem PyProof.Rows

inductive F2 {α β : Type} (R : α → β → Prop) : List α → List β → Prop
  | nil : F2 R [] []
  | cons {a b as bs} : R a b → F2 R as bs → F2 R (a :: as) (b :: bs)

theorem F2.mono {α β : Type} {R R' : α → β → Prop} (h : ∀ a b, R a b → R' a b) : ∀ {as : List α} {bs : List β}, F2 R as bs → F2 R' as bs
  | _, _, .nil => .nil
  | _, _, .cons x r => .cons (h _ _ x) (r.mono h)
theorem F2.length {α β : Type} {R : α → β → Prop} : ∀ {as : List α} {bs : List β}, F2 R as bs → as.length = bs.length
  | _, _, .nil => rfl
  | _, _, .cons _ r => by simp [r.length]
theorem F2.append {α β : Type} {R : α → β → Prop} : ∀ {as as' : List α} {bs bs' : List β}, F2 R as bs → F2 R as' bs' → F2 R (as ++ as') (bs ++ bs')
  | _, _, _, _, .nil, r => r
  | _, _, _, _, .cons x r, r' => .cons x (r.append r')
theorem F2.get {α β : Type} {R : α → β → Prop} : ∀ {as : List α} {bs : List β}, F2 R as bs → ∀ {i : Nat} {a : α}, as[i]? = some a → ∃ b, bs[i]? = some b ∧ R a b
  | _, _, .nil, _, _, h => by simp at h
  | _, _, .cons x r, 0, _, h => by simp at h; subst h; exact ⟨_, rfl, x⟩
  | _, _, .cons x r, i + 1, _, h => by simp at h; simpa using r.get h
theorem F2.drop {α β : Type} {R : α → β → Prop} : ∀ {as : List α} {bs : List β}, F2 R as bs → ∀ n, F2 R (as.drop n) (bs.drop n)
  | _, _, .nil, _ => by simp; exact .nil
  | _, _, .cons x r, 0 => .cons x r
  | _, _, .cons x r, n + 1 => by simpa using r.drop n
theorem F2.take {α β : Type} {R : α → β → Prop} : ∀ {as : List α} {bs : List β}, F2 R as bs → ∀ n, F2 R (as.take n) (bs.take n)
  | _, _, .nil, _ => by simp; exact .nil
  | _, _, .cons x r, 0 => .nil
  | _, _, .cons x r, n + 1 => by simpa using F2.cons x (r.take n)
theorem F2.reverse {α β : Type} {R : α → β → Prop} : ∀ {as : List α} {bs : List β}, F2 R as bs → F2 R as.reverse bs.reverse
  | _, _, .nil => .nil
  | _, _, .cons x r => by simpa using r.reverse.append (.cons x .nil)
theorem F2.set {α β : Type} {R : α → β → Prop} : ∀ {as : List α} {bs : List β}, F2 R as bs → ∀ {n a b}, R a b → F2 R (as.set n a) (bs.set n b)
  | _, _, .nil, _, _, _, _ => by simp; exact .nil
  | _, _, .cons x r, 0, _, _, h => by simpa using F2.cons h r
  | _, _, .cons x r, n + 1, _, _, h => by simpa using F2.cons x (r.set h)
theorem F2.replicate {α β : Type} {R : α → β → Prop} {a : α} {b : β} (h : R a b) : ∀ n, F2 R (List.replicate n a) (List.replicate n b)
  | 0 => .nil
  | n + 1 => by simpa [List.replicate_succ] using F2.cons h (F2.replicate h n)

/-- what never changes -/
noncomputable def Imm (o : Obj) : Prop := (o.cls = .type "tuple" ∨ o.cls = .type "range") ∧ (∀ (es : Array DictEntry) (n : Nat), o.data ≠ .dict es n) ∧ ∀ v : Option Value, o.data ≠ .cell v

mutual
noncomputable def RepV (as : List Addr) (h : Heap) : V → Value → Prop
  | .none, x => x = .none
  | .bool b, x => x = .bool b
  | .int i, x => ∃ t, x = .int i t
  | .str s, x => ∃ t, x = .str s t
  | .tup vs, x => ∃ a items n, x = .ref a ∧ h.get? a = some { cls := .type "tuple", data := .seq items n } ∧ items.size ≤ 16777216 ∧ RepVs as h vs items.toList
  | .ref l, x => ∃ a, x = .ref a ∧ as[l]? = some a
  | .rng lo hi, x => ∃ a t u v, x = .ref a ∧ IsRange h a lo hi 1 t u v ∧ (-1000000 ≤ lo ∧ lo ≤ 1000000 ∧ -1000000 ≤ hi ∧ hi ≤ 1000000)
noncomputable def RepVs (as : List Addr) (h : Heap) : List V → List Value → Prop
  | [], xs => xs = []
  | v :: vs, xs => ∃ y ys, xs = y :: ys ∧ RepV as h v y ∧ RepVs as h vs ys
end

theorem RepVs.f2 {as : List Addr} {h : Heap} : ∀ {vs : List V} {xs : List Value}, RepVs as h vs xs ↔ F2 (RepV as h) vs xs
  | [], xs => ⟨fun e => by rw [RepVs] at e; subst e; exact .nil, fun e => by cases e; rw [RepVs]⟩
  | v :: vs, xs => ⟨fun e => by
      rw [RepVs] at e
      obtain ⟨y, ys, rfl, h1, h2⟩ := e
      exact .cons h1 (RepVs.f2.mp h2), fun e => by
      cases e with
      | cons h1 h2 => rw [RepVs]; exact ⟨_, _, rfl, h1, RepVs.f2.mpr h2⟩⟩

structure Keep (as : List Addr) (h : Heap) (as' : List Addr) (h' : Heap) : Prop where
  pre : ∀ (i : Nat) (a : Addr), as[i]? = some a → as'[i]? = some a
  imm : ∀ (a : Addr) (o : Obj), h.get? a = some o → Imm o → h'.get? a = some o

theorem imm_tuple {items : Array Value} {n : Nat} : Imm { cls := .type "tuple", data := .seq items n } := ⟨.inl rfl, fun _ _ e => (nomatch e), fun _ e => (nomatch e)⟩
theorem imm_range {vs : Array Value} : Imm { cls := .type "range", data := .fields vs } := ⟨.inr rfl, fun _ _ e => (nomatch e), fun _ e => (nomatch e)⟩

mutual
theorem RepV.keep {as as' : List Addr} {h h' : Heap} (k : Keep as h as' h') : ∀ (v : V) (x : Value), RepV as h v x → RepV as' h' v x
  | .none, x, e => by rw [RepV] at e ⊢; exact e
  | .bool b, x, e => by rw [RepV] at e ⊢; exact e
  | .int i, x, e => by rw [RepV] at e ⊢; exact e
  | .str s, x, e => by rw [RepV] at e ⊢; exact e
  | .tup vs, x, e => by
    rw [RepV] at e ⊢
    obtain ⟨a, items, n, rfl, ho, hz, hr⟩ := e
    exact ⟨a, items, n, rfl, k.imm _ _ ho imm_tuple, hz, RepVs.keep k _ _ hr⟩
  | .ref l, x, e => by
    rw [RepV] at e ⊢
    obtain ⟨a, rfl, ha⟩ := e
    exact ⟨a, rfl, k.pre _ _ ha⟩
  | .rng lo hi, x, e => by
    rw [RepV] at e ⊢
    obtain ⟨a, t, u, v, rfl, ho, hb⟩ := e
    exact ⟨a, t, u, v, rfl, k.imm _ _ ho imm_range, hb⟩
theorem RepVs.keep {as as' : List Addr} {h h' : Heap} (k : Keep as h as' h') : ∀ (vs : List V) (xs : List Value), RepVs as h vs xs → RepVs as' h' vs xs
  | [], xs, e => by rw [RepVs] at e ⊢; exact e
  | v :: vs, xs, e => by
    rw [RepVs] at e ⊢
    obtain ⟨y, ys, rfl, h1, h2⟩ := e
    exact ⟨y, ys, rfl, RepV.keep k _ _ h1, RepVs.keep k _ _ h2⟩
end

/-- what is fixed for a whole run -/
structure Cfg where
  prog : Program
  w : World
  b : Heap
  C : Addr
  at' : List (Nat × Str)
  scr : Obj
  tab : Addr

noncomputable def EntOk (g : Cfg) (as : List Addr) (h : Heap) (e : Nat × V) (d : DictEntry) : Prop :=
  ∃ x t, g.at'.lookup e.1 = some x ∧ d.key = .str x t ∧ RepV as h e.2 d.val

noncomputable def RepO (g : Cfg) (as : List Addr) (h : Heap) (o : AO) (a : Addr) : Prop := match o with
  | .lst vs => ∃ items, h.PlainList a items ∧ RepVs as h vs items.toList ∧ vs.length ≤ 16777216
  | .dI es => ∃ kvs, h.DictOf (intKind g.prog g.w) a kvs ∧ F2 (fun (e : Int × V) (x : Int × Value) => e.1 = x.1 ∧ RepV as h e.2 x.2) es kvs ∧ es.length ≤ 1000000 ∧ (a == sysModules) = false
  | .dT es => ∃ xs, h.DictOfH (tupleKind (intKind g.prog g.w)) a xs ∧ F2 (fun (e : List Int × V) (x : List Int × Addr × Value) => e.1 = x.1 ∧ RepV as h e.2 x.2.2) es xs ∧ es.length ≤ 1000000 ∧ (a == sysModules) = false
  | .inst d => ∃ dx, as[d]? = some dx ∧ h.get? a = some { cls := .ref g.C, dict := some dx, data := .plain }
  | .att es => ∃ ents n, h.get? a = some { cls := .type "dict", data := .dict (List.toArray ents) n } ∧ F2 (EntOk g as h) es ents ∧ es.length ≤ 100
  | .exc _ => False
  | .frz vs => ∃ items n, h.get? a = some g.scr ∧ g.scr = { cls := .type "list", data := .seq items n } ∧ RepVs as h vs items.toList ∧ vs.length ≤ 16777216
  | .tab b => a = g.tab ∧ ∃ ps : Array Value, h.get? a = some { cls := .none, data := .fields ps } ∧ (b = false → ps = #[])

structure Rel (g : Cfg) (as : List Addr) (σ : Sto) (h : Heap) : Prop where
  base : ∀ (a : Addr) (o : Obj), g.b.get? a = some o → h.get? a = some o
  len : as.length = σ.length
  nd : as.Nodup
  new : ∀ a ∈ as, g.b.get? a = none
  obj : ∀ (i : Nat) (a : Addr) (o : AO), as[i]? = some a → σ[i]? = some o → RepO g as h o a

structure Step (own as : List Addr) (h : Heap) (as' : List Addr) (h' : Heap) : Prop where
  pre : ∃ t, as' = as ++ t ∧ ∀ a ∈ t, h.get? a = none
  ext : ∀ (a : Addr) (o : Obj), h.get? a = some o → a ∉ own → a ∉ as → h'.get? a = some o

theorem Step.refl (own as : List Addr) (h : Heap) : Step own as h as h := ⟨⟨[], by simp, by simp⟩, fun _ _ e _ _ => e⟩

theorem Step.get {own as as' : List Addr} {h h' : Heap} (x : Step own as h as' h') {i : Nat} {a : Addr} (ha : as[i]? = some a) : as'[i]? = some a := by
  obtain ⟨⟨t, rfl, _⟩, _⟩ := x
  rw [List.getElem?_append_left (by exact (List.getElem?_eq_some_iff.mp ha).1)]; exact ha

theorem Step.trans {own as as1 as2 : List Addr} {h h1 h2 : Heap} (x : Step own as h as1 h1) (y : Step own as1 h1 as2 h2) (nd : as2.Nodup) (off : ∀ a ∈ own, a ∉ as2) : Step own as h as2 h2 := by
  obtain ⟨⟨t, rfl, ht⟩, x2⟩ := x
  obtain ⟨⟨u, rfl, hu⟩, y2⟩ := y
  refine ⟨⟨t ++ u, by simp, fun a ha => ?_⟩, fun a o e h1 h3 => ?_⟩
  · rcases List.mem_append.mp ha with q | q
    · exact ht a q
    · cases e : h.get? a with
      | none => rfl
      | some o =>
        have h1' : a ∉ own := fun z => off a z (List.mem_append_right _ q)
        have h2' : a ∉ as := fun z => (List.nodup_append.mp nd).2.2 a (List.mem_append_left _ z) a q rfl
        have := x2 a o e h1' h2'
        rw [hu a q] at this; cases this
  · refine y2 a o (x2 a o e h1 h3) h1 fun q => ?_
    rcases List.mem_append.mp q with q | q
    · exact h3 q
    · rw [ht a q] at e; cases e

theorem Step.shrink {own own' as as' : List Addr} {h h' : Heap} (x : Step own' as h as' h') (hs : ∀ a ∈ own', a ∈ own ∨ h.get? a = none) : Step own as h as' h' :=
  ⟨x.pre, fun a o e h1 h2 => x.ext a o e (fun q => (hs a q).elim h1 fun z => by rw [z] at e; cases e) h2⟩
theorem Step.grow {own own' as as' : List Addr} {h h' : Heap} (x : Step own as h as' h') (hs : ∀ a ∈ own, a ∈ own') : Step own' as h as' h' :=
  ⟨x.pre, fun a o e h1 h2 => x.ext a o e (fun q => h1 (hs a q)) h2⟩
/-- a step that only adds objects -/
theorem Step.of_ext {own as : List Addr} {h h' : Heap} (k : ∀ (a : Addr) (o : Obj), h.get? a = some o → h'.get? a = some o) : Step own as h as h' :=
  ⟨⟨[], by simp, by simp⟩, fun a o e _ _ => k a o e⟩

theorem RepO.there {g : Cfg} {as : List Addr} {h : Heap} {o : AO} {a : Addr} (r : RepO g as h o a) : ∃ ob, h.get? a = some ob ∧ ¬ Imm ob := by
  cases o with
  | lst vs =>
    obtain ⟨items, ⟨n, e⟩, _⟩ := r
    exact ⟨_, e, fun q => by rcases q.1 with q | q <;> simp at q⟩
  | dI es =>
    obtain ⟨kvs, ⟨ob, es', ep, e, _, hd, _⟩, _⟩ := r
    exact ⟨_, e, fun q => q.2.1 _ _ hd⟩
  | dT es =>
    obtain ⟨kvs, ⟨ob, es', ep, e, _, hd, _⟩, _⟩ := r
    exact ⟨_, e, fun q => q.2.1 _ _ hd⟩
  | inst d =>
    obtain ⟨dx, _, e⟩ := r
    exact ⟨_, e, fun q => by rcases q.1 with q | q <;> simp at q⟩
  | att es =>
    obtain ⟨ents, n, e, _⟩ := r
    exact ⟨_, e, fun q => q.2.1 _ _ rfl⟩
  | exc c => exact r.elim
  | frz vs =>
    obtain ⟨items, n, e, q, _⟩ := r
    exact ⟨_, e, fun z => by rw [q] at z; rcases z.1 with z | z <;> simp at z⟩
  | tab b =>
    obtain ⟨_, ps, e, _⟩ := r
    exact ⟨_, e, fun z => by rcases z.1 with z | z <;> simp at z⟩

theorem Rel.there {g : Cfg} {as : List Addr} {σ : Sto} {h : Heap} (R : Rel g as σ h) {a : Addr} (ha : a ∈ as) : ∃ ob, h.get? a = some ob ∧ ¬ Imm ob := by
  obtain ⟨i, hi, rfl⟩ := List.getElem_of_mem ha
  have hi' : i < σ.length := R.len ▸ hi
  exact (R.obj i as[i] σ[i] (by simp [hi]) (by simp [hi'])).there

theorem Rel.keep {g : Cfg} {own as as' : List Addr} {σ : Sto} {h h' : Heap} (R : Rel g as σ h) (x : Step own as h as' h') (ho : ∀ a ∈ own, ∀ o, h.get? a = some o → ¬ Imm o) : Keep as h as' h' :=
  ⟨fun _ _ => x.get, fun a o e hi => x.ext a o e (fun q => ho a q o e hi) fun q => by
    obtain ⟨ob, e', hn⟩ := R.there q
    rw [e] at e'; cases e'; exact hn hi⟩
theorem Rel.keep0 {g : Cfg} {as as' : List Addr} {σ : Sto} {h h' : Heap} (R : Rel g as σ h) (x : Step [] as h as' h') : Keep as h as' h' := R.keep x (by simp)

/-- an object of the store stands in the new heap, if it is left alone -/
theorem RepO.keep {g : Cfg} {as as' : List Addr} {h h' : Heap} {o : AO} {a : Addr} (r : RepO g as h o a) (k : Keep as h as' h') (hk : ∀ ob, h.get? a = some ob → h'.get? a = some ob) : RepO g as' h' o a := by
  cases o with
  | lst vs =>
    obtain ⟨items, p, q, z⟩ := r
    exact ⟨items, p.at hk, RepVs.keep k _ _ q, z⟩
  | dI es =>
    obtain ⟨kvs, p, q, z⟩ := r
    exact ⟨kvs, p.at hk, q.mono fun _ _ y => ⟨y.1, RepV.keep k _ _ y.2⟩, z⟩
  | dT es =>
    obtain ⟨xs, ⟨ob, es', ep, e, p1, p2, p3, p4, p5⟩, q, z⟩ := r
    refine ⟨xs, ⟨ob, es', ep, hk _ e, p1, p2, p3, fun x hx => ?_, p5⟩, q.mono fun _ _ y => ⟨y.1, RepV.keep k _ _ y.2⟩, z⟩
    obtain ⟨o1, its, n1, e1, c1, d1, r1⟩ := p4 x hx
    exact ⟨o1, its, n1, k.imm _ _ e1 ⟨.inl c1, ⟨fun _ _ z => (by rw [d1] at z; cases z), fun _ z => (by rw [d1] at z; cases z)⟩⟩, c1, d1, r1⟩
  | inst d =>
    obtain ⟨dx, p, q⟩ := r
    exact ⟨dx, k.pre _ _ p, hk _ q⟩
  | att es =>
    obtain ⟨ents, n, p, q, z⟩ := r
    exact ⟨ents, n, hk _ p, q.mono fun _ _ ⟨x, t, y1, y2, y3⟩ => ⟨x, t, y1, y2, RepV.keep k _ _ y3⟩, z⟩
  | exc c => exact r.elim
  | frz vs =>
    obtain ⟨items, n, e, q, w, z⟩ := r
    exact ⟨items, n, hk _ e, q, RepVs.keep k _ _ w, z⟩
  | tab b =>
    obtain ⟨e0, ps, e, q⟩ := r
    exact ⟨e0, ps, hk _ e, q⟩

/-- only objects that are not of the store are added or changed -/
theorem Rel.ext {g : Cfg} {as : List Addr} {σ : Sto} {h h' : Heap} (R : Rel g as σ h) (k : ∀ (a : Addr) (o : Obj), h.get? a = some o → h'.get? a = some o) : Rel g as σ h' :=
  ⟨fun a o e => k a o (R.base a o e), R.len, R.nd, R.new, fun i a o h1 h2 => (R.obj i a o h1 h2).keep ⟨fun _ _ e => e, fun a o e _ => k a o e⟩ fun ob e => k a ob e⟩

/-- a new object of the store -/
theorem Rel.push {g : Cfg} {as : List Addr} {σ : Sto} {h h' : Heap} {o : AO} {a : Addr} (R : Rel g as σ h) (k : ∀ (a : Addr) (o : Obj), h.get? a = some o → h'.get? a = some o) (hn : h.get? a = none) (ho : RepO g (as ++ [a]) h' o a) : Rel g (as ++ [a]) (σ ++ [o]) h' := by
  have R' := R.ext k
  have hna : a ∉ as := fun q => by obtain ⟨ob, e, _⟩ := R.there q; rw [hn] at e; cases e
  refine ⟨R'.base, by simp [R.len], ?_, fun b hb => ?_, fun i b ob h1 h2 => ?_⟩
  · exact List.nodup_append.mpr ⟨R.nd, by simp, fun x hx y hy e => by simp at hy; subst hy; subst e; exact hna hx⟩
  · rcases List.mem_append.mp hb with q | q
    · exact R.new b q
    · simp at q; subst q
      cases e : g.b.get? b with
      | none => rfl
      | some o => have := R.base b o e; rw [hn] at this; cases this
  · rcases Nat.lt_trichotomy i as.length with hi | hi | hi
    · rw [List.getElem?_append_left hi] at h1
      rw [List.getElem?_append_left (R.len ▸ hi)] at h2
      exact (R'.obj i b ob h1 h2).keep ⟨fun j c e => by rw [List.getElem?_append_left (List.getElem?_eq_some_iff.mp e).1]; exact e, fun _ _ e _ => e⟩ fun _ e => e
    · subst hi
      rw [R.len] at h2
      simp at h1 h2; subst h1; subst h2; exact ho
    · rw [List.getElem?_eq_none (by simp; omega)] at h1; cases h1
theorem step_push {as : List Addr} {h h' : Heap} {a : Addr} (k : ∀ (a : Addr) (o : Obj), h.get? a = some o → h'.get? a = some o) (hn : h.get? a = none) : Step [] as h (as ++ [a]) h' :=
  ⟨⟨[a], rfl, fun b hb => by simp at hb; subst hb; exact hn⟩, fun b o e _ _ => k b o e⟩

structure FrRel (g : Cfg) (env : Env) (as : List Addr) (fr : Fra) (h : Heap) : Prop where
  kind : env.scope.kind = .function
  above : g.b.objs.size ≤ env.locals
  glob : env.globals = mainGlobals
  blt : env.builtins = builtinsNs
  len : fr.length = env.scope.names.length
  nd : (env.scope.names.map (·.1)).Nodup
  ns : ∃ m, h.Ns env.locals m ∧ ∀ (i : Nat) (x : Str) (v : V), env.scope.names[i]? = some (x, .local) → fr[i]? = some (some v) → ∃ val, m x = some val ∧ RepV as h v val
  cells : ∀ (i : Nat) (x : Str) (k : NameKind), env.scope.names[i]? = some (x, k) → (k = .cell ∨ k = .free) →
    ∃ c cv, env.cells.lookup x = some c ∧ h.IsCell c cv ∧ (∀ v, fr[i]? = some (some v) → ∃ val, cv = some val ∧ RepV as h v val)
  off : env.locals ∉ as
  offc : ∀ x c, env.cells.lookup x = some c → c ∉ as ∧ c ≠ env.locals ∧ ∃ cv, h.IsCell c cv
  apart : ∀ x y c, env.cells.lookup x = some c → env.cells.lookup y = some c → x = y
  newc : ∀ x c, env.cells.lookup x = some c → g.b.get? c = none

/-- the addresses that the frame's own stores may change -/
noncomputable def ownOf (env : Env) : List Addr := env.locals :: env.cells.filterMap (fun p => env.cells.lookup p.1)

theorem lookup_mem' {α β : Type} [BEq α] [LawfulBEq α] {l : List (α × β)} {x : α} {y : β} (e : l.lookup x = some y) : (x, y) ∈ l := by
  induction l with
  | nil => cases e
  | cons p r ih =>
    obtain ⟨a, b⟩ := p
    rw [List.lookup_cons] at e
    split at e
    · rename_i q; cases e; rw [eq_of_beq q]; exact .head _
    · exact .tail _ (ih e)
theorem mem_own {env : Env} {x : Str} {c : Addr} (e : env.cells.lookup x = some c) : c ∈ ownOf env := .tail _ (List.mem_filterMap.mpr ⟨(x, c), lookup_mem' e, e⟩)
theorem own_cases {env : Env} {a : Addr} (h : a ∈ ownOf env) : a = env.locals ∨ ∃ x, env.cells.lookup x = some a := by
  rcases List.mem_cons.mp h with q | q
  · exact .inl q
  · obtain ⟨p, _, e⟩ := List.mem_filterMap.mp q
    exact .inr ⟨_, e⟩
theorem FrRel.offs {g : Cfg} {env : Env} {as : List Addr} {fr : Fra} {h : Heap} (F : FrRel g env as fr h) : ∀ a ∈ ownOf env, a ∉ as := fun a ha => by
  rcases own_cases ha with rfl | ⟨x, e⟩
  · exact F.off
  · exact (F.offc _ _ e).1

theorem FrRel.keep {g : Cfg} {own : List Addr} {env : Env} {as as' : List Addr} {fr : Fra} {h h' : Heap} (F : FrRel g env as fr h) (K : Keep as h as' h') (x : Step own as h as' h') (ho : ∀ a ∈ ownOf env, a ∉ own) : FrRel g env as' fr h' := by
  obtain ⟨⟨t, ht, hf⟩, hx⟩ := x
  obtain ⟨m, hm, hv⟩ := F.ns
  refine ⟨F.kind, F.above, F.glob, F.blt, F.len, F.nd, ⟨m, hm.at' fun o e => hx _ o e (ho _ (.head _)) F.off, fun i x v h1 h2 => ?_⟩, fun i x k h1 h2 => ?_, fun q => ?_, fun x c hc => ⟨fun q => ?_, (F.offc _ _ hc).2.1, ?_⟩, F.apart, F.newc⟩
  · obtain ⟨val, e1, e2⟩ := hv i x v h1 h2
    exact ⟨val, e1, RepV.keep K _ _ e2⟩
  · obtain ⟨c, cv, e1, ⟨o, e2, e2'⟩, e3⟩ := F.cells i x k h1 h2
    have hc : c ∈ ownOf env := mem_own e1
    refine ⟨c, cv, e1, ⟨o, hx _ _ e2 (ho _ hc) (F.offc _ _ e1).1, e2'⟩, fun v e => ?_⟩
    obtain ⟨val, e4, e5⟩ := e3 v e
    exact ⟨val, e4, RepV.keep K _ _ e5⟩
  · rw [ht] at q
    rcases List.mem_append.mp q with q | q
    · exact F.off q
    · obtain ⟨o, es, ep, e, _⟩ := hm; rw [hf _ q] at e; cases e
  · rw [ht] at q
    rcases List.mem_append.mp q with q | q
    · exact (F.offc _ _ hc).1 q
    · obtain ⟨cv, o, e, _⟩ := (F.offc _ _ hc).2.2; rw [hf _ q] at e; cases e
  · obtain ⟨cv, o, e, e'⟩ := (F.offc _ _ hc).2.2
    exact ⟨cv, o, hx _ _ e (ho _ (mem_own hc)) (F.offc _ _ hc).1, e'⟩
where
  lookup_mem {α β : Type} [BEq α] [LawfulBEq α] {l : List (α × β)} {x : α} {y : β} (e : l.lookup x = some y) : (x, y) ∈ l := by
    induction l with
    | nil => cases e
    | cons p r ih =>
      obtain ⟨a, b⟩ := p
      rw [List.lookup_cons] at e
      split at e
      · rename_i q; cases e; rw [eq_of_beq q]; exact .head _
      · exact .tail _ (ih e)

/-! ### the kit's ledger, for all that stands -/
noncomputable def newsOf (b : Heap) (L : Addr) (h : Heap) : List (Addr × Obj) :=
  (List.range h.objs.size).filterMap fun a => if a ≠ L ∧ b.get? a = none then (h.get? a).map fun o => (a, o) else none
theorem mem_newsOf {b : Heap} {L : Addr} {h : Heap} {p : Addr × Obj} : p ∈ newsOf b L h ↔ h.get? p.1 = some p.2 ∧ p.1 ≠ L ∧ b.get? p.1 = none := by
  unfold newsOf
  rw [List.mem_filterMap]
  constructor
  · rintro ⟨a, _, e⟩
    split at e
    · rename_i hc
      obtain ⟨o, e1, e2⟩ := Option.map_eq_some_iff.mp e
      subst e2
      exact ⟨e1, hc⟩
    · cases e
  · rintro ⟨e1, e2⟩
    refine ⟨p.1, List.mem_range.mpr (Heap.lt_size e1), ?_⟩
    rw [if_pos e2, e1]; rfl
theorem news_all (b : Heap) (L : Addr) (h : Heap) : News b L h (newsOf b L h) := fun _ hp => mem_newsOf.mp hp
theorem FrRel.fr {g : Cfg} {env : Env} {as : List Addr} {fr : Fra} {σ : Sto} {h : Heap} (F : FrRel g env as fr h) (R : Rel g as σ h) : ∃ m, Fr g.b env.locals h m ∧ ∀ (i : Nat) (x : Str) (v : V), env.scope.names[i]? = some (x, .local) → fr[i]? = some (some v) → ∃ val, m x = some val ∧ RepV as h v val :=
  let ⟨m, hm, hv⟩ := F.ns; ⟨m, ⟨hm, R.base, F.above⟩, hv⟩
theorem ext_of_news {b h h' : Heap} {L : Addr} {m : Str → Option Value} {news : List (Addr × Obj)} (Fr' : Fr b L h' m) (N : News b L h' news) (hs : ∀ p ∈ newsOf b L h, p ∈ news) (hb : ∀ (a : Addr) (o : Obj), b.get? a = some o → h.get? a = some o) :
    ∀ (a : Addr) (o : Obj), a ≠ L → h.get? a = some o → h'.get? a = some o := fun a o hL e => by
  cases q : b.get? a with
  | none => exact (N (a, o) (hs _ (mem_newsOf.mpr ⟨e, hL, q⟩))).1
  | some o' =>
    have := hb a o' q
    rw [e] at this; cases this
    exact Fr'.keep _ _ q

theorem FrRel.notImm {g : Cfg} {env : Env} {as : List Addr} {fr : Fra} {h : Heap} (F : FrRel g env as fr h) : ∀ a ∈ [env.locals], ∀ o, h.get? a = some o → ¬ Imm o := fun a ha o e hi => by
  simp at ha; subst ha
  obtain ⟨m, ⟨o', es, ep, e', d, _⟩, _⟩ := F.ns
  rw [e] at e'; cases e'
  exact hi.2.1 _ _ d

end Mine

set_option autoImplicit false
namespace Mine
open PySem PyProof.Rows

noncomputable def EPost (g : Cfg) (env : Env) (as : List Addr) (fr : Fra) (s : Shared) (v : V) (σ' : Sto) (Q : Value → Shared → Prop) : Prop :=
  ∀ (val : Value) (as' : List Addr) (h' : Heap) (tk : Nat), Step [env.locals] as s.heap as' h' → Rel g as' σ' h' → FrRel g env as' fr h' → RepV as' h' v val → Q val { s with heap := h', toks := tk }

/-- the state at hand -/
structure At (g : Cfg) (env : Env) (as : List Addr) (fr : Fra) (σ : Sto) (s : Shared) : Prop where
  F : FrRel g env as fr s.heap
  R : Rel g as σ s.heap

theorem mul_ok {a b : Int} (h : mulOk a b) : IntMulOk a b := by
  have key : ∀ (x : Int) (k : Nat), x.natAbs < 2 ^ k → Builtin.Int.intBits x ≤ k := fun x k hx => by
    unfold Builtin.Int.intBits
    split
    · exact Nat.zero_le _
    · rename_i h0
      have h0' : x.natAbs ≠ 0 := by intro q; apply h0; simp; omega
      exact (Nat.log2_lt h0').mpr hx
  unfold IntMulOk
  rcases h with h | h | ⟨h, h'⟩
  · have := key a 64 h
    have e : decide (Builtin.Int.intBits a > shortFactorBits) = false := decide_eq_false (Nat.not_lt.mpr this)
    rw [e]; simp
  · have := key b 64 h
    have e : decide (Builtin.Int.intBits b > shortFactorBits) = false := decide_eq_false (Nat.not_lt.mpr this)
    rw [e]; simp
  · have h1 := key a 333 (Nat.lt_of_lt_of_le h (by decide +kernel))
    have h2 := key b 333 (Nat.lt_of_lt_of_le h' (by decide +kernel))
    have e : Builtin.Int.intTooBig (Builtin.Int.intBits a + Builtin.Int.intBits b) = false := by
      unfold Builtin.Int.intTooBig bitsLine
      exact decide_eq_false (by have : (2 : Nat) ^ 27 = 134217728 := by decide +kernel
                                omega)
    rw [e]; simp

theorem div_ok {x y : Int} (h : y.natAbs < 10 ^ 100) : Builtin.divisionGoesByPylong x y = false := by
  unfold Builtin.divisionGoesByPylong
  have h1 : (if (y == 0) = true then 0 else y.natAbs.log2 / 30 + 1) ≤ 300 := by
    split
    · exact Nat.zero_le _
    · rename_i h0
      have h0' : y.natAbs ≠ 0 := by intro q; apply h0; simp; omega
      have : y.natAbs.log2 < 333 := (Nat.log2_lt h0').mpr (Nat.lt_of_lt_of_le h (by decide +kernel))
      omega
  simp only [gt_iff_lt, decide_eq_false (Nat.not_lt.mpr h1), Bool.false_and]

theorem keeps_push (h : Heap) (o : Obj) : ∀ (a : Addr) (o' : Obj), h.get? a = some o' → (h.push o).get? a = some o' := fun _ _ e => Heap.get?_push_of_some _ e
theorem new_none (h : Heap) : h.get? h.objs.size = none := by
  cases e : h.get? h.objs.size with
  | none => rfl
  | some o => exact absurd (Heap.lt_size e) (Nat.lt_irrefl _)

section
variable {g : Cfg} {env : Env} {A : Around} {X : Value → Shared → Prop} {s : Shared} {as : List Addr} {fr : Fra} {σ σ' : Sto} {Q : Value → Shared → Prop}

theorem At.frame (T : At g env as fr σ s) {as' : List Addr} {h' : Heap} (x : Step [] as s.heap as' h') : FrRel g env as' fr h' :=
  T.F.keep (T.R.keep0 x) x (by simp)
theorem EPost.use {v : V} (hQ : EPost g env as fr s v σ' Q) (T : At g env as fr σ s) {val : Value} {as' : List Addr} {h' : Heap} {tk : Nat} (x : Step [] as s.heap as' h') (R' : Rel g as' σ' h') (r : RepV as' h' v val) :
    Q val { s with heap := h', toks := tk } := hQ val as' h' tk (x.grow (by simp)) R' (T.frame x) r
theorem EPost.same {v : V} (hQ : EPost g env as fr s v σ Q) (T : At g env as fr σ s) {val : Value} {tk : Nat} (r : RepV as s.heap v val) : Q val { s with toks := tk } := hQ.use T (Step.refl _ _ _) T.R r
theorem EPost.same' {v : V} (hQ : EPost g env as fr s v σ Q) (T : At g env as fr σ s) {val : Value} (r : RepV as s.heap v val) : Q val s := hQ.same (tk := s.toks) T r
theorem EPost.int {i : Int} (hQ : EPost g env as fr s (.int i) σ Q) (T : At g env as fr σ s) {t : Tok} {tk : Nat} : Q (.int i t) { s with toks := tk } := hQ.same T (by rw [RepV]; exact ⟨_, rfl⟩)
theorem EPost.bool {b : Bool} (hQ : EPost g env as fr s (.bool b) σ Q) (T : At g env as fr σ s) {tk : Nat} : Q (.bool b) { s with toks := tk } := hQ.same T (by rw [RepV])
theorem EPost.bool' {b : Bool} (hQ : EPost g env as fr s (.bool b) σ Q) (T : At g env as fr σ s) : Q (.bool b) s := hQ.bool (tk := s.toks) T

/-- a new list -/
theorem EPost.new {xs : List V} {items : Array Value} {v : V} {tk : Nat} {h' : Heap} {a : Addr} (hQ : EPost g env as fr s v σ' Q) (T : At g env as fr σ s) (k : ∀ (a : Addr) (o' : Obj), s.heap.get? a = some o' → h'.get? a = some o') (hn : s.heap.get? a = none)
    (hp : h'.PlainList a items) (r : RepVs as s.heap xs items.toList) (e : newL xs σ = .ok v σ') : Q (.ref a) { s with heap := h', toks := tk } := by
  unfold newL at e
  split at e
  · rename_i hz
    cases e
    have K : Keep as s.heap (as ++ [a]) h' := ⟨fun i b e => by rw [List.getElem?_append_left (List.getElem?_eq_some_iff.mp e).1]; exact e, fun a o e _ => k a o e⟩
    refine hQ.use T (step_push k hn) (T.R.push k hn ⟨items, hp, RepVs.keep K _ _ r, hz⟩) ?_
    rw [RepV]
    exact ⟨_, rfl, by rw [← T.R.len]; simp⟩
  · cases e
theorem newL_len {xs : List V} {v : V} (e : newL xs σ = .ok v σ') : xs.length ≤ 16777216 := by
  unfold newL at e; split at e
  · assumption
  · cases e

theorem EPost.newH {xs : List V} {items : Array Value} {v : V} {tk : Nat} (hQ : EPost g env as fr s v σ' Q) (T : At g env as fr σ s)
    (r : RepVs as s.heap xs items.toList) (e : newL xs σ = .ok v σ') : Q (.ref s.heap.objs.size) { s with heap := s.heap.push { cls := .type "list", data := .seq items }, toks := tk } :=
  hQ.new T (keeps_push _ _) (new_none _) ⟨0, Heap.get?_push_size _ rfl⟩ r e

/-- a new list by the kit's ledger -/
theorem EPost.newN {xs : List V} {items : Array Value} {v : V} {tk n : Nat} {h' : Heap} {a : Addr} {m m' : Str → Option Value} {news : List (Addr × Obj)} (hQ : EPost g env as fr s v σ' Q) (T : At g env as fr σ s) (hm : s.heap.Ns env.locals m)
    (F' : Fr g.b env.locals h' m') (hm' : m' = m) (N' : News g.b env.locals h' news) (hs : ∀ p ∈ newsOf g.b env.locals s.heap, p ∈ news) (hin : (a, ({ cls := .type "list", data := .seq items n } : Obj)) ∈ news) (hn : s.heap.get? a = none)
    (r : RepVs as s.heap xs items.toList) (e : newL xs σ = .ok v σ') : Q (.ref a) { s with heap := h', toks := tk } := by
  subst hm'
  have ext := ext_of_news F' N' hs T.R.base
  unfold newL at e
  split at e
  · rename_i hz
    cases e
    have x : Step [env.locals] as s.heap (as ++ [a]) h' := ⟨⟨[a], rfl, fun b hb => by simp at hb; subst hb; exact hn⟩, fun b o e h1 _ => ext b o (by simpa using h1) e⟩
    have K := T.R.keep x T.F.notImm
    have hpl : h'.PlainList a items := ⟨n, (N' _ hin).1⟩
    have hL : env.locals ≠ a := fun q => (N' _ hin).2.1 q.symm
    have obj' : ∀ (i : Nat) (b : Addr) (o : AO), as[i]? = some b → σ[i]? = some o → RepO g (as ++ [a]) h' o b := fun i b o h1 h2 =>
      (T.R.obj i b o h1 h2).keep K fun ob e => ext b ob (fun q => T.F.off (q ▸ List.mem_of_getElem? h1)) e
    have hna : a ∉ as := fun q => by obtain ⟨ob, e, _⟩ := T.R.there q; rw [hn] at e; cases e
    have R' : Rel g (as ++ [a]) (σ ++ [.lst xs]) h' := by
      refine ⟨F'.keep, by simp [T.R.len], ?_, fun b hb => ?_, fun i b ob h1 h2 => ?_⟩
      · exact List.nodup_append.mpr ⟨T.R.nd, by simp, fun x hx y hy e => by simp at hy; subst hy; subst e; exact hna hx⟩
      · rcases List.mem_append.mp hb with q | q
        · exact T.R.new b q
        · simp at q; subst q; exact (N' _ hin).2.2
      · rcases Nat.lt_trichotomy i as.length with hi | hi | hi
        · rw [List.getElem?_append_left hi] at h1
          rw [List.getElem?_append_left (T.R.len ▸ hi)] at h2
          exact obj' i b ob h1 h2
        · subst hi
          rw [T.R.len] at h2
          simp at h1 h2; subst h1; subst h2
          exact ⟨items, hpl, RepVs.keep K _ _ r, hz⟩
        · rw [List.getElem?_eq_none (by simp; omega)] at h1; cases h1
    refine hQ (.ref a) (as ++ [a]) h' tk x R' ?_ ?_
    · obtain ⟨m0, hm0, hv⟩ := T.F.ns
      have hmm : ∀ x, m0 x = m' x := fun x => hm0.agree hm x
      refine ⟨T.F.kind, T.F.above, T.F.glob, T.F.blt, T.F.len, T.F.nd, ⟨m', F'.ns, fun i x v h1 h2 => ?_⟩, fun i x k h1 h2 => ?_, fun q => ?_, fun x c hc => ⟨fun q => ?_, (T.F.offc _ _ hc).2.1, ?_⟩, T.F.apart, T.F.newc⟩
      · obtain ⟨val, e1, e2⟩ := hv i x v h1 h2
        exact ⟨val, by rw [← hmm]; exact e1, RepV.keep K _ _ e2⟩
      · obtain ⟨c, cv, e1, ⟨o, e2, e2'⟩, e3⟩ := T.F.cells i x k h1 h2
        refine ⟨c, cv, e1, ⟨o, ext _ _ (T.F.offc _ _ e1).2.1 e2, e2'⟩, fun v e => ?_⟩
        obtain ⟨val, e4, e5⟩ := e3 v e
        exact ⟨val, e4, RepV.keep K _ _ e5⟩
      · rcases List.mem_append.mp q with q | q
        · exact T.F.off q
        · simp at q; exact hL q
      · rcases List.mem_append.mp q with q | q
        · exact (T.F.offc _ _ hc).1 q
        · simp at q; subst q
          obtain ⟨cv, o, e, _⟩ := (T.F.offc _ _ hc).2.2; rw [hn] at e; cases e
      · obtain ⟨cv, o, e, e'⟩ := (T.F.offc _ _ hc).2.2
        exact ⟨cv, o, ext _ _ (T.F.offc _ _ hc).2.1 e, e'⟩
    · rw [RepV]; exact ⟨_, rfl, by rw [← T.R.len]; simp⟩
  · cases e

theorem rep_list {l : Nat} {x : Value} {vs : List V} (R : Rel g as σ s.heap) (r : RepV as s.heap (.ref l) x) (e : getL σ l = some vs) :
    ∃ a items n, x = .ref a ∧ as[l]? = some a ∧ IsL s.heap a items n ∧ RepVs as s.heap vs items.toList ∧ vs.length ≤ 16777216 ∧ items.size = vs.length := by
  rw [RepV] at r
  obtain ⟨a, rfl, ha⟩ := r
  unfold getL at e
  split at e
  · rename_i xs hx
    cases e
    obtain ⟨items, ⟨n, p⟩, q, z⟩ := R.obj l a _ ha hx
    exact ⟨a, items, n, rfl, ha, p, q, z, by have := (RepVs.f2.mp q).length; simpa using this.symm⟩
  · cases e
theorem getL_of {l : Nat} {vs : List V} (e : σ[l]? = some (.lst vs)) : getL σ l = some vs := by unfold getL; rw [e]

theorem foldl_rep (x : Value) : ∀ (n : Nat) (acc : Array Value), (List.foldl (fun x1 x2 => x1 ++ x2) acc (List.replicate n #[x])).toList = acc.toList ++ List.replicate n x
  | 0, acc => by simp
  | n + 1, acc => by rw [List.replicate_succ, List.foldl_cons, foldl_rep x n]; simp [List.replicate_succ]

theorem bad_ok {v : V} {σ' : Sto} {P : Prop} (h : RE.bad = .ok v σ') : P := nomatch h
theorem rep_int {h : Heap} {i : Int} {x : Value} (r : RepV as h (.int i) x) : ∃ t, x = .int i t := by rw [RepV] at r; exact r
theorem wII_inv {a b v : V} {f : Int → Int → RE} (e : wII a b f = .ok v σ') : ∃ x y, a = .int x ∧ b = .int y ∧ f x y = .ok v σ' := by
  cases a <;> first | exact bad_ok e | skip
  cases b <;> first | exact bad_ok e | exact ⟨_, _, rfl, rfl, e⟩
theorem gL_inv {o : Option (List V)} {f : List V → RE} {v : V} (e : (match o with | some xs => f xs | none => .bad) = .ok v σ') : ∃ xs, o = some xs ∧ f xs = .ok v σ' := by
  cases o with
  | none => exact bad_ok e
  | some xs => exact ⟨xs, rfl, e⟩
theorem if_inv {c : Prop} [Decidable c] {v : V} {r : RE} (e : (if c then r else .bad) = .ok v σ') : c ∧ r = .ok v σ' := by
  by_cases h : c
  · rw [if_pos h] at e; exact ⟨h, e⟩
  · rw [if_neg h] at e; exact bad_ok e
theorem ok_inj {v w : V} {τ : Sto} (e : RE.ok v τ = .ok w σ') : w = v ∧ σ' = τ := by cases e; exact ⟨rfl, rfl⟩

theorem o_add {a b v : V} {x y : Value} (T : At g env as fr σ s) (ha : RepV as s.heap a x) (hb : RepV as s.heap b y)
    (e : addV a b σ = .ok v σ') (hQ : EPost g env as fr s v σ' Q) : wpAny (model g.prog g.w) A (binaryOp .Add x y) Q X s := by
  cases a <;> first | exact bad_ok e | skip
  · cases b <;> first | exact bad_ok e | skip
    obtain ⟨rfl, rfl⟩ := ok_inj e
    obtain ⟨t, rfl⟩ := rep_int ha; obtain ⟨u, rfl⟩ := rep_int hb
    exact PyProof.Rows.add_int (hQ.int T)
  · cases b <;> first | exact bad_ok e | skip
    obtain ⟨hz, e⟩ := if_inv e
    obtain ⟨rfl, rfl⟩ := ok_inj e
    rw [RepV] at ha hb; obtain ⟨t, rfl⟩ := ha; obtain ⟨u, rfl⟩ := hb
    refine PyProof.Rows.add_str (fun t' tk => hQ.same T (by rw [RepV]; exact ⟨_, rfl⟩)) (Nat.le_trans hz (by decide))
  · cases b <;> first | exact bad_ok e | skip
    obtain ⟨xs, e1, e⟩ := gL_inv e
    obtain ⟨ys, e2, e⟩ := gL_inv e
    obtain ⟨a1, i1, n1, rfl, _, p1, q1, _, z1⟩ := rep_list T.R ha e1
    obtain ⟨a2, i2, n2, rfl, _, p2, q2, _, z2⟩ := rep_list T.R hb e2
    have hz := newL_len e
    refine P.add_list p1 p2 (hQ.newH (tk := s.toks) (xs := xs ++ ys) T ?_ e) ?_
    · rw [Array.toList_append]; exact RepVs.f2.mpr ((RepVs.f2.mp q1).append (RepVs.f2.mp q2))
    · rw [z1, z2]; show _ ≤ 2 ^ 24; simpa using hz
theorem o_mul {a b v : V} {x y : Value} (T : At g env as fr σ s) (ha : RepV as s.heap a x) (hb : RepV as s.heap b y)
    (e : mulV a b σ = .ok v σ') (hQ : EPost g env as fr s v σ' Q) : wpAny (model g.prog g.w) A (binaryOp .Mult x y) Q X s := by
  cases b <;> first | exact bad_ok e | skip
  rename_i n
  obtain ⟨u, rfl⟩ := rep_int hb
  cases a <;> first | exact bad_ok e | skip
  · obtain ⟨hm, e⟩ := if_inv e
    obtain ⟨rfl, rfl⟩ := ok_inj e
    obtain ⟨t, rfl⟩ := rep_int ha
    exact PyProof.Rows.mul_int (hQ.int T) (mul_ok hm)
  · rename_i l
    have e : repN (getL σ l) n σ = .ok v σ' := e
    rcases e1 : getL σ l with _ | ⟨_ | ⟨x1, _ | ⟨x2, xs⟩⟩⟩ <;> rw [e1] at e
    · exact bad_ok e
    · exact bad_ok e
    · obtain ⟨hlo, e⟩ := if_inv e
      obtain ⟨a1, i1, n1, rfl, _, p1, q1, _, z1⟩ := rep_list T.R ha e1
      have hz := newL_len e
      rw [List.length_replicate] at hz
      obtain ⟨m, hF, _⟩ := T.F.fr T.R
      have hz1 : i1.size = 1 := by simpa using z1
      refine mul_list hF (news_all _ _ _) p1 (by omega) (by omega) (by rw [hz1]; omega) fun h' F' N' => ?_
      rw [RepVs] at q1
      obtain ⟨y, ys, q2, q3, q4⟩ := q1
      rw [RepVs] at q4; subst q4
      have hi : i1 = #[y] := by apply Array.ext'; simpa using q2
      subst hi
      refine hQ.newN (tk := s.toks) (xs := List.replicate n.toNat x1) T hF.ns F' rfl N' (fun p hp => .tail _ hp) (.head _) (new_none _) ?_ e
      have : (if (#[y] : Array Value).isEmpty = true then 0 else n.toNat) = n.toNat := by simp
      rw [this, foldl_rep]
      simpa using RepVs.f2.mpr (F2.replicate q3 n.toNat)
    · exact bad_ok e
theorem o_bin {op : Operator} {a b v : V} {x y : Value} (T : At g env as fr σ s) (ha : RepV as s.heap a x) (hb : RepV as s.heap b y)
    (e : binV op a b σ = .ok v σ') (hQ : EPost g env as fr s v σ' Q) : wpAny (model g.prog g.w) A (binaryOp op x y) Q X s := by
  cases op <;> first | exact bad_ok e | exact o_add T ha hb e hQ | exact o_mul T ha hb e hQ | skip
  · obtain ⟨i, j, rfl, rfl, e'⟩ := wII_inv e
    obtain ⟨rfl, rfl⟩ := ok_inj e'
    obtain ⟨t, rfl⟩ := rep_int ha; obtain ⟨u, rfl⟩ := rep_int hb
    exact PyProof.Rows.sub_int (hQ.int T)
  · obtain ⟨i, j, rfl, rfl, e'⟩ := wII_inv e
    by_cases hm : j = 0
    · rw [if_pos hm] at e'; exact bad_ok e'
    · rw [if_neg hm] at e'
      obtain ⟨rfl, rfl⟩ := ok_inj e'
      obtain ⟨t, rfl⟩ := rep_int ha; obtain ⟨u, rfl⟩ := rep_int hb
      exact PyProof.Rows.mod_int hm (hQ.int T)
  · obtain ⟨i, j, rfl, rfl, e'⟩ := wII_inv e
    obtain ⟨hm, e'⟩ := if_inv e'
    obtain ⟨rfl, rfl⟩ := ok_inj e'
    obtain ⟨t, rfl⟩ := rep_int ha; obtain ⟨u, rfl⟩ := rep_int hb
    exact PyProof.Rows.floordiv_int hm.1 (hQ.int T) (.inl (div_ok hm.2))
end
end Mine

set_option autoImplicit false
namespace Mine
open PySem PyProof.Rows

structure Room (A : Around) (n : Nat) : Prop where
  units : A.units + 20 * n + 60 ≤ 9900
  depth : A.depth + 4 * n + 20 ≤ 1000
  handled : A.handled = none

theorem mapO_cons {α β : Type} {f : α → Option β} {x : α} {xs : List α} {ys : List β} (e : mapO f (x :: xs) = some ys) : ∃ y r, f x = some y ∧ mapO f xs = some r ∧ ys = y :: r := by
  rw [mapO] at e
  split at e
  · rename_i y r h1 h2; cases e; exact ⟨y, r, h1, h2, rfl⟩
  · cases e

section
variable {g : Cfg} {as : List Addr} {σ : Sto} {h : Heap}

theorem readsAll_of {f : V → Option PyData} {n : Nat} (hf : ∀ v d x, f v = some d → RepV as h v x → ∃ bs, Reads h x d bs ∧ d.canLay0 = true ∧ d.depth ≤ n) :
    ∀ (vs : List V) (ds : List PyData) (xs : List Value), mapO f vs = some ds → RepVs as h vs xs → ∃ bs, ReadsAll h xs ds bs ∧ PyData.canLayAll0 ds = true ∧ PyData.depthAll ds ≤ n
  | [], ds, xs, e, r => by
    rw [mapO] at e; cases e; rw [RepVs] at r; subst r
    exact ⟨_, .nil, rfl, by simp [PyData.depthAll]⟩
  | v :: vs, ds, xs, e, r => by
    obtain ⟨d, r', e1, e2, rfl⟩ := mapO_cons e
    rw [RepVs] at r
    obtain ⟨y, ys, rfl, r1, r2⟩ := r
    obtain ⟨b1, h1, h2, h3⟩ := hf v d y e1 r1
    obtain ⟨b2, h4, h5, h6⟩ := readsAll_of hf vs r' ys e2 r2
    exact ⟨_, .cons h1 h4, by simp [PyData.canLayAll0, h2, h5], by simp [PyData.depthAll]; omega⟩

theorem reads_of (R : Rel g as σ h) : ∀ (n : Nat) (v : V) (d : PyData) (x : Value), toD n σ v = some d → RepV as h v x → ∃ bs, Reads h x d bs ∧ d.canLay0 = true ∧ d.depth ≤ n + 1 := by
  intro n
  induction n with
  | zero =>
    intro v d x e r
    cases v with
    | none => rw [toD] at e; cases e; rw [RepV] at r; subst r; exact ⟨_, .none, rfl, by simp [PyData.depth]⟩
    | bool b => rw [toD] at e; cases e; rw [RepV] at r; subst r; exact ⟨_, .bool b, rfl, by simp [PyData.depth]⟩
    | int i => rw [toD] at e; cases e; rw [RepV] at r; obtain ⟨t, rfl⟩ := r; exact ⟨_, .int i t, rfl, by simp [PyData.depth]⟩
    | str s =>
      rw [toD] at e; split at e
      · rename_i ho; cases e; rw [RepV] at r; obtain ⟨t, rfl⟩ := r; exact ⟨_, .str s t, by simpa [PyData.canLay0] using ho, by simp [PyData.depth]⟩
      · cases e
    | tup vs => simp [toD] at e
    | ref l => simp [toD] at e
    | rng lo hi => simp [toD] at e
  | succ n ih =>
    intro v d x e r
    cases v with
    | none => rw [toD] at e; cases e; rw [RepV] at r; subst r; exact ⟨_, .none, rfl, by simp [PyData.depth]⟩
    | bool b => rw [toD] at e; cases e; rw [RepV] at r; subst r; exact ⟨_, .bool b, rfl, by simp [PyData.depth]⟩
    | int i => rw [toD] at e; cases e; rw [RepV] at r; obtain ⟨t, rfl⟩ := r; exact ⟨_, .int i t, rfl, by simp [PyData.depth]⟩
    | str s =>
      rw [toD] at e; split at e
      · rename_i ho; cases e; rw [RepV] at r; obtain ⟨t, rfl⟩ := r; exact ⟨_, .str s t, by simpa [PyData.canLay0] using ho, by simp [PyData.depth]⟩
      · cases e
    | tup vs =>
      rw [toD] at e
      obtain ⟨ds, e1, rfl⟩ := Option.map_eq_some_iff.mp e
      rw [RepV] at r
      obtain ⟨a, items, k, rfl, ho, _, hr⟩ := r
      obtain ⟨bs, h1, h2, h3⟩ := readsAll_of ih vs ds _ e1 hr
      exact ⟨_, .tuple ho rfl rfl h1, by simpa [PyData.canLay0] using h2, by simp [PyData.depth]; omega⟩
    | ref l =>
      rw [toD] at e
      split at e
      · rename_i vs hl
        obtain ⟨ds, e1, rfl⟩ := Option.map_eq_some_iff.mp e
        obtain ⟨a, items, k, rfl, _, ho, hr, _⟩ := rep_list (s := { heap := h }) R r hl
        obtain ⟨bs, h1, h2, h3⟩ := readsAll_of ih vs ds _ e1 hr
        exact ⟨_, .list ho rfl rfl h1, by simpa [PyData.canLay0] using h2, by simp [PyData.depth]; omega⟩
      · cases e
    | rng lo hi => simp [toD] at e
end

theorem intsAre_of {as : List Addr} {h : Heap} : ∀ {vs : List V} {is : List Int} {xs : List Value}, intsOf vs = some is → RepVs as h vs xs → IntsAre xs is
  | [], is, xs, e, r => by
    unfold intsOf at e; rw [mapO] at e; cases e; rw [RepVs] at r; subst r; exact .nil
  | v :: vs, is, xs, e, r => by
    unfold intsOf at e
    obtain ⟨i, r', e1, e2, rfl⟩ := mapO_cons e
    rw [RepVs] at r
    obtain ⟨y, ys, rfl, r1, r2⟩ := r
    cases v with
    | int j => cases e1; rw [RepV] at r1; obtain ⟨t, rfl⟩ := r1; exact .cons _ _ (intsAre_of (vs := vs) e2 r2)
    | _ => cases e1

section
variable {g : Cfg} {env : Env} {A : Around} {X : Value → Shared → Prop} {s : Shared} {as : List Addr} {fr : Fra} {σ σ' : Sto} {Q : Value → Shared → Prop}

theorem o_eq {a b : V} {x y : Value} {r : Bool} {n : Nat} (T : At g env as fr σ s) (hA : Room A n) (ha : RepV as s.heap a x) (hb : RepV as s.heap b y)
    (e : eqV σ a b = some r) (hQ : Q (.bool r) s) : wpAny (model g.prog g.w) A (compareOp .Eq x y) Q X s := by
  unfold eqV at e
  split at e
  · rename_i da db e1 e2
    cases e
    obtain ⟨_, r1, c1, d1⟩ := reads_of T.R 4 a da x e1 ha
    obtain ⟨_, r2, c2, d2⟩ := reads_of T.R 4 b db y e2 hb
    exact SeqAt.compareEq_reads r1 r2 c1 c2 (by have := hA.units; show _ < 9900; omega) hQ
  · cases e
theorem o_ne {a b : V} {x y : Value} {r : Bool} {n : Nat} (T : At g env as fr σ s) (hA : Room A n) (ha : RepV as s.heap a x) (hb : RepV as s.heap b y)
    (e : eqV σ a b = some r) (hQ : Q (.bool (!r)) s) : wpAny (model g.prog g.w) A (compareOp .NotEq x y) Q X s := by
  unfold eqV at e
  split at e
  · rename_i da db e1 e2
    cases e
    obtain ⟨_, r1, c1, d1⟩ := reads_of T.R 4 a da x e1 ha
    obtain ⟨_, r2, c2, d2⟩ := reads_of T.R 4 b db y e2 hb
    exact SeqAt.compareNe_reads r1 r2 c1 c2 (by have := hA.units; show _ < 9900; omega) hQ
  · cases e
theorem any_eq {is : List Int} {i : Int} : is.any (· == i) = decide (i ∈ is) := by
  induction is with
  | nil => rfl
  | cons j r ih =>
    rw [List.any_cons, ih]
    by_cases h : j = i
    · subst h; simp
    · have h' : ¬ i = j := fun q => h q.symm
      simp [h, h']

structure Sys (g : Cfg) : Prop where
  sys : sysModules < g.b.objs.size

theorem kv_at {h : Heap} {i : Int} : ∀ {es : List (Int × V)} {kvs : List (Int × Value)}, F2 (fun (e : Int × V) (x : Int × Value) => e.1 = x.1 ∧ RepV as h e.2 x.2) es kvs →
    (valueAt kvs i).isSome = es.any (fun e => e.1 == i) ∧ ∀ v, es.lookup i = some v → ∃ y, valueAt kvs i = some y ∧ RepV as h v y := by
  intro es kvs f
  induction f with
  | nil => exact ⟨rfl, fun v e => by cases e⟩
  | @cons a b as' bs x r ih =>
    obtain ⟨h1, h2⟩ := x
    obtain ⟨k, v0⟩ := a
    obtain ⟨k', y0⟩ := b
    have h1' : k = k' := h1
    subst h1'
    have e0 : valueAt ((k, y0) :: bs) i = if k = i then some y0 else valueAt bs i := by
      unfold valueAt
      rw [List.find?_cons]
      by_cases hk : k = i <;> simp [hk]
    rw [e0, List.lookup_cons, List.any_cons]
    by_cases hk : k = i
    · subst hk; simpa using h2
    · simp only [hk, if_false, Bool.false_or, beq_eq_false_iff_ne.mpr hk, show (i == k) = false from beq_eq_false_iff_ne.mpr (Ne.symm hk)]
      exact ih

theorem tk_at {h : Heap} {i : List Int} : ∀ {es : List (List Int × V)} {xs : List (List Int × Addr × Value)}, F2 (fun (e : List Int × V) (x : List Int × Addr × Value) => e.1 = x.1 ∧ RepV as h e.2 x.2.2) es xs →
    (atKey xs i).isSome = es.any (fun e => e.1 == i) ∧ ∀ v, es.lookup i = some v → ∃ p, atKey xs i = some p ∧ RepV as h v p.2 := by
  intro es xs f
  induction f with
  | nil => exact ⟨rfl, fun v e => by cases e⟩
  | @cons a b as' bs x r ih =>
    obtain ⟨h1, h2⟩ := x
    obtain ⟨k, v0⟩ := a
    obtain ⟨k', y0⟩ := b
    have h1' : k = k' := h1
    subst h1'
    have e0 : atKey ((k, y0) :: bs) i = if k = i then some y0 else atKey bs i := by
      unfold atKey
      rw [List.find?_cons]
      by_cases hk : k = i <;> simp [hk]
    rw [e0, List.lookup_cons, List.any_cons]
    by_cases hk : k = i
    · subst hk; simpa using h2
    · simp only [hk, if_false, Bool.false_or, beq_eq_false_iff_ne.mpr hk, show (i == k) = false from beq_eq_false_iff_ne.mpr (Ne.symm hk)]
      exact ih

theorem tupKey_of {ks : List V} {k : List Int} {x : Value} {h : Heap} (r : RepV as h (.tup ks) x) (e : intsOf ks = some k) : ∃ a, x = .ref a ∧ IsTupleKey (intKind g.prog g.w) h k a := by
  rw [RepV] at r
  obtain ⟨a, items, n, rfl, ho, _, hr⟩ := r
  refine ⟨a, rfl, _, items, n, ho, rfl, rfl, ?_⟩
  have := intsAre_of e hr
  clear ho hr e
  generalize items.toList = xs at this
  induction this with
  | nil => exact .nil
  | cons n t _ ih => exact .cons (intKind_is _ _ _ _) ih

theorem o_in {a c : V} {x y : Value} {r : Bool} {n : Nat} (G : Sys g) (T : At g env as fr σ s) (hA : Room A n) (ha : RepV as s.heap a x) (hc : RepV as s.heap c y)
    (e : inV σ a c = some r) (hQ : EPost g env as fr s (.bool r) σ Q) : wpAny (model g.prog g.w) A (compareOp .In x y) Q X s := by
  unfold inV at e
  split at e
  · rename_i l
    split at e
    · rename_i vs i hl
      obtain ⟨is, e1, e2⟩ := Option.map_eq_some_iff.mp e
      obtain ⟨a1, items, k, rfl, _, ho, hr, _⟩ := rep_list T.R hc (getL_of hl)
      rw [RepV] at ha; obtain ⟨t, rfl⟩ := ha
      have hi := intsAre_of e1 hr
      refine in_list_ints (vs := items.toList) (by simpa using ho.isList) hi ?_
      rw [any_eq, e2]; exact hQ.bool' T
    · rename_i es i hl
      cases e
      rw [RepV] at ha; rw [RepV] at hc; obtain ⟨t, rfl⟩ := ha; obtain ⟨d, rfl, hd⟩ := hc
      obtain ⟨kvs, hk, hf, _, hns⟩ := T.R.obj _ _ _ hd hl
      refine wpAny_in_of (intKind_is _ _ i t) hns hk.mapOf ?_
      rw [(kv_at hf).1]; exact hQ.bool T
    · rename_i es ks hl
      obtain ⟨k, e1, e2⟩ := Option.map_eq_some_iff.mp e
      obtain ⟨ta, rfl, hk⟩ := tupKey_of (g := g) ha e1
      rw [RepV] at hc; obtain ⟨d, rfl, hd⟩ := hc
      obtain ⟨xs, hx, hf, _, hns⟩ := T.R.obj _ _ _ hd hl
      refine wpAny_in_heap (knd := tupleKind (intKind g.prog g.w)) (tupleKind_room_in1 (by have := hA.units; show _ < 9900; omega)) hk hns hx ?_
      rw [(tk_at hf).1, e2]; exact hQ.bool T
    · cases e
  · cases e
theorem o_notIn {a c : V} {x y : Value} {r : Bool} (G : Sys g) (T : At g env as fr σ s) (ha : RepV as s.heap a x) (hc : RepV as s.heap c y)
    (e : notInV σ a c = some r) (hQ : EPost g env as fr s (.bool r) σ Q) : wpAny (model g.prog g.w) A (compareOp .NotIn x y) Q X s := by
  unfold notInV at e
  split at e
  · rename_i l
    split at e
    · rename_i vs i hl
      obtain ⟨is, e1, e2⟩ := Option.map_eq_some_iff.mp e
      obtain ⟨a1, items, k, rfl, _, ho, hr, _⟩ := rep_list T.R hc (getL_of hl)
      rw [RepV] at ha; obtain ⟨t, rfl⟩ := ha
      have hi := intsAre_of e1 hr
      refine notin_list_ints (vs := items.toList) (by simpa using ho.isList) hi ?_
      rw [any_eq, e2]; exact hQ.bool' T
    · rename_i es i hl
      cases e
      rw [RepV] at ha; rw [RepV] at hc; obtain ⟨t, rfl⟩ := ha; obtain ⟨d, rfl, hd⟩ := hc
      obtain ⟨kvs, hk, hf, _, hns⟩ := T.R.obj _ _ _ hd hl
      refine wpAny_notIn_of (intKind_is _ _ i t) hns hk.mapOf ?_
      rw [(kv_at hf).1]; exact hQ.bool T
    · cases e
  · cases e

theorem isNone_rep {h : Heap} {v : V} {x : Value} (r : RepV as h v x) : (x == Value.none) = isNone v := by
  cases v with
  | none => rw [RepV] at r; subst r; rfl
  | bool b => rw [RepV] at r; subst r; rfl
  | int i => rw [RepV] at r; obtain ⟨t, rfl⟩ := r; rfl
  | str i => rw [RepV] at r; obtain ⟨t, rfl⟩ := r; rfl
  | tup i => rw [RepV] at r; obtain ⟨t, _, _, rfl, _⟩ := r; rfl
  | ref i => rw [RepV] at r; obtain ⟨t, rfl, _⟩ := r; rfl
  | rng i j => rw [RepV] at r; obtain ⟨t, _, _, _, rfl, _⟩ := r; rfl

theorem o_cmp {op : CmpOp} {a b : V} {x y : Value} {r : Bool} {n : Nat} (G : Sys g) (T : At g env as fr σ s) (hA : Room A n) (ha : RepV as s.heap a x) (hb : RepV as s.heap b y)
    (e : cmpV op a b σ = some r) (hQ : EPost g env as fr s (.bool r) σ Q) : wpAny (model g.prog g.w) A (compareOp op x y) Q X s := by
  unfold cmpV at e
  cases op with
  | Lt =>
    dsimp only at e; split at e
    · cases e; rw [RepV] at ha hb; obtain ⟨t, rfl⟩ := ha; obtain ⟨u, rfl⟩ := hb; exact PyProof.Rows.lt_int (hQ.bool' T)
    · cases e
  | LtE =>
    dsimp only at e; split at e
    · cases e; rw [RepV] at ha hb; obtain ⟨t, rfl⟩ := ha; obtain ⟨u, rfl⟩ := hb; exact PyProof.Rows.le_int (hQ.bool' T)
    · cases e
  | Gt =>
    dsimp only at e; split at e
    · cases e; rw [RepV] at ha hb; obtain ⟨t, rfl⟩ := ha; obtain ⟨u, rfl⟩ := hb; exact PyProof.Rows.gt_int (hQ.bool' T)
    · cases e
  | GtE =>
    dsimp only at e; split at e
    · cases e; rw [RepV] at ha hb; obtain ⟨t, rfl⟩ := ha; obtain ⟨u, rfl⟩ := hb; exact PyProof.Rows.ge_int (hQ.bool' T)
    · cases e
  | Eq =>
    dsimp only at e; split at e
    · cases e; rw [RepV] at ha hb; obtain ⟨t, rfl⟩ := ha; obtain ⟨u, rfl⟩ := hb; exact PyProof.Rows.eq_int (hQ.bool' T)
    · exact o_eq T hA ha hb e (hQ.bool' T)
  | NotEq =>
    dsimp only at e; split at e
    · cases e; rw [RepV] at ha hb; obtain ⟨t, rfl⟩ := ha; obtain ⟨u, rfl⟩ := hb; exact PyProof.Rows.ne_int (hQ.bool' T)
    · obtain ⟨r', e1, rfl⟩ := Option.map_eq_some_iff.mp e
      exact o_ne T hA ha hb e1 (hQ.bool' T)
  | Is =>
    dsimp only at e; split at e
    · cases e; rw [RepV] at hb; subst hb
      exact is_none_gen (by rw [isNone_rep ha]; exact hQ.bool' T)
    · cases e
  | IsNot =>
    dsimp only at e; split at e
    · cases e; rw [RepV] at hb; subst hb
      exact isnot_none_gen (by rw [isNone_rep ha]; exact hQ.bool' T)
    · cases e
  | In => exact o_in G T hA ha hb e hQ
  | NotIn => exact o_notIn G T ha hb e hQ
end
end Mine

set_option autoImplicit false
namespace Mine
open PySem PyProof.Rows

section
variable {g : Cfg} {env : Env} {A : Around} {X : Value → Shared → Prop} {s : Shared} {as : List Addr} {fr : Fra} {σ σ' : Sto} {Q : Value → Shared → Prop}

theorem idx_rep {h : Heap} {vs : List V} {xs : List Value} {k : Int} {v : V} (r : RepVs as h vs xs) (e : idxV vs k = some v) :
    ∃ y, RepV as h v y ∧ ((0 ≤ k ∧ k < vs.length ∧ xs[k.toNat]? = some y) ∨ (k < 0 ∧ -(vs.length : Int) ≤ k ∧ xs[(k + vs.length).toNat]? = some y)) := by
  unfold idxV at e
  split at e
  · obtain ⟨y, h1, h2⟩ := (RepVs.f2.mp r).get e
    have := (List.getElem?_eq_some_iff.mp e).1
    exact ⟨y, h2, .inl ⟨by assumption, by omega, h1⟩⟩
  · split at e
    · obtain ⟨y, h1, h2⟩ := (RepVs.f2.mp r).get e
      exact ⟨y, h2, .inr ⟨by omega, by assumption, h1⟩⟩
    · cases e

theorem rep_frz {l : Nat} {x : Value} {vs : List V} (R : Rel g as σ s.heap) (r : RepV as s.heap (.ref l) x) (e : σ[l]? = some (.frz vs)) :
    ∃ a items n, x = .ref a ∧ as[l]? = some a ∧ IsL s.heap a items n ∧ RepVs as s.heap vs items.toList ∧ vs.length ≤ 16777216 ∧ items.size = vs.length := by
  rw [RepV] at r
  obtain ⟨a, rfl, ha⟩ := r
  obtain ⟨items, n, e1, e2, q, z⟩ := R.obj l a _ ha e
  rw [e2] at e1
  exact ⟨a, items, n, rfl, ha, e1, q, z, by have := (RepVs.f2.mp q).length; simpa using this.symm⟩

theorem o_getItem {a i v : V} {x y : Value} {n : Nat} (T : At g env as fr σ s) (hA : Room A n) (ha : RepV as s.heap a x) (hi : RepV as s.heap i y)
    (e : subV a i σ = some v) (hQ : EPost g env as fr s v σ Q) : wpAny (model g.prog g.w) A (getItem x y) Q X s := by
  unfold subV at e
  split at e
  · rename_i vs k
    rw [RepV] at ha; rw [RepV] at hi
    obtain ⟨t, rfl⟩ := hi
    obtain ⟨ad, items, m, rfl, ho, hz, hr⟩ := ha
    obtain ⟨y, r, hh⟩ := idx_rep hr e
    have hl : vs.length = items.size := by have := (RepVs.f2.mp hr).length; simpa using this
    refine PyProof.Rows.getItem_tuple (j := if 0 ≤ k then k.toNat else (k + vs.length).toNat) (x := y) ⟨_, ho, rfl, m, rfl⟩ ?_ ?_ ?_ ?_ (hQ.same' T r)
    · rcases hh with hh | hh <;> omega
    · rcases hh with hh | hh <;> omega
    · unfold seqIndex?
      rcases hh with ⟨h1, h2, h3⟩ | ⟨h1, h2, h3⟩
      · simp only [show ¬ k < 0 by omega, if_false, h1, if_true]
        rw [if_pos (by simp; omega)]
      · simp only [h1, if_true, show ¬ 0 ≤ k by omega, if_false, ← hl]
        rw [if_pos (by simp; omega)]
    · rcases hh with ⟨h1, h2, h3⟩ | ⟨h1, h2, h3⟩
      · rw [if_pos h1]; simpa using h3
      · rw [if_neg (by omega)]; simpa using h3
  · rename_i l k
    split at e
    · rename_i vs hl
      obtain ⟨ad, items, m, rfl, _, ho, hr, hz, hsz⟩ := rep_list T.R ha (getL_of hl)
      rw [RepV] at hi; obtain ⟨t, rfl⟩ := hi
      obtain ⟨y, r, hh⟩ := idx_rep hr e
      rcases hh with ⟨h1, h2, h3⟩ | ⟨h1, h2, h3⟩
      · exact wpAny_getItem_list ho.isList h1 (by omega) (by simpa using h3) (hQ.same' T r)
      · exact wpAny_getItem_list_neg ho.isList h1 (by omega) (by omega) (by rw [hsz]; simpa using h3) (hQ.same' T r)
    · rename_i vs hl
      obtain ⟨ad, items, m, rfl, _, ho, hr, hz, hsz⟩ := rep_frz T.R ha hl
      rw [RepV] at hi; obtain ⟨t, rfl⟩ := hi
      obtain ⟨y, r, hh⟩ := idx_rep hr e
      rcases hh with ⟨h1, h2, h3⟩ | ⟨h1, h2, h3⟩
      · exact wpAny_getItem_list ho.isList h1 (by omega) (by simpa using h3) (hQ.same' T r)
      · exact wpAny_getItem_list_neg ho.isList h1 (by omega) (by omega) (by rw [hsz]; simpa using h3) (hQ.same' T r)
    · rename_i es hl
      rw [RepV] at ha; rw [RepV] at hi
      obtain ⟨t, rfl⟩ := hi
      obtain ⟨d, rfl, hd⟩ := ha
      obtain ⟨kvs, hk, hf, _⟩ := T.R.obj _ _ _ hd hl
      obtain ⟨y, h1, h2⟩ := (kv_at hf).2 v e
      exact wpAny_getItem_of (intKind_is _ _ k t) hk.mapOf h1 (hQ.same T h2)
    · cases e
  · rename_i l ks
    split at e
    · rename_i es k hl he
      obtain ⟨ta, rfl, hk⟩ := tupKey_of (g := g) hi he
      rw [RepV] at ha; obtain ⟨d, rfl, hd⟩ := ha
      obtain ⟨xs, hx, hf, _⟩ := T.R.obj _ _ _ hd hl
      obtain ⟨p, h1, h2⟩ := (tk_at hf).2 v e
      exact wpAny_getItem_heap (knd := tupleKind (intKind g.prog g.w)) (tupleKind_room_in1 (by have := hA.units; show _ < 9900; omega)) hk hx h1 (hQ.same T h2)
    · cases e
  · cases e

/-- the kind of what is subscripted -/
theorem o_sub {a i v : V} {x y : Value} {n : Nat} {ve ie : Expr} (T : At g env as fr σ s) (hA : Room A n) (ha : RepV as s.heap a x) (hi : RepV as s.heap i y)
    (hs : ∀ o i, subscripted ie false o i = operate [o, i] (getItem o i))
    (e : subV a i σ = some v) (hQ : EPost g env as fr s v σ Q) : wpAny (model g.prog g.w) A (subscriptTail ve ie x y) Q X s := by
  have hg := o_getItem (X := X) T hA ha hi e hQ
  unfold subV at e
  split at e
  · rw [RepV] at ha
    obtain ⟨ad, items, m, rfl, ho, hz, hr⟩ := ha
    exact tail_any (T := "tuple") ⟨_, ho, rfl⟩ F.slot_tuple_getitem.lookup hg (hs _ _)
  · split at e
    · rename_i vs hl
      obtain ⟨ad, items, m, rfl, _, ho, _⟩ := rep_list T.R ha (getL_of hl)
      exact tail_any (T := "list") ⟨_, ho, rfl⟩ slot_list_getitem.lookup hg (hs _ _)
    · rename_i vs hl
      obtain ⟨ad, items, m, rfl, _, ho, _⟩ := rep_frz T.R ha hl
      exact tail_any (T := "list") ⟨_, ho, rfl⟩ slot_list_getitem.lookup hg (hs _ _)
    · rename_i es hl
      rw [RepV] at ha; obtain ⟨d, rfl, hd⟩ := ha
      obtain ⟨kvs, hk, hf, _⟩ := T.R.obj _ _ _ hd hl
      exact tail_any (T := "dict") hk.typeIs slot_dict_getitem.lookup hg (hs _ _)
    · cases e
  · split at e
    · rename_i es k hl he
      rw [RepV] at ha; obtain ⟨d, rfl, hd⟩ := ha
      obtain ⟨xs, hx, hf, _⟩ := T.R.obj _ _ _ hd hl
      exact tail_any (T := "dict") hx.typeIs slot_dict_getitem.lookup hg (hs _ _)
    · cases e
  · cases e

theorem o_len {a : V} {x : Value} {i : Int} (G : Sys g) (T : At g env as fr σ s) (ha : RepV as s.heap a x) (e : lenV a σ = some i) (hQ : EPost g env as fr s (.int i) σ Q) :
    wpAny (model g.prog g.w) A (call (.builtin "len") [x]) Q X s := by
  unfold lenV at e
  split at e
  · rename_i vs
    cases e
    rw [RepV] at ha
    obtain ⟨ad, items, m, rfl, ho, hz, hr⟩ := ha
    have hl : vs.length = items.size := by have := (RepVs.f2.mp hr).length; simpa using this
    refine P.len_tuple ho (by omega) ?_
    rw [← hl]; exact hQ.int T
  · split at e
    · rename_i vs hl
      cases e
      obtain ⟨ad, items, m, rfl, _, ho, hr, hz, hsz⟩ := rep_list T.R ha (getL_of hl)
      refine Calls.call_len_list ho.isList (by omega) ?_
      rw [hsz]; exact hQ.int T
    · rename_i vs hl
      cases e
      obtain ⟨ad, items, m, rfl, _, ho, hr, hz, hsz⟩ := rep_frz T.R ha hl
      refine Calls.call_len_list ho.isList (by omega) ?_
      rw [hsz]; exact hQ.int T
    · rename_i es hl
      cases e
      rw [RepV] at ha; obtain ⟨d, rfl, hd⟩ := ha
      obtain ⟨kvs, hk, hf, hz⟩ := T.R.obj _ _ _ hd hl
      have := hf.length
      refine call_len_dict hz.2 hk (by have := hz.1; omega) ?_
      rw [← this]; exact hQ.int T
    · cases e
  · cases e

end
end Mine

set_option autoImplicit false
namespace Mine
open PySem PyProof.Rows

noncomputable def tyVal : Ty → Option Value
  | .int => some (.type "int") | .bool => some (.type "bool") | .tuple => some (.type "tuple") | .list => some (.type "list")
  | _ => none

section
variable {g : Cfg} {env : Env} {A : Around} {X : Value → Shared → Prop} {s : Shared} {as : List Addr} {fr : Fra} {σ σ' : Sto} {Q : Value → Shared → Prop}

theorem o_isi {t : Ty} {a : V} {x y : Value} {r : Bool} (T : At g env as fr σ s) (ha : RepV as s.heap a x) (e : isiV t a σ = some r) (ht : tyVal t = some y) (hQ : EPost g env as fr s (.bool r) σ Q) :
    wpAny (model g.prog g.w) A (call (.builtin "isinstance") [x, y]) Q X s := by
  have hq := fun tk => hQ.bool (tk := tk) T
  have hq0 := hQ.bool' T
  cases t with
  | int =>
    cases ht
    unfold isiV at e; dsimp only at e
    split at e
    · cases e; rw [RepV] at ha; obtain ⟨u, rfl⟩ := ha; exact IsiPair.int_int hq0
    · cases e; rw [RepV] at ha; subst ha; exact IsiPair.bool_int hq0
    · cases e; rw [RepV] at ha; obtain ⟨u, rfl⟩ := ha; exact IsiPair.str_int (hq _)
    · cases e; rw [RepV] at ha; obtain ⟨ad, items, n, rfl, ho, _⟩ := ha; exact IsiPair.tuple_int ho rfl (hq _)
    · split at e
      · rename_i l vs hl
        cases e; obtain ⟨ad, items, n, rfl, _, ho, _⟩ := rep_list T.R ha (getL_of hl); exact IsiPair.list_int ho rfl (hq _)
      · cases e
    · cases e
  | bool =>
    cases ht
    unfold isiV at e; dsimp only at e
    split at e
    · cases e; rw [RepV] at ha; obtain ⟨u, rfl⟩ := ha; exact IsiPair.int_bool (hq _)
    · cases e; rw [RepV] at ha; subst ha; exact IsiPair.bool_bool hq0
    · cases e; rw [RepV] at ha; obtain ⟨u, rfl⟩ := ha; exact IsiPair.str_bool (hq _)
    · cases e; rw [RepV] at ha; obtain ⟨ad, items, n, rfl, ho, _⟩ := ha; exact IsiPair.tuple_bool ho rfl (hq _)
    · split at e
      · rename_i l vs hl
        cases e; obtain ⟨ad, items, n, rfl, _, ho, _⟩ := rep_list T.R ha (getL_of hl); exact IsiPair.list_bool ho rfl (hq _)
      · cases e
    · cases e
  | tuple =>
    cases ht
    unfold isiV at e; dsimp only at e
    split at e
    · cases e; rw [RepV] at ha; obtain ⟨u, rfl⟩ := ha; exact IsiPair.int_tuple (hq _)
    · cases e; rw [RepV] at ha; subst ha; exact IsiPair.bool_tuple (hq _)
    · cases e; rw [RepV] at ha; obtain ⟨u, rfl⟩ := ha; exact IsiPair.str_tuple (hq _)
    · cases e; rw [RepV] at ha; obtain ⟨ad, items, n, rfl, ho, _⟩ := ha; exact IsiPair.tuple_tuple ho rfl hq0
    · split at e
      · rename_i l vs hl
        cases e; obtain ⟨ad, items, n, rfl, _, ho, _⟩ := rep_list T.R ha (getL_of hl); exact IsiPair.list_tuple ho rfl (hq _)
      · cases e
    · cases e
  | list =>
    cases ht
    unfold isiV at e; dsimp only at e
    split at e
    · cases e; rw [RepV] at ha; obtain ⟨u, rfl⟩ := ha; exact IsiPair.int_list (hq _)
    · cases e; rw [RepV] at ha; subst ha; exact IsiPair.bool_list (hq _)
    · cases e; rw [RepV] at ha; obtain ⟨u, rfl⟩ := ha; exact IsiPair.str_list (hq _)
    · cases e; rw [RepV] at ha; obtain ⟨ad, items, n, rfl, ho, _⟩ := ha; exact IsiPair.tuple_list ho rfl (hq _)
    · split at e
      · rename_i l vs hl
        cases e; obtain ⟨ad, items, n, rfl, _, ho, _⟩ := rep_list T.R ha (getL_of hl); exact IsiPair.list_list ho rfl hq0
      · cases e
    · cases e
  | inst => cases ht
  | exc c => cases ht

/-! max and min -/
end
end Mine

set_option autoImplicit false
set_option maxRecDepth 100000
namespace Mine
open PySem PyProof.Rows PySem.W

section
variable {prog : Program} {w : World} {A : Around} {E : Value → Shared → Prop} {s : Shared} {r : Addr}
end

end Mine

set_option autoImplicit false
set_option maxRecDepth 100000
namespace Mine
open PySem PyProof.Rows

noncomputable def bltVal : BN → Value
  | .len => .builtin "len" | .max => .builtin "max" | .min => .builtin "min" | .all => .builtin "all"
  | .list => .type "list" | .tuple => .type "tuple" | .int => .type "int" | .range => .type "range"
  | _ => .none

section
variable {g : Cfg} {env : Env} {A : Around} {X : Value → Shared → Prop} {s : Shared} {as : List Addr} {fr : Fra} {σ σ' : Sto} {Q : Value → Shared → Prop}

theorem one_rep {h : Heap} {a : V} {xs : List Value} (r : RepVs as h [a] xs) : ∃ x, xs = [x] ∧ RepV as h a x := by
  rw [RepVs] at r; obtain ⟨y, ys, rfl, r1, r2⟩ := r; rw [RepVs] at r2; subst r2; exact ⟨y, rfl, r1⟩
theorem ofOpt_inv {o : Option V} {v : V} (e : ofOpt σ o = .ok v σ') : o = some v ∧ σ' = σ := by
  cases o with
  | none => exact bad_ok e
  | some w => cases e; exact ⟨rfl, rfl⟩
section
variable {vs : List V} {xs : List Value} {v : V} {n : Nat}
theorem b_len (G : Sys g) (T : At g env as fr σ s) (ha : RepVs as s.heap vs xs) (e : bLen vs σ = .ok v σ') (hQ : EPost g env as fr s v σ' Q) : wpAny (model g.prog g.w) A (call (.builtin "len") xs) Q X s := by
  rcases vs with _ | ⟨a, _ | ⟨b, vs⟩⟩ <;> first | exact bad_ok e | skip
  obtain ⟨h, rfl⟩ := ofOpt_inv e
  obtain ⟨x, rfl, r⟩ := one_rep ha
  obtain ⟨i, h1, rfl⟩ := map_inv h
  exact o_len G T r h1 hQ
end

noncomputable def bOk : BN → Bool
  | .len => true
  | _ => false
theorem o_blt {b : BN} {vs : List V} {xs : List Value} {v : V} {n : Nat} (G : Sys g) (T : At g env as fr σ s) (hA : Room A n) (ha : RepVs as s.heap vs xs) (hb : bOk b = true)
    (e : bltV b vs σ = .ok v σ') (hQ : EPost g env as fr s v σ' Q) : wpAny (model g.prog g.w) A (call (bltVal b) xs) Q X s := by
  cases b with
  | len => exact b_len G T ha e hQ
  | _ => exact ft hb
end
end Mine

set_option autoImplicit false
set_option maxRecDepth 100000
namespace Mine
open PySem PyProof.Rows PySem.W

/-- what a global name means -/
noncomputable def GV (g : Cfg) (x : Str) (v : Value) : Prop :=
  ∃ mg mb, g.b.Ns mainGlobals mg ∧ g.b.Ns builtinsNs mb ∧ (mg x = some v ∨ (mg x = none ∧ mb x = some v))

noncomputable def CallOk (g : Cfg) (fa : Nat → Option Addr) (call : Nat → List V → Sto → RE) (n : Nat) : Prop :=
  ∀ (k : Nat) (a : Addr) (vs : List V) (σ σ' : Sto) (v : V), fa k = some a → call k vs σ = .ok v σ' →
  ∀ (A : Around) (s : Shared) (as : List Addr) (xs : List Value) (R : Result → Shared → Prop), Room A n → Rel g as σ s.heap → g.b.objs.size ≤ s.heap.objs.size → RepVs as s.heap vs xs →
    (∀ (val : Value) (as' : List Addr) (h' : Heap) (tk : Nat), Step [] as s.heap as' h' → Rel g as' σ' h' → RepV as' h' v val → R (.ok (.ret val)) { s with heap := h', toks := tk }) →
    codeAny (model g.prog g.w) A (.call (.ref a) ⟨xs, []⟩) R s

structure Glob (g : Cfg) (K : Frag) (c : CE) (fa : Nat → Option Addr) : Prop where
  sys : Sys g
  kin : K.In g.b
  const : ∀ x i, c.consts.lookup x = some i → ∃ t, GV g x (.int i t)
  fn : ∀ x k, c.fns.lookup x = some k → ∃ a, GV g x (.ref a) ∧ fa k = some a ∧ keepIn K (.ref a) = true
  cls : ∀ x k, c.clss.lookup x = some k → ∃ fI, GV g x (.ref g.C) ∧ fa k = some fI ∧ keepIn K (.ref g.C) = true ∧ makesIn K g.C = true ∧ findIn K (.ref g.C) "__init__" = some (some (.ref fI)) ∧ isFn K (.ref fI) = true
  clsO : ∀ x k, c.clss.lookup x = some k → isIn K (.ref g.C) g.C = true
  blt : ∀ x b, bltName.lookup x = some b → GV g x (bltVal b)
  typ : ∀ x t y, tyName.lookup x = some t → tyVal t = some y → GV g x y
  set : GV g "set" (.type "set")
  rev : GV g "reversed" (.type "reversed")
  sorted : GV g "sorted" (.builtin "sorted")
  isi : GV g "isinstance" (.builtin "isinstance")
  att : ∀ x k, c.attrs.lookup x = some k → g.at'.lookup k = some x ∧ plainGet K g.C x = true ∧ ∃ at', findIn K (.ref g.C) x = some at' ∧ noGet K at' = true ∧ takerIn K g.C x = some none
  hasD : ∀ x k, c.attrs.lookup x = some k → hasDictIn K g.C = true
  setA : ∀ x k, c.attrs.lookup x = some k → findIn K (.ref g.C) "__setattr__" = some (some (.builtin "object.__setattr__")) ∧ plainOver K g.C = true
  mth : ∀ x f, c.mths.lookup x = some f → ∃ a, fa f = some a ∧ plainGet K g.C x = true ∧ findIn K (.ref g.C) x = some (some (.ref a)) ∧ isFn K (.ref a) = true ∧ keepIn K (.ref a) = true ∧ ∀ k, g.at'.lookup k ≠ some x

structure NamesOk (c : CE) (env : Env) : Prop where
  f2 : F2 (fun (p q : Str × NameKind) => p.1 = q.1 ∧ (p.2 = q.2 ∨ (p.2 = .free ∧ q.2 = .cell))) c.names env.scope.names
  code : ∀ a, c.lam = some a → env.code = .ref a

theorem lookup_get {l : List (Str × NameKind)} {x : Str} {k : NameKind} (e : l.lookup x = some k) : ∃ i, l.findIdx? (fun p => p.1 == x) = some i ∧ l[i]? = some (x, k) := by
  induction l with
  | nil => cases e
  | cons p r ih =>
    obtain ⟨y, kk⟩ := p
    rw [List.lookup_cons] at e
    rw [List.findIdx?_cons]
    by_cases h : (x == y) = true
    · rw [h] at e; simp only [Option.some.injEq] at e; subst e
      have h' := eq_of_beq h; subst h'
      exact ⟨0, by simp, rfl⟩
    · simp only [h] at e
      obtain ⟨i, h1, h2⟩ := ih e
      have hb : (y == x) = false := by
        cases q : y == x with
        | false => rfl
        | true => exact absurd (by rw [eq_of_beq q]; simp) h
      exact ⟨i + 1, by simp only [hb]; simp [h1], by simpa using h2⟩

theorem nodup_lookup {l : List (Str × NameKind)} (nd : (l.map (·.1)).Nodup) {i : Nat} {x : Str} {k : NameKind} (e : l[i]? = some (x, k)) : l.lookup x = some k := by
  induction l generalizing i with
  | nil => simp at e
  | cons p r ih =>
    obtain ⟨y, kk⟩ := p
    rw [List.lookup_cons]
    cases i with
    | zero => simp at e; obtain ⟨rfl, rfl⟩ := e; simp
    | succ i =>
      simp at e nd
      have : (x == y) = false := by
        cases q : x == y with
        | false => rfl
        | true => have q' := eq_of_beq q; subst q'; exact absurd (List.mem_of_getElem? e) (nd.1 k)
      rw [this]
      exact ih nd.2 e

theorem NamesOk.get {c : CE} {env : Env} (N : NamesOk c env) {i : Nat} {x : Str} {k : NameKind} (e : c.names[i]? = some (x, k)) : ∃ k', env.scope.names[i]? = some (x, k') ∧ (k = k' ∨ (k = .free ∧ k' = .cell)) := by
  obtain ⟨⟨y, k'⟩, h1, h2, h3⟩ := F2.get N.f2 e
  have : x = y := h2
  subst this
  exact ⟨k', h1, h3⟩

theorem NamesOk.map {c : CE} {env : Env} (N : NamesOk c env) : c.names.map (·.1) = env.scope.names.map (·.1) := by
  have : ∀ {a b : List (Str × NameKind)}, F2 (fun (p q : Str × NameKind) => p.1 = q.1 ∧ (p.2 = q.2 ∨ (p.2 = .free ∧ q.2 = .cell))) a b → a.map (·.1) = b.map (·.1) := by
    intro a b h
    induction h with
    | nil => rfl
    | cons x _ ih => simp only [List.map_cons, ih]; rw [x.1]
  exact this N.f2

theorem loc_get {c : CE} {x : Str} {i : Nat} (e : c.loc? x = some i) : ∃ k, c.names[i]? = some (x, k) ∧ (k = .local ∨ k = .cell ∨ k = .free) := by
  unfold CE.loc? at e
  split at e
  · rename_i h; obtain ⟨j, h1, h2⟩ := lookup_get h; rw [h1] at e; cases e; exact ⟨_, h2, .inl rfl⟩
  · rename_i h; obtain ⟨j, h1, h2⟩ := lookup_get h; rw [h1] at e; cases e; exact ⟨_, h2, .inr (.inl rfl)⟩
  · rename_i h; obtain ⟨j, h1, h2⟩ := lookup_get h; rw [h1] at e; cases e; exact ⟨_, h2, .inr (.inr rfl)⟩
  · cases e

section
variable {g : Cfg} {K : Frag} {c : CE} {fa : Nat → Option Addr} {env : Env} {A : Around} {X : Value → Shared → Prop} {s : Shared} {as : List Addr} {fr : Fra} {σ σ' : Sto} {Q : Value → Shared → Prop}

theorem o_glob {x : Str} {v : Value} (T : At g env as fr σ s) (N : NamesOk c env) (hg : c.glob x = true) (hd : (x == ("__debug__" : Str)) = false) (G : GV g x v) (h : Q v s) {pos : Pos} : wpAny (model g.prog g.w) A (eval (.Name x pos) env) Q X s := by
  unfold CE.glob at hg
  have hl : c.names.lookup x = some .globalImplicit := eq_of_beq hg
  obtain ⟨i, _, h2⟩ := lookup_get hl
  obtain ⟨k', h3, h4⟩ := N.get h2
  have hk : k' = .globalImplicit := by
    rcases h4 with h4 | h4
    · exact h4.symm
    · cases h4.1
  subst hk
  have hx : env.kindOf x = some .globalImplicit := nodup_lookup T.F.nd h3
  obtain ⟨mg, mb, g1, g2, g3⟩ := G
  refine Calls.Name_function_global T.F.kind hx ?_ hd
  rcases g3 with g3 | ⟨g3, g4⟩
  · exact Calls.loadGlobal_global (by rw [T.F.glob]; exact g1.keeps T.R.base) g3 h
  · exact Calls.loadGlobal_builtin (by rw [T.F.glob]; exact g1.keeps T.R.base) g3 (by rw [T.F.blt]; exact g2.keeps T.R.base) g4 h

theorem o_loc {x : Str} {i : Nat} {v : V} (T : At g env as fr σ s) (N : NamesOk c env) (hl : c.loc? x = some i) (hd : (x == ("__debug__" : Str)) = false) (hc : (x == ("__classdict__" : Str)) = false) (e : fr[i]? = some (some v))
    (hQ : EPost g env as fr s v σ Q) {pos : Pos} : wpAny (model g.prog g.w) A (eval (.Name x pos) env) Q X s := by
  obtain ⟨k, h1, h2⟩ := loc_get hl
  obtain ⟨k', h3, h4⟩ := N.get h1
  have hx : env.kindOf x = some k' := nodup_lookup T.F.nd h3
  refine wpAny_Name ?_ hd
  have hk : k' = .local ∨ k' = .cell ∨ k' = .free := by
    rcases h4 with h4 | h4
    · subst h4; exact h2
    · exact .inr (.inl h4.2)
  rcases hk with rfl | rfl | rfl
  · obtain ⟨m, hm, hv⟩ := T.F.ns
    obtain ⟨val, e1, e2⟩ := hv i x v h3 e
    exact wpAny_loadName_local T.F.kind hx hm e1 (hQ.same' T e2)
  · obtain ⟨cc, cv, e1, e2, e3⟩ := T.F.cells i x _ h3 (.inl rfl)
    obtain ⟨val, rfl, e5⟩ := e3 v e
    exact wpAny_loadName_cell T.F.kind hx e1 e2 (hQ.same' T e5)
  · obtain ⟨cc, cv, e1, e2, e3⟩ := T.F.cells i x _ h3 (.inr rfl)
    obtain ⟨val, rfl, e5⟩ := e3 v e
    exact wpAny_loadName_free T.F.kind hx e1 e2 (hQ.same' T e5) hc
end
end Mine

set_option autoImplicit false
set_option maxRecDepth 100000
set_option linter.unusedVariables false
namespace Mine
open PySem PyProof.Rows PySem.W

/-- soundness of the expressions that compE n takes -/
noncomputable def SndE (g : Cfg) (c0 : CE) (call : Nat → List V → Sto → RE) (r n : Nat) : Prop :=
  ∀ (names : List (Str × NameKind)) (e : Expr) (e' : E), compE n (c0.sub names) e = some e' →
  ∀ (env : Env) (A : Around) (X : Value → Shared → Prop) (s : Shared) (as : List Addr) (fr : Fra) (σ σ' : Sto) (v : V) (Q : Value → Shared → Prop),
    NamesOk (c0.sub names) env → Room A (r + 1) → At g env as fr σ s → evE call e' fr σ = .ok v σ' → EPost g env as fr s v σ' Q → wpAny (model g.prog g.w) A (eval e env) Q X s

noncomputable def BPost (g : Cfg) (env : Env) (as : List Addr) (fr : Fra) (s : Shared) (b : Bool) (σ' : Sto) (Q : Bool → Shared → Prop) : Prop :=
  ∀ (as' : List Addr) (h' : Heap) (tk : Nat), Step [env.locals] as s.heap as' h' → Rel g as' σ' h' → FrRel g env as' fr h' → Q b { s with heap := h', toks := tk }

noncomputable def SndT (g : Cfg) (c0 : CE) (call : Nat → List V → Sto → RE) (r n : Nat) : Prop :=
  ∀ (names : List (Str × NameKind)) (e : Expr) (e' : E), compE n (c0.sub names) e = some e' →
  ∀ (env : Env) (A : Around) (X : Value → Shared → Prop) (s : Shared) (as : List Addr) (fr : Fra) (σ σ' : Sto) (b : Bool) (Q : Bool → Shared → Prop),
    NamesOk (c0.sub names) env → Room A (r + 1) → At g env as fr σ s → evE call e' fr σ = .ok (.bool b) σ' → BPost g env as fr s b σ' Q → wpAny (model g.prog g.w) A (isTrue e env (eval e env)) Q X s

theorem bind_ok {r : RE} {k : V → Sto → RE} {v : V} {σ' : Sto} (e : r.bind k = .ok v σ') : ∃ u τ, r = .ok u τ ∧ k u τ = .ok v σ' := by
  cases r with
  | ok u τ => exact ⟨u, τ, rfl, e⟩
  | ex x τ => cases e
  | bad => cases e
theorem binds_ok {r : RE} {k : V → Sto → REs} {v : List V} {σ' : Sto} (e : r.binds k = .ok v σ') : ∃ u τ, r = .ok u τ ∧ k u τ = .ok v σ' := by
  cases r with
  | ok u τ => exact ⟨u, τ, rfl, e⟩
  | ex x τ => cases e
  | bad => cases e
theorem sbind_ok {r : REs} {k : List V → Sto → RE} {v : V} {σ' : Sto} (e : r.bind k = .ok v σ') : ∃ u τ, r = .ok u τ ∧ k u τ = .ok v σ' := by
  cases r with
  | ok u τ => exact ⟨u, τ, rfl, e⟩
  | ex x τ => cases e
  | bad => cases e
theorem sbinds_ok {r : REs} {k : List V → Sto → REs} {v : List V} {σ' : Sto} (e : r.binds k = .ok v σ') : ∃ u τ, r = .ok u τ ∧ k u τ = .ok v σ' := by
  cases r with
  | ok u τ => exact ⟨u, τ, rfl, e⟩
  | ex x τ => cases e
  | bad => cases e

section
variable {g : Cfg} {K : Frag} {c0 : CE} {fa : Nat → Option Addr} {call : Nat → List V → Sto → RE} {env : Env} {A : Around} {X : Value → Shared → Prop} {s : Shared} {as : List Addr} {fr : Fra} {σ σ' : Sto} {r n : Nat}
  {names : List (Str × NameKind)}

theorem At.step (T : At g env as fr σ s) {as' : List Addr} {h' : Heap} {tk : Nat} {σ' : Sto} (R' : Rel g as' σ' h') (F' : FrRel g env as' fr h') : At g env as' fr σ' { s with heap := h', toks := tk } := ⟨F', R'⟩
theorem At.keep (T : At g env as fr σ s) {as' : List Addr} {h' : Heap} (x : Step [env.locals] as s.heap as' h') : Keep as s.heap as' h' := T.R.keep x T.F.notImm
theorem step_trans {as as1 as2 : List Addr} {h h1 h2 : Heap} {σ2 : Sto} (x : Step [env.locals] as h as1 h1) (y : Step [env.locals] as1 h1 as2 h2) (R2 : Rel g as2 σ2 h2) (F2' : FrRel g env as2 fr h2) : Step [env.locals] as h as2 h2 :=
  x.trans y R2.nd (by intro a ha; simp at ha; subst ha; exact F2'.off)

/-- two in a row -/
theorem two {e1 e2 : Expr} {a b : E} {u v : V} {τ : Sto} {Q : Value → Value → Shared → Prop} (IH : SndE g c0 call r n) (h1 : compE n (c0.sub names) e1 = some a) (h2 : compE n (c0.sub names) e2 = some b)
    (N : NamesOk (c0.sub names) env) (hA : Room A (r + 1)) (T : At g env as fr σ s) (ev1 : evE call a fr σ = .ok u τ) (ev2 : evE call b fr τ = .ok v σ')
    (hQ : ∀ (x y : Value) (as' : List Addr) (h' : Heap) (tk : Nat), Step [env.locals] as s.heap as' h' → Rel g as' σ' h' → FrRel g env as' fr h' → RepV as' h' u x → RepV as' h' v y → Q x y { s with heap := h', toks := tk }) :
    wpAny (model g.prog g.w) A (eval e1 env) (fun x s1 => wpAny (model g.prog g.w) A (eval e2 env) (fun y s2 => Q x y s2) X s1) X s := by
  refine IH names e1 a h1 env A X s as fr σ τ u _ N hA T ev1 fun x as1 k1 tk1 st1 R1 F1 r1 => ?_
  refine IH names e2 b h2 env A X _ as1 fr τ σ' v _ N hA ⟨F1, R1⟩ ev2 fun y as2 k2 tk2 st2 R2 F2' r2 => ?_
  exact hQ x y as2 k2 tk2 (step_trans st1 st2 R2 F2') R2 F2' (RepV.keep (At.keep (s := { s with heap := k1, toks := tk1 }) ⟨F1, R1⟩ st2) _ _ r1) r2

theorem epost_of {v : V} {Q : Value → Shared → Prop} {as' : List Addr} {h' : Heap} {tk : Nat} {τ : Sto} (hQ : EPost g env as fr s v σ' Q) (x : Step [env.locals] as s.heap as' h') (R' : Rel g as' τ h') (F' : FrRel g env as' fr h') :
    EPost g env as' fr { s with heap := h', toks := tk } v σ' Q := fun val as2 h2 tk2 st2 R2 F2' r2 => hQ val as2 h2 tk2 (step_trans x st2 R2 F2') R2 F2' r2
theorem bpost_of {b : Bool} {Q : Bool → Shared → Prop} {as' : List Addr} {h' : Heap} {tk : Nat} {τ : Sto} (hQ : BPost g env as fr s b σ' Q) (x : Step [env.locals] as s.heap as' h') (R' : Rel g as' τ h') (F' : FrRel g env as' fr h') :
    BPost g env as' fr { s with heap := h', toks := tk } b σ' Q := fun as2 h2 tk2 st2 R2 F2' => hQ as2 h2 tk2 (step_trans x st2 R2 F2') R2 F2'

theorem notStarred {e : Expr} {e' : E} {c : CE} (h : compE n c e = some e') : ∀ rest env, starEach (e :: rest) env = (false, eval e env) :: starEach rest env := by
  intro rest env
  have hk := comp_kind h
  cases e <;> first | rfl | exact ft hk

theorem args_snd (IH : SndE g c0 call r n) {pos : Pos} : ∀ (es : List Expr) (es' : List E) (s : Shared) (as : List Addr) (σ σ' : Sto) (vs : List V) (Q : List Value → Shared → Prop),
    mapO (compE n (c0.sub names)) es = some es' → NamesOk (c0.sub names) env → Room A (r + 1) → At g env as fr σ s → evEs call es' fr σ = .ok vs σ' →
    (∀ (xs : List Value) (as' : List Addr) (h' : Heap) (tk : Nat), Step [env.locals] as s.heap as' h' → Rel g as' σ' h' → FrRel g env as' fr h' → RepVs as' h' vs xs → Q xs { s with heap := h', toks := tk }) →
    wpAny (model g.prog g.w) A (spliced (backTo pos (starEach es env))) Q X s
  | [], es', s, as, σ, σ', vs, Q, h, N, hA, T, ev, hQ => by
    rw [mapO] at h; cases h; rw [evEs] at ev; cases ev
    exact wpAny_items_nil (hQ [] as s.heap s.toks (Step.refl _ _ _) T.R T.F (by rw [RepVs]))
  | e :: es, es', s, as, σ, σ', vs, Q, h, N, hA, T, ev, hQ => by
    obtain ⟨a, as', h1, h2, rfl⟩ := mapO_cons h
    rw [evEs] at ev
    obtain ⟨u, τ, e1, e2⟩ := binds_ok ev
    obtain ⟨us, τ', e3, e4⟩ := sbinds_ok e2
    cases e4
    refine wpAny_items_cons ?_ (notStarred h1 _ _)
    refine IH names e a h1 env A X s as fr σ τ u _ N hA T e1 fun x as1 k1 tk1 st1 R1 F1 r1 => ?_
    refine args_snd IH es as' _ as1 τ σ' us _ h2 N hA ⟨F1, R1⟩ e3 fun xs as2 k2 tk2 st2 R2 F2' r2 => ?_
    refine hQ (x :: xs) as2 k2 tk2 (step_trans st1 st2 R2 F2') R2 F2' ?_
    rw [RepVs]
    exact ⟨x, xs, rfl, RepV.keep (At.keep (s := { s with heap := k1, toks := tk1 }) ⟨F1, R1⟩ st2) _ _ r1, r2⟩

/-- the sequence of a BoolOp as a value -/
theorem boolOp_snd (IH : SndE g c0 call r n) {pos : Pos} {op : BoolOp} : ∀ (es : List Expr) (es' : List E) (b' : E) (s : Shared) (as : List Addr) (σ σ' : Sto) (v : V) (Q : Value → Shared → Prop),
    mapO (compE n (c0.sub names)) es = some es' → foldB op es' = some b' → NamesOk (c0.sub names) env → Room A (r + 1) → At g env as fr σ s → evE call b' fr σ = .ok v σ' → EPost g env as fr s v σ' Q →
    wpAny (model g.prog g.w) A (boolOp pos op (evalEach es env)) Q X s
  | [], es', b', s, as, σ, σ', v, Q, h, hf, N, hA, T, ev, hQ => by rw [mapO] at h; cases h; cases hf
  | [e], es', b', s, as, σ, σ', v, Q, h, hf, N, hA, T, ev, hQ => by
    obtain ⟨a, as', h1, h2, rfl⟩ := mapO_cons h
    rw [mapO] at h2; cases h2
    simp only [foldB, Option.some.injEq] at hf; subst hf
    show wpAny _ A (eval e env) Q X s
    exact IH names e a h1 env A X s as fr σ σ' v _ N hA T ev hQ
  | e :: e2 :: es, es', b', s, as, σ, σ', v, Q, h, hf, N, hA, T, ev, hQ => by
    obtain ⟨a, as', h1, h2, rfl⟩ := mapO_cons h
    obtain ⟨a2, as2', h3, h4, rfl⟩ := mapO_cons h2
    have hf' : ∃ y, foldB op (a2 :: as2') = some y ∧ b' = mkB op a y := by
      have : foldB op (a :: a2 :: as2') = (foldB op (a2 :: as2')).map fun y => mkB op a y := rfl
      rw [this] at hf
      obtain ⟨y, q1, q2⟩ := Option.map_eq_some_iff.mp hf
      exact ⟨y, q1, q2.symm⟩
    obtain ⟨y, hy, rfl⟩ := hf'
    show wpAny _ A (do
      let v ← eval e env
      standAt pos
      let t ← holding [v] (truthy v)
      match op, t with
      | .And, false | .Or, true => pure v
      | _, _ => boolOp pos op (evalEach (e2 :: es) env)) Q X s
    cases op with
    | And =>
      dsimp only [mkB] at ev
      rw [evE] at ev
      obtain ⟨u, τ, e5, e6⟩ := bind_ok ev
      refine wpAny_bind (IH names e a h1 env A X s as fr σ τ u _ N hA T e5 fun x as1 k1 tk1 st1 R1 F1 r1 => wpAny_bind (wpAny_standAt (wpAny_bind (wpAny_holding ?_))))
      split at e6
      · rw [RepV] at r1; subst r1
        refine wpAny_truthy_bool ?_
        exact boolOp_snd IH (e2 :: es) (a2 :: as2') y _ as1 τ σ' v Q h2 hy N hA ⟨F1, R1⟩ e6 (epost_of hQ st1 R1 F1)
      · cases e6
        rw [RepV] at r1; subst r1
        refine wpAny_truthy_bool (wpAny_pure ?_)
        exact hQ _ as1 k1 tk1 st1 R1 F1 (by rw [RepV])
      · cases e6
    | Or =>
      dsimp only [mkB] at ev
      rw [evE] at ev
      obtain ⟨u, τ, e5, e6⟩ := bind_ok ev
      refine wpAny_bind (IH names e a h1 env A X s as fr σ τ u _ N hA T e5 fun x as1 k1 tk1 st1 R1 F1 r1 => wpAny_bind (wpAny_standAt (wpAny_bind (wpAny_holding ?_))))
      split at e6
      · rw [RepV] at r1; subst r1
        refine wpAny_truthy_bool ?_
        exact boolOp_snd IH (e2 :: es) (a2 :: as2') y _ as1 τ σ' v Q h2 hy N hA ⟨F1, R1⟩ e6 (epost_of hQ st1 R1 F1)
      · cases e6
        rw [RepV] at r1; subst r1
        refine wpAny_truthy_bool (wpAny_pure ?_)
        exact hQ _ as1 k1 tk1 st1 R1 F1 (by rw [RepV])
      · cases e6

/-- the sequence of a BoolOp as a test -/
theorem allTrue_snd (IH : SndT g c0 call r n) {op : BoolOp} : ∀ (es : List Expr) (es' : List E) (b' : E) (s : Shared) (as : List Addr) (σ σ' : Sto) (v : Bool) (Q : Bool → Shared → Prop),
    mapO (compE n (c0.sub names)) es = some es' → foldB op es' = some b' → NamesOk (c0.sub names) env → Room A (r + 1) → At g env as fr σ s → evE call b' fr σ = .ok (.bool v) σ' → BPost g env as fr s v σ' Q →
    wpAny (model g.prog g.w) A (allTrue op es env) Q X s
  | [], es', b', s, as, σ, σ', v, Q, h, hf, N, hA, T, ev, hQ => by rw [mapO] at h; cases h; cases hf
  | [e], es', b', s, as, σ, σ', v, Q, h, hf, N, hA, T, ev, hQ => by
    obtain ⟨a, as', h1, h2, rfl⟩ := mapO_cons h
    rw [mapO] at h2; cases h2
    simp only [foldB, Option.some.injEq] at hf; subst hf
    show wpAny _ A (do
      match op, ← isTrue e env (eval e env) with
      | .And, false => pure false
      | .Or, true => pure true
      | _, _ => allTrue op [] env) Q X s
    refine wpAny_bind (IH names e a h1 env A X s as fr σ σ' v _ N hA T ev fun as1 k1 tk1 st1 R1 F1 => ?_)
    have hq := hQ as1 k1 tk1 st1 R1 F1
    cases op <;> cases v <;> exact wpAny_pure hq
  | e :: e2 :: es, es', b', s, as, σ, σ', v, Q, h, hf, N, hA, T, ev, hQ => by
    obtain ⟨a, as', h1, h2, rfl⟩ := mapO_cons h
    obtain ⟨a2, as2', h3, h4, rfl⟩ := mapO_cons h2
    have hf' : ∃ y, foldB op (a2 :: as2') = some y ∧ b' = mkB op a y := by
      have : foldB op (a :: a2 :: as2') = (foldB op (a2 :: as2')).map fun y => mkB op a y := rfl
      rw [this] at hf
      obtain ⟨y, q1, q2⟩ := Option.map_eq_some_iff.mp hf
      exact ⟨y, q1, q2.symm⟩
    obtain ⟨y, hy, rfl⟩ := hf'
    show wpAny _ A (do
      match op, ← isTrue e env (eval e env) with
      | .And, false => pure false
      | .Or, true => pure true
      | _, _ => allTrue op (e2 :: es) env) Q X s
    cases op with
    | And =>
      dsimp only [mkB] at ev
      rw [evE] at ev
      obtain ⟨u, τ, e5, e6⟩ := bind_ok ev
      split at e6
      · refine wpAny_bind (IH names e a h1 env A X s as fr σ τ true _ N hA T e5 fun as1 k1 tk1 st1 R1 F1 => ?_)
        exact allTrue_snd IH (e2 :: es) (a2 :: as2') y _ as1 τ σ' v Q h2 hy N hA ⟨F1, R1⟩ e6 (bpost_of hQ st1 R1 F1)
      · cases e6
        refine wpAny_bind (IH names e a h1 env A X s as fr σ _ false _ N hA T e5 fun as1 k1 tk1 st1 R1 F1 => wpAny_pure ?_)
        exact hQ as1 k1 tk1 st1 R1 F1
      · cases e6
    | Or =>
      dsimp only [mkB] at ev
      rw [evE] at ev
      obtain ⟨u, τ, e5, e6⟩ := bind_ok ev
      split at e6
      · refine wpAny_bind (IH names e a h1 env A X s as fr σ τ false _ N hA T e5 fun as1 k1 tk1 st1 R1 F1 => ?_)
        exact allTrue_snd IH (e2 :: es) (a2 :: as2') y _ as1 τ σ' v Q h2 hy N hA ⟨F1, R1⟩ e6 (bpost_of hQ st1 R1 F1)
      · cases e6
        refine wpAny_bind (IH names e a h1 env A X s as fr σ _ true _ N hA T e5 fun as1 k1 tk1 st1 R1 F1 => wpAny_pure ?_)
        exact hQ as1 k1 tk1 st1 R1 F1
      · cases e6
end
end Mine

set_option autoImplicit false
set_option maxRecDepth 100000
set_option linter.unusedVariables false
namespace Mine
open PySem PyProof.Rows PySem.W

section
variable {g : Cfg} {K : Frag} {env : Env} {A : Around} {X : Value → Shared → Prop} {s : Shared} {as : List Addr} {fr : Fra} {σ σ' : Sto} {Q : Value → Shared → Prop}

end
end Mine

set_option autoImplicit false
set_option maxRecDepth 100000
set_option linter.unusedVariables false
namespace Mine
open PySem PyProof.Rows PySem.W

noncomputable def UPost (g : Cfg) (env : Env) (as : List Addr) (fr : Fra) (s : Shared) (σ' : Sto) (Q : Unit → Shared → Prop) : Prop :=
  ∀ (as' : List Addr) (h' : Heap) (tk : Nat), Step [env.locals] as s.heap as' h' → Rel g as' σ' h' → FrRel g env as' fr h' → Q () { s with heap := h', toks := tk }

section
variable {g : Cfg} {as : List Addr} {h h' : Heap}

end

section
variable {g : Cfg} {K : Frag} {env : Env} {A : Around} {X : Value → Shared → Prop} {s : Shared} {as : List Addr} {fr : Fra} {σ σ' : Sto}

theorem UPost.use {Q : Unit → Shared → Prop} (hQ : UPost g env as fr s σ' Q) (T : At g env as fr σ s) {as' : List Addr} {h' : Heap} {tk : Nat} (x : Step [] as s.heap as' h') (R' : Rel g as' σ' h') : Q () { s with heap := h', toks := tk } :=
  hQ as' h' tk (x.grow (by simp)) R' (T.frame x)

end
end Mine

set_option autoImplicit false
set_option maxRecDepth 100000
set_option linter.unusedVariables false
namespace Mine
open PySem PyProof.Rows PySem.W

section
variable {g : Cfg} {K : Frag} {c0 : CE} {fa : Nat → Option Addr} {call : Nat → List V → Sto → RE} {env : Env} {A : Around} {X : Value → Shared → Prop} {s : Shared} {as : List Addr} {fr : Fra} {σ σ' : Sto} {Q : Value → Shared → Prop}

noncomputable def AttInj (g : Cfg) : Prop := ∀ k k' x, g.at'.lookup k = some x → g.at'.lookup k' = some x → k = k'

end
end Mine

set_option autoImplicit false
set_option maxRecDepth 100000
set_option linter.unusedVariables false
namespace Mine
open PySem PyProof.Rows PySem.W

/-! ### max with a default -/
section
variable {prog : Program} {w : World} {A : Around} {R : Result → Shared → Prop} {I : Addr} {fp wr : List Addr} {n : Nat} {P : Nat → Value → Prop} {St : Nat → Heap → Prop} {kw : List (Str × Value)}

end

section
variable {prog : Program} {w : World} {A : Around} {E : Value → Shared → Prop} {s : Shared}

end

section
variable {g : Cfg} {env : Env} {A : Around} {X : Value → Shared → Prop} {s : Shared} {as : List Addr} {fr : Fra} {σ σ' : Sto} {Q : Value → Shared → Prop}

end
end Mine

set_option autoImplicit false
set_option maxRecDepth 100000
set_option linter.unusedVariables false
namespace Mine
open PySem PyProof.Rows PySem.W

theorem ofOpt_ok {σ σ' : Sto} {o : Option V} {v : V} (e : ofOpt σ o = .ok v σ') : o = some v ∧ σ' = σ := by
  unfold ofOpt at e; split at e
  · cases e; exact ⟨rfl, rfl⟩
  · cases e
theorem ofOptB_ok {σ σ' : Sto} {o : Option Bool} {v : V} (e : ofOptB σ o = .ok v σ') : ∃ b, o = some b ∧ v = .bool b ∧ σ' = σ := by
  unfold ofOptB at e; split at e
  · cases e; exact ⟨_, rfl, rfl, rfl⟩
  · cases e

section
variable {g : Cfg} {K : Frag} {c0 : CE} {fa : Nat → Option Addr} {call : Nat → List V → Sto → RE} {env : Env} {A : Around} {X : Value → Shared → Prop} {s : Shared} {as : List Addr} {fr : Fra} {σ σ' : Sto} {r n : Nat}
  {names : List (Str × NameKind)} {Q : Value → Shared → Prop} {v : V}

noncomputable def NodeE (g : Cfg) (c0 : CE) (call : Nat → List V → Sto → RE) (r : Nat) (names : List (Str × NameKind)) (e : Expr) (e' : E) : Prop :=
  ∀ (env : Env) (A : Around) (X : Value → Shared → Prop) (s : Shared) (as : List Addr) (fr : Fra) (σ σ' : Sto) (v : V) (Q : Value → Shared → Prop),
    NamesOk (c0.sub names) env → Room A (r + 1) → At g env as fr σ s → evE call e' fr σ = .ok v σ' → EPost g env as fr s v σ' Q → wpAny (model g.prog g.w) A (eval e env) Q X s
noncomputable def NodeT (g : Cfg) (c0 : CE) (call : Nat → List V → Sto → RE) (r : Nat) (names : List (Str × NameKind)) (e : Expr) (e' : E) : Prop :=
  ∀ (env : Env) (A : Around) (X : Value → Shared → Prop) (s : Shared) (as : List Addr) (fr : Fra) (σ σ' : Sto) (b : Bool) (Q : Bool → Shared → Prop),
    NamesOk (c0.sub names) env → Room A (r + 1) → At g env as fr σ s → evE call e' fr σ = .ok (.bool b) σ' → BPost g env as fr s b σ' Q → wpAny (model g.prog g.w) A (isTrue e env (eval e env)) Q X s

theorem n_none {k p} : NodeE g c0 call r names (.Constant .none k p) .none := fun env A X s as fr σ σ' v Q N hA T ev hQ => by
  rw [evE] at ev; cases ev
  exact Constant_none (hQ.same' T (by rw [RepV]))
theorem n_bool {b k p} : NodeE g c0 call r names (.Constant (.bool b) k p) (.bool b) := fun env A X s as fr σ σ' v Q N hA T ev hQ => by
  rw [evE] at ev; cases ev
  exact Constant_bool (hQ.bool' T)
theorem n_int {b k p} : NodeE g c0 call r names (.Constant (.int b) k p) (.int b) := fun env A X s as fr σ σ' v Q N hA T ev hQ => by
  rw [evE] at ev; cases ev
  exact wpAny_Constant_int (hQ.int T)
theorem n_str {b k p} : NodeE g c0 call r names (.Constant (.str b) k p) (.str b) := fun env A X s as fr σ σ' v Q N hA T ev hQ => by
  rw [evE] at ev; cases ev
  exact wpAny_Constant_str (hQ.same T (by rw [RepV]; exact ⟨_, rfl⟩))
theorem n_loc {x : Str} {i p} (hl : (c0.sub names).loc? x = some i) (hd : (x == ("__debug__" : Str)) = false) (hc : (x == ("__classdict__" : Str)) = false) : NodeE g c0 call r names (.Name x p) (.loc i) := fun env A X s as fr σ σ' v Q N hA T ev hQ => by
  rw [evE] at ev
  dsimp only at ev
  split at ev
  · rename_i v' he
    cases ev
    exact o_loc T N hl hd hc he hQ
  · cases ev
theorem n_const {x : Str} {i p} (G : Glob g K c0 fa) (hg : (c0.sub names).glob x = true) (hd : (x == ("__debug__" : Str)) = false) (hk : c0.consts.lookup x = some i) : NodeE g c0 call r names (.Name x p) (.int i) := fun env A X s as fr σ σ' v Q N hA T ev hQ => by
  rw [evE] at ev; cases ev
  obtain ⟨t, ht⟩ := G.const x i hk
  exact o_glob T N hg hd ht (hQ.same' T (by rw [RepV]; exact ⟨_, rfl⟩))
theorem n_bin {l rt op a b p} (IH : SndE g c0 call r n) (h1 : compE n (c0.sub names) l = some a) (h2 : compE n (c0.sub names) rt = some b) : NodeE g c0 call r names (.BinOp l op rt p) (.bin op a b) := fun env A X s as fr σ σ' v Q N hA T ev hQ => by
  rw [evE] at ev
  obtain ⟨u, τ, e1, e2⟩ := bind_ok ev
  obtain ⟨w, τ', e3, e4⟩ := bind_ok e2
  exact wpAny_BinOp (two IH h1 h2 N hA T e1 e3 fun x y as' h' tk st R' F' r1 r2 => o_bin (T.step R' F') r1 r2 e4 (epost_of hQ st R' F'))
theorem n_pow {a b k1 p1 k2 p2 p} (ha : 0 ≤ a ∧ a ≤ 10 ∧ 0 ≤ b ∧ b ≤ 100) : NodeE g c0 call r names (.BinOp (.Constant (.int a) k1 p1) .Pow (.Constant (.int b) k2 p2) p) (.pow a.toNat b.toNat) := fun env A X s as fr σ σ' v Q N hA T ev hQ => by
  rw [evE] at ev; cases ev
  have h64 : a.natAbs < 2 ^ 64 := by
    have : (2:Nat)^64 = 18446744073709551616 := by decide +kernel
    omega
  refine wpAny_BinOp (wpAny_Constant_int (wpAny_Constant_int (pow_int_small ha.2.2.1 (by omega) h64 ?_)))
  have : ((a.toNat : Nat) : Int) = a := Int.toNat_of_nonneg ha.1
  rw [this] at hQ
  exact hQ.int T
theorem n_neg {x a p} (IH : SndE g c0 call r n) (h1 : compE n (c0.sub names) x = some a) : NodeE g c0 call r names (.UnaryOp .USub x p) (.neg a) := fun env A X s as fr σ σ' v Q N hA T ev hQ => by
  rw [evE] at ev
  obtain ⟨u, τ, e1, e2⟩ := bind_ok ev
  refine UnaryOp_ (IH names x a h1 env A X s as fr σ τ u _ N hA T e1 fun val as' h' tk st R' F' r1 => ?_)
  split at e2
  · cases e2
    rw [RepV] at r1; obtain ⟨t, rfl⟩ := r1
    exact PyProof.Rows.neg_int ((epost_of (tk := tk) hQ st R' F').int (T.step R' F'))
  · cases e2
theorem n_not {x a p} (IH : SndE g c0 call r n) (h1 : compE n (c0.sub names) x = some a) : NodeE g c0 call r names (.UnaryOp .Not x p) (.not a) := fun env A X s as fr σ σ' v Q N hA T ev hQ => by
  rw [evE] at ev
  obtain ⟨u, τ, e1, e2⟩ := bind_ok ev
  refine UnaryOp_ (IH names x a h1 env A X s as fr σ τ u _ N hA T e1 fun val as' h' tk st R' F' r1 => ?_)
  split at e2
  · cases e2
    rw [RepV] at r1; subst r1
    exact not_of (wpAny_truthy_bool ((epost_of (tk := tk) hQ st R' F').bool' (T.step R' F')))
  · cases e2
theorem t_not {x a p} (IH : SndT g c0 call r n) (h1 : compE n (c0.sub names) x = some a) : NodeT g c0 call r names (.UnaryOp .Not x p) (.not a) := fun env A X s as fr σ σ' v Q N hA T ev hQ => by
  rw [evE] at ev
  obtain ⟨u, τ, e1, e2⟩ := bind_ok ev
  split at e2
  · rename_i b
    cases e2
    exact isTrue_not (IH names x a h1 env A X s as fr σ _ b _ N hA T e1 fun as' h' tk st R' F' => hQ as' h' tk st R' F')
  · cases e2
theorem n_boolop {op vs es b' p} (IH : SndE g c0 call r n) (h1 : mapO (compE n (c0.sub names)) vs = some es) (h2 : foldB op es = some b') : NodeE g c0 call r names (.BoolOp op vs p) b' := fun env A X s as fr σ σ' v Q N hA T ev hQ =>
  boolOp_snd IH vs es b' s as σ σ' v Q h1 h2 N hA T ev hQ
theorem t_boolop {op vs es b' p} (IH : SndT g c0 call r n) (h1 : mapO (compE n (c0.sub names)) vs = some es) (h2 : foldB op es = some b') : NodeT g c0 call r names (.BoolOp op vs p) b' := fun env A X s as fr σ σ' v Q N hA T ev hQ =>
  wpAny_isTrue_BoolOp (allTrue_snd IH vs es b' s as σ σ' v Q h1 h2 N hA T ev hQ)
theorem noMark_of {op : CmpOp} {rt : Expr} (h : noMark op rt = true) : behindInMarks op rt = false := by
  unfold noMark at h; simpa using h
theorem n_cmp {l rt op a b p} (G : Glob g K c0 fa) (IH : SndE g c0 call r n) (hm : noMark op rt = true) (h1 : compE n (c0.sub names) l = some a) (h2 : compE n (c0.sub names) rt = some b) : NodeE g c0 call r names (.Compare l [op] [rt] p) (.cmp op a b) := fun env A X s as fr σ σ' v Q N hA T ev hQ => by
  rw [evE] at ev
  obtain ⟨u, τ, e1, e2⟩ := bind_ok ev
  obtain ⟨w, τ', e3, e4⟩ := bind_ok e2
  obtain ⟨b', e5, rfl, rfl⟩ := ofOptB_ok e4
  exact wpAny_Compare1 (two IH h1 h2 N hA T e1 e3 fun x y as' h' tk st R' F' r1 r2 => o_cmp G.sys (T.step R' F') hA r1 r2 e5 (epost_of hQ st R' F')) (noMark_of hm)
theorem t_cmp {l rt op a b p} (G : Glob g K c0 fa) (IH : SndE g c0 call r n) (hm : noMark op rt = true) (h1 : compE n (c0.sub names) l = some a) (h2 : compE n (c0.sub names) rt = some b) : NodeT g c0 call r names (.Compare l [op] [rt] p) (.cmp op a b) := fun env A X s as fr σ σ' v Q N hA T ev hQ => by
  rw [evE] at ev
  obtain ⟨u, τ, e1, e2⟩ := bind_ok ev
  obtain ⟨w, τ', e3, e4⟩ := bind_ok e2
  obtain ⟨b', e5, e6, rfl⟩ := ofOptB_ok e4
  cases e6
  refine wpAny_isTrue_Compare1 (two IH h1 h2 N hA T e1 e3 fun x y as' h' tk st R' F' r1 r2 => ?_) (noMark_of hm)
  refine o_cmp G.sys (T.step (tk := tk) R' F') hA r1 r2 e5 fun val as2 h2 tk2 st2 R2 F2' r3 => ?_
  rw [RepV] at r3; subst r3
  exact wpAny_truthy_bool (hQ as2 h2 tk2 (step_trans st st2 R2 F2') R2 F2')
theorem lastMarks_of {o1 o2 : CmpOp} {m rt : Expr} (h : noMark o2 rt = true) : lastMarks [o1, o2] [m, rt] = false := by
  have := noMark_of h; simpa [lastMarks] using this
theorem n_cmp2 {l m rt o1 o2 a b d p} (G : Glob g K c0 fa) (IH : SndE g c0 call r n) (hm : noMark o2 rt = true) (h1 : compE n (c0.sub names) l = some a) (h2 : compE n (c0.sub names) m = some b) (h3 : compE n (c0.sub names) rt = some d) :
    NodeE g c0 call r names (.Compare l [o1, o2] [m, rt] p) (.cmp2 o1 o2 a b d) := fun env A X s as fr σ σ' v Q N hA T ev hQ => by
  rw [evE] at ev
  obtain ⟨u, τ, e1, e2⟩ := bind_ok ev
  obtain ⟨w, τ', e3, e4⟩ := bind_ok e2
  refine Compare_chain (wpAny_mono (two (Q := fun x y s2 => wpAny (model g.prog g.w) A (compareOp o1 x y) (fun c s₂ => wpAny (model g.prog g.w) A (truthy c)
      (fun t s₃ => if t then wpAny (model g.prog g.w) A (compareChain p y [o2] [eval rt env]) Q X s₃ else Q c s₃) X s₂) X s2) IH h1 h2 N hA T e1 e3 fun x y as' h' tk st R' F' r1 r2 => ?_) (fun x s1 h => chain_link h) fun _ _ h => h) (lastMarks_of hm)
  split at e4
  · rename_i e5
    refine o_cmp G.sys (T.step (tk := tk) R' F') hA r1 r2 e5 fun val as2 h2' tk2 st2 R2 F2' r3 => ?_
    rw [RepV] at r3; subst r3
    refine wpAny_truthy_bool ?_
    obtain ⟨z, τ2, e6, e7⟩ := bind_ok e4
    obtain ⟨b', e8, rfl, rfl⟩ := ofOptB_ok e7
    refine chain_last (IH names rt d h3 env A X _ as2 fr τ' _ z _ N hA ⟨F2', R2⟩ e6 fun val as3 h3 tk3 st3 R3 F3 r4 => ?_)
    have kp := At.keep (s := { s with heap := h', toks := tk }) ⟨F', R'⟩ st2
    have kp2 := At.keep (s := { s with heap := h2', toks := tk2 }) ⟨F2', R2⟩ st3
    have st13 := step_trans st (step_trans st2 st3 R3 F3) R3 F3
    exact o_cmp G.sys (T.step (tk := tk3) R3 F3) hA (RepV.keep kp2 _ _ (RepV.keep kp _ _ r2)) r4 e8 (epost_of (s := s) (tk := tk3) hQ st13 R3 F3)
  · rename_i e5
    cases e4
    refine o_cmp G.sys (T.step (tk := tk) R' F') hA r1 r2 e5 fun val as2 h2' tk2 st2 R2 F2' r3 => ?_
    have r3' := r3
    rw [RepV] at r3; subst r3
    refine wpAny_truthy_bool ?_
    exact hQ _ as2 h2' tk2 (step_trans st st2 R2 F2') R2 F2' r3'
  · cases e4
theorem t_cmp2 {l m rt o1 o2 a b d p} (G : Glob g K c0 fa) (IH : SndE g c0 call r n) (hm : noMark o2 rt = true) (h1 : compE n (c0.sub names) l = some a) (h2 : compE n (c0.sub names) m = some b) (h3 : compE n (c0.sub names) rt = some d) :
    NodeT g c0 call r names (.Compare l [o1, o2] [m, rt] p) (.cmp2 o1 o2 a b d) := fun env A X s as fr σ σ' v Q N hA T ev hQ => by
  rw [evE] at ev
  obtain ⟨u, τ, e1, e2⟩ := bind_ok ev
  obtain ⟨w, τ', e3, e4⟩ := bind_ok e2
  refine isTrue_chain (wpAny_mono (two (Q := fun x y s2 => wpAny (model g.prog g.w) A (compareOp o1 x y) (fun c s₂ => wpAny (model g.prog g.w) A (truthy c)
      (fun t s₃ => if t then wpAny (model g.prog g.w) A (testChain p y [o2] [eval rt env]) Q X s₃ else Q false s₃) X s₂) X s2) IH h1 h2 N hA T e1 e3 fun x y as' h' tk st R' F' r1 r2 => ?_) (fun x s1 h => test_link h) fun _ _ h => h) (lastMarks_of hm)
  split at e4
  · rename_i e5
    refine o_cmp G.sys (T.step (tk := tk) R' F') hA r1 r2 e5 fun val as2 h2' tk2 st2 R2 F2' r3 => ?_
    rw [RepV] at r3; subst r3
    refine wpAny_truthy_bool ?_
    obtain ⟨z, τ2, e6, e7⟩ := bind_ok e4
    obtain ⟨b', e8, e9, rfl⟩ := ofOptB_ok e7
    cases e9
    refine test_last (IH names rt d h3 env A X _ as2 fr τ' _ z _ N hA ⟨F2', R2⟩ e6 fun val as3 h3 tk3 st3 R3 F3 r4 => ?_)
    have kp := At.keep (s := { s with heap := h', toks := tk }) ⟨F', R'⟩ st2
    have kp2 := At.keep (s := { s with heap := h2', toks := tk2 }) ⟨F2', R2⟩ st3
    have st13 := step_trans st (step_trans st2 st3 R3 F3) R3 F3
    refine o_cmp G.sys (T.step (tk := tk3) R3 F3) hA (RepV.keep kp2 _ _ (RepV.keep kp _ _ r2)) r4 e8 fun val as4 h4 tk4 st4 R4 F4 r5 => ?_
    rw [RepV] at r5; subst r5
    exact wpAny_truthy_bool (hQ as4 h4 tk4 (step_trans st13 st4 R4 F4) R4 F4)
  · rename_i e5
    cases e4
    refine o_cmp G.sys (T.step (tk := tk) R' F') hA r1 r2 e5 fun val as2 h2' tk2 st2 R2 F2' r3 => ?_
    rw [RepV] at r3; subst r3
    exact wpAny_truthy_bool (hQ as2 h2' tk2 (step_trans st st2 R2 F2') R2 F2')
  · cases e4
theorem sub_plain {i : Expr} {b : E} {c : CE} (h : compE n c i = some b) : ∀ o x, subscripted i false o x = operate [o, x] (getItem o x) := by
  have hk := comp_kind h
  cases i <;> first | (intros; rfl) | exact ft hk
theorem n_sub {va i a b p} (IH : SndE g c0 call r n) (h1 : compE n (c0.sub names) va = some a) (h2 : compE n (c0.sub names) i = some b) : NodeE g c0 call r names (.Subscript va i p) (.sub a b) := fun env A X s as fr σ σ' v Q N hA T ev hQ => by
  rw [evE] at ev
  obtain ⟨u, τ, e1, e2⟩ := bind_ok ev
  obtain ⟨w, τ', e3, e4⟩ := bind_ok e2
  obtain ⟨e5, rfl⟩ := ofOpt_ok e4
  exact Subscript_ (two IH h1 h2 N hA T e1 e3 fun x y as' h' tk st R' F' r1 r2 => o_sub (T.step R' F') hA r1 r2 (sub_plain h2) e5 (epost_of hQ st R' F'))
end
end Mine

set_option autoImplicit false
set_option maxRecDepth 100000
set_option linter.unusedVariables false
namespace Mine
open PySem PyProof.Rows PySem.W

section
variable {g : Cfg} {K : Frag} {c0 : CE} {fa : Nat → Option Addr} {call : Nat → List V → Sto → RE} {env : Env} {A : Around} {X : Value → Shared → Prop} {s : Shared} {as : List Addr} {fr : Fra} {σ σ' : Sto} {r n : Nat}
  {names : List (Str × NameKind)} {Q : Value → Shared → Prop} {v : V}

theorem FrRel.there {h : Heap} (F : FrRel g env as fr h) : ∃ o, h.get? env.locals = some o := by
  obtain ⟨m, ⟨o, es, ep, e, _⟩, _⟩ := F.ns; exact ⟨o, e⟩
theorem At.push (T : At g env as fr σ s) (o : Obj) : At g env as fr σ { s with heap := s.heap.push o } :=
  have x : Step [] as s.heap as (s.heap.push o) := Step.of_ext (keeps_push _ _)
  ⟨T.frame x, T.R.ext (keeps_push _ _)⟩
theorem FrRel.alter {as' : List Addr} {h h' : Heap} {d : Addr} (F : FrRel g env as fr h) (K : Keep as h as' h') (hk : ∀ (b : Addr) (o : Obj), b ≠ d → h.get? b = some o → h'.get? b = some o) (hL : env.locals ≠ d) (hc : ∀ x c, env.cells.lookup x = some c → c ≠ d)
    (has : ∀ a ∈ as', a ∈ as ∨ a = d) : FrRel g env as' fr h' := by
  obtain ⟨m, hm, hv⟩ := F.ns
  refine ⟨F.kind, F.above, F.glob, F.blt, F.len, F.nd, ⟨m, hm.at' fun o e => hk _ o hL e, fun i x v h1 h2 => ?_⟩, fun i x k h1 h2 => ?_, fun q => ?_, fun x c hc' => ⟨fun q => ?_, (F.offc _ _ hc').2.1, ?_⟩, F.apart, F.newc⟩
  · obtain ⟨val, e1, e2⟩ := hv i x v h1 h2
    exact ⟨val, e1, RepV.keep K _ _ e2⟩
  · obtain ⟨c, cv, e1, ⟨o, e2, e2'⟩, e3⟩ := F.cells i x k h1 h2
    refine ⟨c, cv, e1, ⟨o, hk _ _ (hc _ _ e1) e2, e2'⟩, fun v e => ?_⟩
    obtain ⟨val, e4, e5⟩ := e3 v e
    exact ⟨val, e4, RepV.keep K _ _ e5⟩
  · rcases has _ q with q | q
    · exact F.off q
    · exact hL q
  · rcases has _ q with q | q
    · exact (F.offc _ _ hc').1 q
    · exact hc _ _ hc' q
  · obtain ⟨cv, o, e, e'⟩ := (F.offc _ _ hc').2.2
    exact ⟨cv, o, hk _ _ (hc _ _ hc') e, e'⟩
theorem n_list {es es' p} (IH : SndE g c0 call r n) (h1 : mapO (compE n (c0.sub names)) es = some es') : NodeE g c0 call r names (.List es p) (.list es') := fun env A X s as fr σ σ' v Q N hA T ev hQ => by
  rw [evE] at ev
  obtain ⟨u, τ, e1, e2⟩ := sbind_ok ev
  refine wpAny_List (args_snd IH es es' s as σ τ u _ h1 N hA T e1 fun xs as' h' tk st R' F' r1 => ?_)
  have hl := (RepVs.f2.mp r1).length
  refine ⟨by rw [← hl]; exact newL_len e2, ?_⟩
  exact (epost_of (tk := tk) hQ st R' F').newH (tk := tk) (T.step R' F') (xs := u) (items := xs.toArray) (by simpa using r1) e2
theorem n_tup {es es' k p} (IH : SndE g c0 call r n) (h1 : mapO (compE n (c0.sub names)) es = some es') : NodeE g c0 call r names (.Tuple es k p) (.tup es') := fun env A X s as fr σ σ' v Q N hA T ev hQ => by
  rw [evE] at ev
  obtain ⟨u, τ, e1, e2⟩ := sbind_ok ev
  split at e2
  case isFalse => cases e2
  rename_i hlen
  cases e2
  refine wpAny_Tuple (args_snd IH es es' s as σ _ u _ h1 N hA T e1 fun xs as' h' tk st R' F' r1 => ?_)
  have hl := (RepVs.f2.mp r1).length
  refine ⟨by rw [← hl]; show _ ≤ 2 ^ 24; omega, ?_⟩
  have T' := T.step (tk := tk) R' F'
  have x : Step [] as' h' as' (h'.push { cls := .type "tuple", data := .seq xs.toArray }) := Step.of_ext (keeps_push _ _)
  refine (epost_of (tk := tk) hQ st R' F').use (tk := tk) T' x (R'.ext (keeps_push _ _)) ?_
  rw [RepV]
  exact ⟨_, xs.toArray, 0, rfl, Heap.get?_push_size _ rfl, by simp; omega, by simpa using RepVs.keep (R'.keep0 x) _ _ r1⟩

end
end Mine

set_option autoImplicit false
set_option maxRecDepth 100000
set_option linter.unusedVariables false
namespace Mine
open PySem PyProof.Rows PySem.W

section
variable {g : Cfg} {K : Frag} {c0 : CE} {fa : Nat → Option Addr} {call : Nat → List V → Sto → RE} {env : Env} {A : Around} {X : Value → Shared → Prop} {s : Shared} {as : List Addr} {fr : Fra} {σ σ' : Sto} {r n : Nat}
  {names : List (Str × NameKind)} {Q : Value → Shared → Prop} {v : V}

theorem noStar {pos : Pos} {c : CE} : ∀ {es : List Expr} {es' : List E}, mapO (compE n c) es = some es' → (backTo pos (starEach es env)).any (·.1) = false
  | [], _, _ => rfl
  | e :: es, es', h => by
    obtain ⟨a, as', h1, h2, rfl⟩ := mapO_cons h
    rw [notStarred h1]
    show (false || (backTo pos (starEach es env)).any (·.1)) = false
    rw [noStar h2]; rfl

theorem callWith_snd {pos : Pos} {f : Value} {first : List Value} (IH : SndE g c0 call r n) (hk : ∀ h : Heap, (∀ (a : Addr) (o : Obj), g.b.get? a = some o → h.get? a = some o) → ∃ k, (k = Keeper.frame ∨ k = Keeper.machine ∨ k = Keeper.boundFrame) ∧ Looks (model g.prog g.w) h (keeperOf f) k)
    {es : List Expr} {es' : List E} {vs : List V} (h1 : mapO (compE n (c0.sub names)) es = some es') (N : NamesOk (c0.sub names) env) (hA : Room A (r + 1)) (T : At g env as fr σ s) (ev : evEs call es' fr σ = .ok vs σ')
    (hQ : ∀ (xs : List Value) (as' : List Addr) (h' : Heap) (tk : Nat), Step [env.locals] as s.heap as' h' → Rel g as' σ' h' → FrRel g env as' fr h' → RepVs as' h' vs xs → wpAny (model g.prog g.w) A (PySem.call f (first ++ xs)) Q X { s with heap := h', toks := tk }) :
    wpAny (model g.prog g.w) A (callWith pos f first (backTo pos (starEach es env)) []) Q X s := by
  refine callWith_of (P := fun h => ∀ (a : Addr) (o : Obj), g.b.get? a = some o → h.get? a = some o) (by rw [noStar h1]; rfl) hk ?_
  have fin : ∀ (xs : List Value) (as' : List Addr) (h' : Heap) (tk : Nat), Step [env.locals] as s.heap as' h' → Rel g as' σ' h' → FrRel g env as' fr h' → RepVs as' h' vs xs →
    (∀ (a : Addr) (o : Obj), g.b.get? a = some o → ({ s with heap := h', toks := tk } : Shared).heap.get? a = some o) ∧ wpAny (model g.prog g.w) A (PySem.call f (first ++ (⟨xs, []⟩ : Args).pos) (⟨xs, []⟩ : Args).kw) Q X { s with heap := h', toks := tk } :=
    fun xs as' h' tk st R' F' r' => ⟨R'.base, hQ xs as' h' tk st R' F' r'⟩
  cases es with
  | nil =>
    rw [mapO] at h1; cases h1; rw [evEs] at ev; cases ev
    exact PySem.evalArgs_none (fin [] as s.heap s.toks (Step.refl _ _ _) T.R T.F (by rw [RepVs]))
  | cons e es =>
    have key := args_snd (A := A) (X := X) (pos := pos) IH (e :: es) es' s as σ σ' vs (fun xs s' => (∀ (a : Addr) (o : Obj), g.b.get? a = some o → s'.heap.get? a = some o) ∧ wpAny (model g.prog g.w) A (PySem.call f (first ++ (⟨xs, []⟩ : Args).pos) (⟨xs, []⟩ : Args).kw) Q X s') h1 N hA T ev fin
    obtain ⟨a, as', h3, h4, rfl⟩ := mapO_cons h1
    rw [notStarred h3] at key ⊢
    exact Calls.evalArgs_plain key

theorem keeps_blt (id : String) : ∀ h : Heap, ∃ k, (k = Keeper.frame ∨ k = Keeper.machine ∨ k = Keeper.boundFrame) ∧ Looks (model g.prog g.w) h (keeperOf (.builtin id)) k := fun h => ⟨.machine, .inr (.inl rfl), .now⟩
theorem keeps_typ (id : String) : ∀ h : Heap, ∃ k, (k = Keeper.frame ∨ k = Keeper.machine ∨ k = Keeper.boundFrame) ∧ Looks (model g.prog g.w) h (keeperOf (.type id)) k := fun h => ⟨.machine, .inr (.inl rfl), .now⟩
theorem keeps_bv (b : BN) (hb : bOk b = true) : ∀ h : Heap, ∃ k, (k = Keeper.frame ∨ k = Keeper.machine ∨ k = Keeper.boundFrame) ∧ Looks (model g.prog g.w) h (keeperOf (bltVal b)) k := by
  cases b <;> first | exact ft hb | exact keeps_blt _ | exact keeps_typ _
theorem lookup_all {α : Type} {P : α → Bool} {x : Str} {b : α} : ∀ {l : List (Str × α)}, l.all (fun q => P q.2) = true → l.lookup x = some b → P b = true
  | [], _, e => nn e
  | q :: l, h, e => by
    obtain ⟨h1, h2⟩ := and_inv (show (P q.2 && l.all fun q => P q.2) = true from h)
    obtain ⟨y, c⟩ := q
    rw [List.lookup_cons] at e
    cases hq : x == y <;> rw [hq] at e
    · exact lookup_all h2 e
    · exact Option.some.inj e ▸ h1
theorem keeps_G {f : Value} (G : Glob g K c0 fa) (hk : keepIn K f = true) : ∀ h : Heap, (∀ (a : Addr) (o : Obj), g.b.get? a = some o → h.get? a = some o) → ∃ k, (k = Keeper.frame ∨ k = Keeper.machine ∨ k = Keeper.boundFrame) ∧ Looks (model g.prog g.w) h (keeperOf f) k :=
  fun h hb => keeps_K hk h (G.kin.keeps hb)

theorem n_blt {f : Str} {fp p : Pos} {b es es'} (G : Glob g K c0 fa) (IH : SndE g c0 call r n) (hg : (c0.sub names).glob f = true) (hd : (f == ("__debug__" : Str)) = false) (hb : bltName.lookup f = some b) (h1 : mapO (compE n (c0.sub names)) es = some es') :
    NodeE g c0 call r names (.Call (.Name f fp) es [] p) (.blt b es') := fun env A X s as fr σ σ' v Q N hA T ev hQ => by
  rw [evE] at ev
  obtain ⟨us, τ, e1, e2⟩ := sbind_ok ev
  have hne : bOk b = true := lookup_all (P := bOk) (l := bltName) rfl hb
  refine wpAny_Call_NameR (o_glob T N hg hd (G.blt f b hb) ?_)
  refine callWith_snd IH (fun h _ => ?_) h1 N hA T e1 fun xs as' h' tk st R' F' r' => ?_
  · exact keeps_bv b hne h
  · exact o_blt G.sys (T.step (tk := tk) R' F') hA r' hne e2 (epost_of hQ st R' F')
theorem Room.less {m k : Nat} (h : Room A (m + k)) : Room A m := by
  have h1 := h.units; have h2 := h.depth
  exact ⟨by omega, by omega, h.handled⟩

theorem FrRel.size {h : Heap} (F : FrRel g env as fr h) : g.b.objs.size ≤ h.objs.size := by
  obtain ⟨o, e⟩ := F.there
  exact Nat.le_trans F.above (Nat.le_of_lt (Heap.lt_size e))

theorem epost_grow {as' : List Addr} {h' : Heap} {tk : Nat} {τ : Sto} {val : Value} {as2 : List Addr} {h2 : Heap} {tk2 : Nat} (hQ : EPost g env as fr s v σ' Q) (st : Step [env.locals] as s.heap as' h') (R' : Rel g as' τ h') (F' : FrRel g env as' fr h')
    (st2 : Step [] as' h' as2 h2) (R2 : Rel g as2 σ' h2) (r2 : RepV as2 h2 v val) : Q val { s with heap := h2, toks := tk2 } :=
  (epost_of (tk := tk) hQ st R' F').use (tk := tk2) (s := { s with heap := h', toks := tk }) ⟨F', R'⟩ st2 R2 r2

theorem n_call {f : Str} {fp p : Pos} {k es es'} (G : Glob g K c0 fa) (C : CallOk g fa call r) (IH : SndE g c0 call r n) (hg : (c0.sub names).glob f = true) (hd : (f == ("__debug__" : Str)) = false) (hb : c0.fns.lookup f = some k) (h1 : mapO (compE n (c0.sub names)) es = some es') :
    NodeE g c0 call r names (.Call (.Name f fp) es [] p) (.call k es') := fun env A X s as fr σ σ' v Q N hA T ev hQ => by
  rw [evE] at ev
  obtain ⟨us, τ, e1, e2⟩ := sbind_ok ev
  obtain ⟨a, hv, hfa, hkp⟩ := G.fn f k hb
  refine wpAny_Call_NameR (o_glob T N hg hd hv ?_)
  refine callWith_snd IH (keeps_G G hkp) h1 N hA T e1 fun xs as' h' tk st R' F' r' => ?_
  refine wpAny_call (C k a us τ σ' v hfa e2 A _ as' xs _ (hA.less (k := 1)) R' F'.size r' fun val as2 h2 tk2 st2 R2 r2 => ?_)
  exact epost_grow (s := s) (tk := tk) (tk2 := tk2) hQ st R' F' st2 R2 r2

theorem n_isi {a : Expr} {t : Str} {x ty p fp tp} (G : Glob g K c0 fa) (IH : SndE g c0 call r n) (hg : (c0.sub names).glob "isinstance" = true) (hgt : (c0.sub names).glob t = true) (ht : isiTy c0 t = some ty) (hdt : (t == ("__debug__" : Str)) = false) (h1 : compE n (c0.sub names) a = some x) :
    NodeE g c0 call r names (.Call (.Name "isinstance" fp) [a, .Name t tp] [] p) (.isi x ty) := fun env A X s as fr σ σ' v Q N hA T ev hQ => by
  rw [evE] at ev
  obtain ⟨u, τ, e1, e2⟩ := bind_ok ev
  obtain ⟨b, e3, rfl, rfl⟩ := ofOptB_ok e2
  refine wpAny_Call_NameR (o_glob T N hg rfl G.isi ?_)
  refine Calls.callWith_builtin (by rw [notStarred h1]; rfl) ?_
  rw [notStarred h1]
  refine Calls.evalArgs_plain ?_
  have hrw : (false, eval a env) :: (backTo p (starEach [.Name t tp] env)) = backTo p (starEach (a :: [.Name t tp]) env) := by rw [notStarred h1]; rfl
  show wpAny _ A (spliced ((false, eval a env) :: (backTo p (starEach [.Name t tp] env)))) _ X s
  rw [hrw]
  refine wpAny_items_cons ?_ (notStarred h1 _ _)
  refine IH names a x h1 env A X s as fr σ _ u _ N hA T e1 fun val as' h' tk st R' F' r' => ?_
  have T' := T.step (tk := tk) R' F'
  unfold isiTy at ht
  cases hl : tyName.lookup t with
  | some ty' =>
    rw [hl] at ht
    cases Option.some.inj ht
    have hty : ∃ y, tyVal ty = some y := by
      have : ∀ q ∈ tyName, ∃ y, tyVal q.2 = some y := by
        intro q hq
        simp only [tyName, List.mem_cons, List.not_mem_nil, or_false] at hq
        rcases hq with rfl | rfl | rfl | rfl <;> exact ⟨_, rfl⟩
      exact this _ (FrRel.keep.lookup_mem hl)
    obtain ⟨y, hy⟩ := hty
    refine wpAny_items_cons (o_glob T' N hgt hdt (G.typ t ty y hl hy) (wpAny_items_nil ?_))
    exact o_isi T' r' e3 hy (epost_of hQ st R' F')
  | none =>
    rw [hl] at ht
    exact nn ht

end
end Mine

set_option autoImplicit false
set_option maxRecDepth 100000
set_option linter.unusedVariables false
namespace Mine
open PySem PyProof.Rows PySem.W

section
variable {g : Cfg} {K : Frag} {c0 : CE} {fa : Nat → Option Addr} {call : Nat → List V → Sto → RE} {env : Env} {A : Around} {X : Value → Shared → Prop} {s : Shared} {as : List Addr} {fr : Fra} {σ σ' : Sto} {r n : Nat}
  {names : List (Str × NameKind)} {Q : Value → Shared → Prop} {v : V}

end
end Mine

set_option autoImplicit false
set_option maxRecDepth 100000
set_option linter.unusedVariables false
namespace Mine
open PySem PyProof.Rows PySem.W

section
variable {g : Cfg} {K : Frag} {c0 : CE} {fa : Nat → Option Addr} {call : Nat → List V → Sto → RE} {env : Env} {A : Around} {X : Value → Shared → Prop} {s : Shared} {as : List Addr} {fr : Fra} {σ σ' : Sto} {r n : Nat}
  {names : List (Str × NameKind)} {Q : Value → Shared → Prop} {v : V}

end
end Mine

set_option autoImplicit false
set_option maxRecDepth 100000
set_option linter.unusedVariables false
namespace Mine
open PySem PyProof.Rows PySem.W

/-- what is walked over -/
inductive Src where
  | live (l : Nat) | tup (vs : List V) | rng (lo hi : Int)

noncomputable def srcAt (σ : Sto) (i : Nat) : Src → Option (Option V)
  | .live l => (getL σ l).map fun xs => xs[i]?
  | .tup vs => some vs[i]?
  | .rng lo hi => some (rngL lo hi)[i]?

noncomputable def ItAt (src : Src) (I : Addr) (i : Nat) (as : List Addr) (h : Heap) : Prop := match src with
  | .live l => ∃ a, as[l]? = some a ∧ h.IsListIter I a i
  | .tup vs => ∃ a items n, h.get? a = some { cls := .type "tuple", data := .seq items n } ∧ RepVs as h vs items.toList ∧ h.IsTupleIter I a i
  | .rng lo hi => IsRangeIter h I (lo + (i : Int) * 1) (((hi - lo).toNat : Int) - (i : Nat)) 1

theorem ItAt.there {src : Src} {I : Addr} {i : Nat} {as : List Addr} {h : Heap} (it : ItAt src I i as h) : ∃ o, h.get? I = some o ∧ ¬ Imm o := by
  cases src with
  | live l =>
    obtain ⟨a, _, o, e, hc, _⟩ := it
    exact ⟨o, e, fun q => by rcases q.1 with q | q <;> rw [hc] at q <;> simp at q⟩
  | tup vs =>
    obtain ⟨a, _, _, _, _, o, e, hc, _⟩ := it
    exact ⟨o, e, fun q => by rcases q.1 with q | q <;> rw [hc] at q <;> simp at q⟩
  | rng lo hi => exact ⟨_, it, fun q => by rcases q.1 with q | q <;> simp at q⟩

theorem ItAt.keep {src : Src} {I : Addr} {i : Nat} {as as' : List Addr} {h h' : Heap} (it : ItAt src I i as h) (K : Keep as h as' h') (hI : ∀ o, h.get? I = some o → h'.get? I = some o) : ItAt src I i as' h' := by
  cases src with
  | live l =>
    obtain ⟨a, e1, o, e2, e3⟩ := it
    exact ⟨a, K.pre _ _ e1, o, hI _ e2, e3⟩
  | tup vs =>
    obtain ⟨a, items, n, e1, e2, o, e3, e4⟩ := it
    exact ⟨a, items, n, K.imm _ _ e1 imm_tuple, RepVs.keep K _ _ e2, o, hI _ e3, e4⟩
  | rng lo hi => exact hI _ it

/-- only an object outside the store is changed -/
theorem Rel.other {g : Cfg} {as : List Addr} {σ : Sto} {h h' : Heap} {I : Addr} (R : Rel g as σ h) (k : ∀ (b : Addr) (o : Obj), b ≠ I → h.get? b = some o → h'.get? b = some o) (hI : I ∉ as) (hb : g.b.get? I = none) (hi : ∀ o, h.get? I = some o → ¬ Imm o) :
    Keep as h as h' ∧ Rel g as σ h' := by
  have K : Keep as h as h' := ⟨fun _ _ e => e, fun b o e im => k b o (fun q => by subst q; exact hi o e im) e⟩
  exact ⟨K, ⟨fun b o e => k b o (fun q => by subst q; rw [hb] at e; cases e) (R.base b o e), R.len, R.nd, R.new, fun i b o h1 h2 => (R.obj i b o h1 h2).keep K fun ob e => k b ob (fun q => hI (q ▸ List.mem_of_getElem? h1)) e⟩⟩

section
variable {g : Cfg} {env : Env} {A : Around} {X : Value → Shared → Prop} {s : Shared} {as : List Addr} {fr : Fra} {σ σ' : Sto}

end
end Mine

set_option autoImplicit false
set_option maxRecDepth 100000
set_option linter.unusedVariables false
namespace Mine
open PySem PyProof.Rows PySem.W

theorem locW_get {c : CE} {x : Str} {i : Nat} (e : c.locW? x = some i) : ∃ k, c.names[i]? = some (x, k) ∧ (k = .local ∨ k = .cell) := by
  unfold CE.locW? at e
  split at e
  · rename_i h; obtain ⟨j, h1, h2⟩ := lookup_get h; rw [h1] at e; cases e; exact ⟨_, h2, .inl rfl⟩
  · rename_i h; obtain ⟨j, h1, h2⟩ := lookup_get h; rw [h1] at e; cases e; exact ⟨_, h2, .inr rfl⟩
  · cases e

theorem nodup_idx {l : List (Str × NameKind)} (nd : (l.map (·.1)).Nodup) {i j : Nat} {x : Str} {k k' : NameKind} (e : l[i]? = some (x, k)) (e' : l[j]? = some (x, k')) : i = j := by
  obtain ⟨h1, h2⟩ := List.getElem?_eq_some_iff.mp e
  obtain ⟨h3, h4⟩ := List.getElem?_eq_some_iff.mp e'
  have e1 : (l.map (·.1))[i]'(by simpa using h1) = x := by simp [h2]
  have e2 : (l.map (·.1))[j]'(by simpa using h3) = x := by simp [h4]
  exact (List.getElem_inj nd).mp (e1.trans e2.symm)

section
variable {g : Cfg} {env : Env} {A : Around} {X : Value → Shared → Prop} {s : Shared} {as : List Addr} {fr : Fra} {σ σ' : Sto} {c : CE} {own : List Addr}

noncomputable def Owns (c : CE) (env : Env) (own : List Addr) : Prop := env.locals ∈ own ∧ (∀ (i : Nat) (x : Str), c.names[i]? = some (x, .cell) → ∀ a, env.cells.lookup x = some a → a ∈ own) ∧ ∀ a ∈ own, a ∈ ownOf env
theorem owns_all (c : CE) (env : Env) : Owns c env (ownOf env) := ⟨.head _, fun _ _ _ _ e => mem_own e, fun _ h => h⟩
noncomputable def FPost (g : Cfg) (env : Env) (own : List Addr) (as : List Addr) (σ : Sto) (s : Shared) (fr : Fra) (Q : Unit → Shared → Prop) : Prop :=
  ∀ (as' : List Addr) (h' : Heap) (tk : Nat), Step own as s.heap as' h' → Keep as s.heap as' h' → Rel g as' σ h' → FrRel g env as' fr h' → Q () { s with heap := h', toks := tk }

theorem o_store {x : Str} {i : Nat} {v : V} {val : Value} {Q : Unit → Shared → Prop} (T : At g env as fr σ s) (N : NamesOk c env) (O : Owns c env own) (hl : c.locW? x = some i) (r : RepV as s.heap v val)
    (hQ : FPost g env own as σ s (fr.set i (some v)) Q) : wpAny (model g.prog g.w) A (storeName env x val) Q X s := by
  obtain ⟨k, h1, h2⟩ := locW_get hl
  obtain ⟨k', h3, h4⟩ := N.get h1
  have hk : k' = k := by
    rcases h4 with h4 | h4
    · exact h4.symm
    · rcases h2 with q | q <;> rw [q] at h4 <;> cases h4.1
  subst hk
  have hx : env.kindOf x = some k' := nodup_lookup T.F.nd h3
  have hi : i < fr.length := by rw [T.F.len]; exact (List.getElem?_eq_some_iff.mp h3).1
  rcases h2 with rfl | rfl
  · obtain ⟨m, hm, hv⟩ := T.F.ns
    refine wpAny_storeName_local hx hm (fun h' hns hs => ?_) (hp := by rw [T.F.kind]; rfl)
    have k : ∀ (b : Addr) (o : Obj), b ≠ env.locals → s.heap.get? b = some o → h'.get? b = some o := fun b o hb e => by rw [hs.2 b hb]; exact e
    have x0 : Step [env.locals] as s.heap as h' := ⟨⟨[], by simp, by simp⟩, fun b o e hb _ => k b o (by simpa using hb) e⟩
    have K := T.R.keep x0 T.F.notImm
    have hLb : g.b.get? env.locals = none := by
      cases e : g.b.get? env.locals with
      | none => rfl
      | some o => exact absurd (Heap.lt_size e) (Nat.not_lt.mpr T.F.above)
    obtain ⟨_, R'⟩ := T.R.other k T.F.off hLb (fun o e => T.F.notImm _ (.head _) o e)
    refine hQ as h' _ (x0.grow (by intro a ha; simp at ha; subst ha; exact O.1)) K R' ?_
    refine ⟨T.F.kind, T.F.above, T.F.glob, T.F.blt, by rw [List.length_set]; exact T.F.len, T.F.nd, ⟨_, hns, fun j y w e1 e2 => ?_⟩, fun j y kk e1 e2 => ?_, T.F.off, fun y c' hc' => ⟨(T.F.offc _ _ hc').1, (T.F.offc _ _ hc').2.1, ?_⟩, T.F.apart, T.F.newc⟩
    · by_cases hy : y = x
      · subst hy
        have := nodup_idx T.F.nd h3 e1; subst this
        rw [List.getElem?_set_self hi] at e2
        simp only [Option.some.injEq] at e2; subst e2
        exact ⟨val, by simp, RepV.keep K _ _ r⟩
      · have hij : i ≠ j := fun q => by subst q; rw [h3] at e1; cases e1; exact hy rfl
        rw [List.getElem?_set_ne hij] at e2
        obtain ⟨val', q1, q2⟩ := hv j y w e1 e2
        exact ⟨val', by simp [hy, q1], RepV.keep K _ _ q2⟩
    · obtain ⟨cc, cv, q1, ⟨o, q2, q2'⟩, q3⟩ := T.F.cells j y kk e1 e2
      have hij : i ≠ j := fun q => by subst q; rw [h3] at e1; cases e1; rcases e2 with e2 | e2 <;> cases e2
      refine ⟨cc, cv, q1, ⟨o, k _ _ (T.F.offc _ _ q1).2.1 q2, q2'⟩, fun w e => ?_⟩
      rw [List.getElem?_set_ne hij] at e
      obtain ⟨val', q4, q5⟩ := q3 w e
      exact ⟨val', q4, RepV.keep K _ _ q5⟩
    · obtain ⟨cv, o, e, e'⟩ := (T.F.offc _ _ hc').2.2
      exact ⟨cv, o, k _ _ (T.F.offc _ _ hc').2.1 e, e'⟩
  · obtain ⟨cc, cv, q1, q2, q3⟩ := T.F.cells i x _ h3 (.inl rfl)
    refine wpAny_storeName_cell T.F.kind hx q1 q2 fun h' hc' hs => ?_
    have k : ∀ (b : Addr) (o : Obj), b ≠ cc → s.heap.get? b = some o → h'.get? b = some o := fun b o hb e => by rw [hs.2 b hb]; exact e
    have hni : ∀ o, s.heap.get? cc = some o → ¬ Imm o := fun o e hi => by
      obtain ⟨o', e', hd⟩ := q2
      rw [e] at e'; cases e'
      exact hi.2.2 _ hd
    have hoff := T.F.offc _ _ q1
    have hcb : g.b.get? cc = none := T.F.newc _ _ q1
    obtain ⟨K, R'⟩ := T.R.other k hoff.1 hcb hni
    have hmem : cc ∈ own := O.2.1 _ _ h1 _ q1
    refine hQ as h' s.toks ⟨⟨[], by simp, by simp⟩, fun b o e hb _ => k b o (fun q => hb (q ▸ hmem)) e⟩ K R' ?_
    obtain ⟨m, hm, hv⟩ := T.F.ns
    refine ⟨T.F.kind, T.F.above, T.F.glob, T.F.blt, by rw [List.length_set]; exact T.F.len, T.F.nd, ⟨m, hm.at' fun o e => k _ o (Ne.symm hoff.2.1) e, fun j y w e1 e2 => ?_⟩, fun j y kk e1 e2 => ?_, T.F.off, fun y c' hc' => ⟨(T.F.offc _ _ hc').1, (T.F.offc _ _ hc').2.1, ?_⟩, T.F.apart, T.F.newc⟩
    · have hij : i ≠ j := fun q => by subst q; rw [h3] at e1; cases e1
      rw [List.getElem?_set_ne hij] at e2
      obtain ⟨val', p1, p2⟩ := hv j y w e1 e2
      exact ⟨val', p1, RepV.keep K _ _ p2⟩
    · by_cases hy : y = x
      · subst hy
        have := nodup_idx T.F.nd h3 e1; subst this
        refine ⟨cc, some val, q1, hc', fun w e => ?_⟩
        rw [List.getElem?_set_self hi] at e
        simp only [Option.some.injEq] at e; subst e
        exact ⟨val, rfl, RepV.keep K _ _ r⟩
      · have hij : i ≠ j := fun q => by subst q; rw [h3] at e1; cases e1; exact hy rfl
        obtain ⟨c2, cv2, p1, ⟨o, p2, p2'⟩, p3⟩ := T.F.cells j y kk e1 e2
        have hcc : c2 ≠ cc := fun q => by subst q; exact hy (T.F.apart _ _ _ p1 q1)
        refine ⟨c2, cv2, p1, ⟨o, k _ _ hcc p2, p2'⟩, fun w e => ?_⟩
        rw [List.getElem?_set_ne hij] at e
        obtain ⟨val', p4, p5⟩ := p3 w e
        exact ⟨val', p4, RepV.keep K _ _ p5⟩
    · obtain ⟨cv2, o, e, e'⟩ := (T.F.offc _ _ hc').2.2
      by_cases hcc : c' = cc
      · subst hcc; exact ⟨_, hc'⟩
      · exact ⟨cv2, o, k _ _ hcc e, e'⟩
theorem FPost.of {fr' : Fra} {σ1 : Sto} {as' : List Addr} {h' : Heap} {tk : Nat} {Q : Unit → Shared → Prop} (O : ∀ a ∈ own, a ∈ ownOf env) (hQ : FPost g env own as σ' s fr' Q) (x : Step own as s.heap as' h') (K : Keep as s.heap as' h') :
    FPost g env own as' σ' { s with heap := h', toks := tk } fr' Q := fun as2 h2 tk2 x2 K2 R2 F2' =>
  hQ as2 h2 tk2 (x.trans x2 R2.nd fun a ha => F2'.offs a (O a ha)) ⟨fun i a e => K2.pre _ _ (K.pre _ _ e), fun a o e hi => K2.imm _ _ (K.imm _ _ e hi) hi⟩ R2 F2'

end

section
variable {prog : Program} {w : World} {A : Around} {R : Result → Shared → Prop} {s : Shared}
end
end Mine

set_option autoImplicit false
set_option maxRecDepth 100000
set_option linter.unusedVariables false
namespace Mine
open PySem PyProof.Rows PySem.W

noncomputable def srcLe (i : Nat) : Src → Prop
  | .live _ => True
  | .tup vs => i ≤ vs.length
  | .rng lo hi => i ≤ (hi - lo).toNat

theorem srcLe.tup {i : Nat} {src : Src} (h : srcLe i src) : ∀ vs, src = .tup vs → i ≤ vs.length := fun vs e => by subst e; exact h
theorem srcLe.rng {i : Nat} {src : Src} (h : srcLe i src) : ∀ lo hi, src = .rng lo hi → i ≤ (hi - lo).toNat := fun lo hi e => by subst e; exact h

/-- the run of a comprehension -/
inductive CRun (src : Src) (tg : List Nat) (one : Bool) (cond elt : Fra → Sto → RE) : Nat → Nat → Fra → Sto → List V → List V → Sto → Prop
  | done {i fr σ acc} : srcAt σ i src = some none → srcLe i src → CRun src tg one cond elt 0 i fr σ acc acc σ
  | step {k i fr σ acc v fr' acc' σ1 ys σ'} : srcAt σ i src = some (some v) → compF tg one cond elt v fr σ acc = .inl (some (fr', acc', σ1)) → CRun src tg one cond elt k (i + 1) fr' σ1 acc' ys σ' →
    CRun src tg one cond elt (k + 1) i fr σ acc ys σ'

section
variable {tg : List Nat} {one : Bool} {cond elt : Fra → Sto → RE}

theorem compF_inv {v : V} {fr fr' : Fra} {σ σ1 : Sto} {acc acc' : List V} (e : compF tg one cond elt v fr σ acc = .inl (some (fr', acc', σ1))) :
    bindT tg one v fr = some fr' ∧ ((∃ τ y, cond fr' σ = .ok (.bool true) τ ∧ elt fr' τ = .ok y σ1 ∧ acc' = acc ++ [y]) ∨ (cond fr' σ = .ok (.bool false) σ1 ∧ acc' = acc)) := by
  unfold compF at e
  split at e
  · cases e
  · rename_i f hb
    split at e
    · rename_i τ hc
      split at e
      · rename_i y τ' he
        cases e
        exact ⟨hb, .inl ⟨τ, y, hc, he, rfl⟩⟩
      · cases e
      · cases e
    · rename_i τ hc
      cases e
      exact ⟨hb, .inr ⟨hc, rfl⟩⟩
    · cases e
    · cases e

theorem CRun.len {src : Src} {k i : Nat} {fr : Fra} {σ σ' : Sto} {acc ys : List V} (h : CRun src tg one cond elt k i fr σ acc ys σ') : acc.length ≤ ys.length := by
  induction h with
  | done => exact Nat.le_refl _
  | step _ e _ ih =>
    obtain ⟨_, h | h⟩ := compF_inv e
    · obtain ⟨_, _, _, _, rfl⟩ := h; simp at ih; omega
    · obtain ⟨_, rfl⟩ := h; exact ih

end

structure CX (g : Cfg) (env cenv : Env) (s : Shared) (I D : Addr) : Prop where
  IL : I ≠ env.locals
  DL : D ≠ env.locals
  CL : cenv.locals ≠ env.locals
  IC : I ≠ cenv.locals
  DC : D ≠ cenv.locals
  ID : I ≠ D
  ce : ∀ x c, env.cells.lookup x = some c → c ≠ I ∧ c ≠ D ∧ c ≠ cenv.locals
  cc : ∀ x c, cenv.cells.lookup x = some c → c ≠ I ∧ c ≠ D
  Ib : g.b.get? I = none
  Db : g.b.get? D = none
  Cb : g.b.get? cenv.locals = none
  In : s.heap.get? I = none
  Dn : s.heap.get? D = none
  Cn : s.heap.get? cenv.locals = none

structure CI (g : Cfg) (env cenv : Env) (fr frc : Fra) (s : Shared) (as : List Addr) (src : Src) (I D : Addr) (i : Nat) (acc : List V) (as1 : List Addr) (σ : Sto) (h : Heap) : Prop where
  st : Step [env.locals] as s.heap as1 h
  R : Rel g as1 σ h
  F : FrRel g env as1 fr h
  Fc : FrRel g cenv as1 frc h
  it : ItAt src I i as1 h
  acc : ∃ items, h.PlainList D items ∧ RepVs as1 h acc items.toList
  offI : I ∉ as1
  offD : D ∉ as1

section
variable {g : Cfg} {K : Frag} {c0 : CE} {fa : Nat → Option Addr} {call : Nat → List V → Sto → RE} {env cenv : Env} {A : Around} {X : Value → Shared → Prop} {s : Shared} {as : List Addr} {fr frc : Fra} {σ σ' : Sto} {r n : Nat}
  {names : List (Str × NameKind)} {src : Src} {I D : Addr} {i : Nat} {acc : List V} {as1 : List Addr} {h : Heap}

theorem plain_notImm {items : Array Value} (p : h.PlainList D items) : ∀ o, h.get? D = some o → ¬ Imm o := fun o e hi => by
  obtain ⟨n, e'⟩ := p; rw [e] at e'; cases e'; rcases hi.1 with q | q <;> simp at q

theorem CI.step {frc' : Fra} {as2 : List Addr} {σ2 : Sto} {h2 : Heap} (Z : CX g env cenv s I D) (C : CI g env cenv fr frc s as src I D i acc as1 σ h) (x : Step [cenv.locals] as1 h as2 h2) (R2 : Rel g as2 σ2 h2) (Fc2 : FrRel g cenv as2 frc' h2) :
    CI g env cenv fr frc' s as src I D i acc as2 σ2 h2 := by
  have K2 : Keep as1 h as2 h2 := C.R.keep x C.Fc.notImm
  have F2 : FrRel g env as2 fr h2 := C.F.keep K2 x (by
    intro a ha q; simp at q; subst q
    rcases own_cases ha with q | ⟨y, q⟩
    · exact Z.CL q
    · exact (Z.ce _ _ q).2.2 rfl)
  obtain ⟨items, p1, p2⟩ := C.acc
  have there : ∀ b o, h.get? b = some o → b ∉ as1 → b ∉ as2 := fun b o e hb q => by
    obtain ⟨⟨t, rfl, ht⟩, _⟩ := x
    rcases List.mem_append.mp q with q | q
    · exact hb q
    · rw [ht b q] at e; cases e
  refine ⟨?_, R2, F2, Fc2, C.it.keep K2 fun o e => x.ext I o e (by simpa using Z.IC) C.offI, ⟨items, p1.at fun o e => x.ext D o e (by simpa using Z.DC) C.offD, RepVs.keep K2 _ _ p2⟩, ?_, ?_⟩
  · have a1 : Step [env.locals, cenv.locals] as s.heap as1 h := C.st.grow (by intro a ha; simp at ha; subst ha; simp)
    have a2 : Step [env.locals, cenv.locals] as1 h as2 h2 := x.grow (by intro a ha; simp at ha; subst ha; simp)
    exact (a1.trans a2 R2.nd (by intro a ha; simp at ha; rcases ha with rfl | rfl; exact F2.off; exact Fc2.off)).shrink (by
      intro a ha; simp at ha; rcases ha with rfl | rfl
      · exact .inl (by simp)
      · exact .inr Z.Cn)
  · obtain ⟨o, e, _⟩ := C.it.there; exact there _ _ e C.offI
  · obtain ⟨m, e⟩ := p1; exact there _ _ e C.offD

theorem CI.other {h2 : Heap} {d : Addr} {j : Nat} {acc' : List V} (Z : CX g env cenv s I D) (C : CI g env cenv fr frc s as src I D i acc as1 σ h) (hd : d = I ∨ d = D) (k : ∀ (b : Addr) (o : Obj), b ≠ d → h.get? b = some o → h2.get? b = some o)
    (hit : ItAt src I j as1 h2) (hacc : Keep as1 h as1 h2 → ∃ items, h2.PlainList D items ∧ RepVs as1 h2 acc' items.toList) : CI g env cenv fr frc s as src I D j acc' as1 σ h2 := by
  obtain ⟨items, p1, p2⟩ := C.acc
  have hoff : d ∉ as1 := by rcases hd with rfl | rfl; exact C.offI; exact C.offD
  have hb : g.b.get? d = none := by rcases hd with rfl | rfl; exact Z.Ib; exact Z.Db
  have hni : ∀ o, h.get? d = some o → ¬ Imm o := by
    rcases hd with rfl | rfl
    · intro o e; obtain ⟨o', e', q⟩ := C.it.there; rw [e] at e'; cases e'; exact q
    · exact plain_notImm p1
  obtain ⟨K2, R2⟩ := C.R.other k hoff hb hni
  have hL : env.locals ≠ d := by rcases hd with rfl | rfl; exact Ne.symm Z.IL; exact Ne.symm Z.DL
  have hC : cenv.locals ≠ d := by rcases hd with rfl | rfl; exact Ne.symm Z.IC; exact Ne.symm Z.DC
  have hn : s.heap.get? d = none := by rcases hd with rfl | rfl; exact Z.In; exact Z.Dn
  refine ⟨?_, R2, C.F.alter K2 k hL (fun y c q => ?_) (fun a ha => .inl ha), C.Fc.alter K2 k hC (fun y c q => ?_) (fun a ha => .inl ha), hit, hacc K2, C.offI, C.offD⟩
  · have a2 : Step [env.locals, d] as1 h as1 h2 := ⟨⟨[], by simp, by simp⟩, fun b o e hb _ => k b o (by intro q; subst q; simp at hb) e⟩
    have a1 : Step [env.locals, d] as s.heap as1 h := C.st.grow (by intro a ha; simp at ha; subst ha; simp)
    exact (a1.trans a2 R2.nd (by intro a ha; simp at ha; rcases ha with rfl | rfl; exact C.F.off; exact hoff)).shrink (by
      intro a ha; simp at ha; rcases ha with rfl | rfl
      · exact .inl (by simp)
      · exact .inr hn)
  · rcases hd with rfl | rfl
    · exact (Z.ce _ _ q).1
    · exact (Z.ce _ _ q).2.1
  · rcases hd with rfl | rfl
    · exact (Z.cc _ _ q).1
    · exact (Z.cc _ _ q).2

end
end Mine

set_option autoImplicit false
set_option maxRecDepth 100000
set_option linter.unusedVariables false
namespace Mine
open PySem PyProof.Rows PySem.W

theorem mapO_get {α β : Type} {f : α → Option β} : ∀ {l : List α} {l' : List β}, mapO f l = some l' → l.length = l'.length ∧ ∀ (i : Nat) (a : α), l[i]? = some a → ∃ b, l'[i]? = some b ∧ f a = some b
  | [], l', h => by rw [mapO] at h; cases h; exact ⟨rfl, fun i a e => by simp at e⟩
  | x :: r, l', h => by
    obtain ⟨y, ys, h1, h2, rfl⟩ := mapO_cons h
    obtain ⟨q1, q2⟩ := mapO_get h2
    refine ⟨by simp [q1], fun i a e => ?_⟩
    cases i with
    | zero => simp at e; subst e; exact ⟨y, rfl, h1⟩
    | succ i => simp at e; simpa using q2 i a e

section
variable {g : Cfg} {c : CE} {env : Env} {s : Shared} {as : List Addr} {fr : Fra} {σ : Sto} {frm : List (Option Nat)} {sc : Scope}

theorem scOk_iff (h : scOk sc = true) : sc.kind = .function ∧ (sc.names.map (·.1)).Nodup := by
  unfold scOk at h
  simp only [Bool.and_eq_true, decide_eq_true_eq] at h
  refine ⟨?_, h.2⟩
  have := h.1
  split at this
  · assumption
  · cases this

end
end Mine

set_option autoImplicit false
set_option maxRecDepth 100000
set_option linter.unusedVariables false
namespace Mine
open PySem PyProof.Rows PySem.W

section
variable {g : Cfg} {K : Frag} {c0 : CE} {fa : Nat → Option Addr} {call : Nat → List V → Sto → RE} {env : Env} {A : Around} {X : Value → Shared → Prop} {s : Shared} {as : List Addr} {fr : Fra} {σ σ' : Sto} {r n : Nat}
  {names : List (Str × NameKind)} {Q : Value → Shared → Prop}

end
end Mine

set_option autoImplicit false
set_option maxRecDepth 100000
set_option linter.unusedVariables false
namespace Mine
open PySem PyProof.Rows PySem.W

theorem ck2_inv {c : CE} {f : Str} {a : Expr} {t : Str} {k : CK} (h : ck2 c f a t = k) : (k = .isi a t ∧ f = "isinstance" ∧ c.glob "isinstance" = true ∧ c.glob t = true ∧ (t == ("__debug__" : Str)) = false) ∨ k = .plain := by
  unfold ck2 at h
  cases q : (f == ("isinstance" : Str) && (c.glob f && (c.glob t && !(t == ("__debug__" : Str))))) with
  | true =>
    rw [q] at h
    obtain ⟨q1, q2⟩ := and_inv q; obtain ⟨q2, q3⟩ := and_inv q2; obtain ⟨q3, q4⟩ := and_inv q3
    have e1 := eq_of_beq q1
    rw [e1] at q2
    exact .inl ⟨h.symm, e1, q2, q3, not_inv q4⟩
  | false => rw [q] at h; exact .inr h.symm
noncomputable def CkOk (c : CE) (f : Str) (args : List Expr) : CK → Prop
  | .setLen a => ∃ fp p, args = [.Call (.Name "set" fp) [a] [] p] ∧ f = "len" ∧ c.glob "len" = true ∧ c.glob "set" = true
  | .revl a => ∃ fp p, args = [.Call (.Name "reversed" fp) [a] [] p] ∧ f = "list" ∧ c.glob "list" = true ∧ c.glob "reversed" = true
  | .isi a t => ∃ tp, args = [a, .Name t tp] ∧ f = "isinstance" ∧ c.glob "isinstance" = true ∧ c.glob t = true ∧ (t == ("__debug__" : Str)) = false
  | .plain => True
theorem ck_ok (c : CE) (f : Str) (args : List Expr) : CkOk c f args (callKind c f args) := by
  rcases args with _ | ⟨a, _ | ⟨b, _ | ⟨d, args⟩⟩⟩
  · exact True.intro
  · exact True.intro
  · show CkOk c f [a, b] (match name? b with | some x => ck2 c f a x | none => .plain)
    cases q : name? b with
    | none => exact True.intro
    | some x =>
      obtain ⟨p, rfl⟩ := name?_inv q
      show CkOk c f _ (ck2 c f a x)
      rcases ck2_inv (c := c) (f := f) (a := a) (t := x) rfl with ⟨h, h1, h2, h3, h4⟩ | h <;> rw [h]
      · exact ⟨p, rfl, h1, h2, h3, h4⟩
      · exact True.intro
  · exact True.intro

section
variable {g : Cfg} {K : Frag} {c0 : CE} {fa : Nat → Option Addr} {call : Nat → List V → Sto → RE} {r n : Nat} {names : List (Str × NameKind)} {e' : E}

theorem x_const {k : Const} {a : Nat} {p : Pos} (h : cConst k = some e') : NodeE g c0 call r names (.Constant k a p) e' := by
  cases k with
  | none => exact si h n_none
  | bool b => exact si h n_bool
  | int b => exact si h n_int
  | str b => exact si h n_str
  | _ => exact nn h
theorem x_name {x : Str} {p : Pos} (G : Glob g K c0 fa) (h : cName (c0.sub names) x = some e') : NodeE g c0 call r names (.Name x p) e' := by
  obtain ⟨h1, h2⟩ := gd_inv h
  obtain ⟨hd, hc⟩ := and_inv h1
  cases q : (c0.sub names).loc? x with
  | some i => rw [q] at h2; exact si h2 (n_loc q (not_inv hd) (not_inv hc))
  | none =>
    rw [q] at h2
    obtain ⟨hg, h3⟩ := gd_inv h2
    obtain ⟨i, hi, rfl⟩ := map_inv h3
    exact n_const G hg (not_inv hd) hi
theorem x_bin {l rt : Expr} {op : Operator} {p : Pos} (IH : SndE g c0 call r n) (h : cBin (compE n (c0.sub names)) l op rt = some e') : NodeE g c0 call r names (.BinOp l op rt p) e' := by
  unfold cBin at h
  cases q : opOk op with
  | true =>
    rw [q] at h
    obtain ⟨a, b, h1, h2, rfl⟩ := opt2_inv h
    exact n_bin IH h1 h2
  | false =>
    rw [q] at h
    obtain ⟨h0, h⟩ := gd_inv h
    obtain ⟨a, h1, h⟩ := bind_inv h
    obtain ⟨b, h2, h⟩ := bind_inv h
    obtain ⟨h3, h9⟩ := gd_inv h
    obtain ⟨k1, p1, rfl⟩ := constI?_inv h1
    obtain ⟨k2, p2, rfl⟩ := constI?_inv h2
    cases op <;> first | exact ft h0 | skip
    exact si h9 (n_pow (of_decide_eq_true h3))
theorem x_un {op : UnaryOp} {x : Expr} {p : Pos} (IH : SndE g c0 call r n) (h : cUn (compE n (c0.sub names)) op x = some e') : NodeE g c0 call r names (.UnaryOp op x p) e' := by
  cases op with
  | Not => obtain ⟨a, h1, rfl⟩ := map_inv h; exact n_not IH h1
  | USub => obtain ⟨a, h1, rfl⟩ := map_inv h; exact n_neg IH h1
  | _ => exact nn h
/-- the two kinds of a comparison -/
theorem cmp_inv {f : Expr → Option E} {l : Expr} {ops : List CmpOp} {rs : List Expr} {P : List CmpOp → List Expr → E → Prop} (h : cCmp f l ops rs = some e')
    (H1 : ∀ op m a b, noMark op m = true → f l = some a → f m = some b → P [op] [m] (.cmp op a b)) (H2 : ∀ o1 o2 m rt a b d, noMark o2 rt = true → f l = some a → f m = some b → f rt = some d → P [o1, o2] [m, rt] (.cmp2 o1 o2 a b d)) : P ops rs e' := by
  rcases ops with _ | ⟨o1, _ | ⟨o2, _ | ⟨o3, os⟩⟩⟩
  · exact nn h
  · rcases rs with _ | ⟨m, _ | ⟨rt, rs⟩⟩
    · exact nn h
    · obtain ⟨h0, h⟩ := gd_inv h
      obtain ⟨a, b, h1, h2, rfl⟩ := opt2_inv h
      exact H1 _ _ _ _ h0 h1 h2
    · exact nn h
  · rcases rs with _ | ⟨m, _ | ⟨rt, _ | ⟨r3, rs⟩⟩⟩
    · exact nn h
    · exact nn h
    · obtain ⟨h0, h⟩ := gd_inv h
      obtain ⟨a, b, d, h1, h2, h3, rfl⟩ := opt3_inv h
      exact H2 _ _ _ _ _ _ _ h0 h1 h2 h3
    · exact nn h
  · exact nn h
theorem x_cmp {l : Expr} {ops : List CmpOp} {rs : List Expr} {p : Pos} (G : Glob g K c0 fa) (IH : SndE g c0 call r n) (h : cCmp (compE n (c0.sub names)) l ops rs = some e') : NodeE g c0 call r names (.Compare l ops rs p) e' :=
  cmp_inv (P := fun ops rs e' => NodeE g c0 call r names (.Compare l ops rs p) e') h (fun _ _ _ _ h0 h1 h2 => n_cmp G IH h0 h1 h2) fun _ _ _ _ _ _ _ h0 h1 h2 h3 => n_cmp2 G IH h0 h1 h2 h3
theorem x_sub {v i : Expr} {p : Pos} (IH : SndE g c0 call r n) (h : cSub (compE n (c0.sub names)) v i = some e') : NodeE g c0 call r names (.Subscript v i p) e' := by
  have plain : opt2 E.sub (compE n (c0.sub names) v) (compE n (c0.sub names) i) = some e' → NodeE g c0 call r names (.Subscript v i p) e' := fun h => by
    obtain ⟨x, y, h1, h2, rfl⟩ := opt2_inv h; exact n_sub IH h1 h2
  unfold cSub at h
  cases q : vw i <;> rw [q] at h <;> first | exact plain h | skip
  exact nn h
theorem x_callN {x : Str} {args : List Expr} {fp p : Pos} (G : Glob g K c0 fa) (C : CallOk g fa call r) (IH : SndE g c0 call r n) (h : cCallN (c0.sub names) (compE n (c0.sub names)) x args = some e') : NodeE g c0 call r names (.Call (.Name x fp) args [] p) e' := by
  have hk := ck_ok (c0.sub names) x args
  unfold cCallN at h
  cases q : callKind (c0.sub names) x args with
  | setLen a =>
    rw [q] at h hk
    exact nn h
  | revl a =>
    rw [q] at h hk
    exact nn h
  | isi a t =>
    rw [q] at h hk
    obtain ⟨y, ty, h1, h2, rfl⟩ := opt2_inv h
    obtain ⟨tp, rfl, rfl, g1, g2, g3⟩ := hk
    exact n_isi G IH g1 g2 h2 g3 h1
  | plain =>
    rw [q] at h
    obtain ⟨h0, h⟩ := gd_inv h
    obtain ⟨_, h0⟩ := and_inv h0
    obtain ⟨hg, hd⟩ := and_inv h0
    have hd := not_inv hd
    obtain ⟨es', h1, h2⟩ := bind_inv h
    unfold plainCall' at h2
    cases q1 : bltName.lookup x with
    | some b => rw [q1] at h2; exact si h2 (n_blt G IH hg hd q1 h1)
    | none =>
      rw [q1] at h2
      cases q2 : (c0.sub names).fns.lookup x with
      | some k => rw [q2] at h2; exact si h2 (n_call G C IH hg hd q2 h1)
      | none =>
        rw [q2] at h2
        exact nn h2
theorem x_call {fn : Expr} {args : List Expr} {ks : List Keyword} {p : Pos} (G : Glob g K c0 fa) (C : CallOk g fa call r) (IH : SndE g c0 call r n) (h : cCall (c0.sub names) (compE n (c0.sub names)) fn args ks p = some e') : NodeE g c0 call r names (.Call fn args ks p) e' := by
  unfold cCall at h
  cases q : name? fn with
  | some x =>
    rw [q] at h
    obtain ⟨fp, rfl⟩ := name?_inv q
    rcases ks with _ | ⟨k, _ | ⟨k2, ks⟩⟩
    · exact x_callN G C IH h
    · exact nn h
    · exact nn h
  | none =>
    rw [q] at h
    exact nn h

theorem snd_step (G : Glob g K c0 fa) (I : AttInj g) (C : CallOk g fa call r) (IH : SndE g c0 call r n) (IT : SndT g c0 call r n) (e : Expr) (e' : E) (h : compE (n + 1) (c0.sub names) e = some e') : NodeE g c0 call r names e e' := by
  cases e with
  | Constant k a p => exact x_const h
  | Name x p => exact x_name G h
  | BoolOp op vs p => obtain ⟨es, h1, h2⟩ := bind_inv h; exact n_boolop IH h1 h2
  | BinOp l op rt p => exact x_bin IH h
  | UnaryOp op x p => exact x_un IH h
  | Compare l ops rs p => exact x_cmp G IH h
  | Subscript v i p => exact x_sub IH h
  | List es p => obtain ⟨h0, h⟩ := gd_inv h; obtain ⟨a, h1, rfl⟩ := map_inv h; exact n_list IH h1
  | Tuple es k p => obtain ⟨h0, h⟩ := gd_inv h; obtain ⟨a, h1, rfl⟩ := map_inv h; exact n_tup IH h1
  | Call fn args ks p => exact x_call G C IH h
  | _ => exact nn h
end
end Mine

set_option autoImplicit false
set_option maxRecDepth 100000
set_option linter.unusedVariables false
namespace Mine
open PySem PyProof.Rows PySem.W

section
variable {g : Cfg} {K : Frag} {c0 : CE} {fa : Nat → Option Addr} {call : Nat → List V → Sto → RE} {r n : Nat} {names : List (Str × NameKind)}

theorem t_plain {e : Expr} {e' : E} (hE : NodeE g c0 call r names e e') (hi : ∀ (env : Env) (whole : Sem Value), isTrue e env whole = (do let v ← whole; standAt e.pos; holding [v] (truthy v))) : NodeT g c0 call r names e e' :=
  fun env A X s as fr σ σ' v Q N hA T ev hQ => by
    refine wpAny_isTrue_value (hE env A X s as fr σ σ' (.bool v) _ N hA T ev fun val as' h' tk st R' F' r' => ?_) (hi _ _)
    rw [RepV] at r'; subst r'
    exact wpAny_truthy_bool (hQ as' h' tk st R' F')
theorem x_cmpT {l : Expr} {ops : List CmpOp} {rs : List Expr} {p : Pos} {e' : E} (G : Glob g K c0 fa) (IH : SndE g c0 call r n) (h : cCmp (compE n (c0.sub names)) l ops rs = some e') : NodeT g c0 call r names (.Compare l ops rs p) e' :=
  cmp_inv (P := fun ops rs e' => NodeT g c0 call r names (.Compare l ops rs p) e') h (fun _ _ _ _ h0 h1 h2 => t_cmp G IH h0 h1 h2) fun _ _ _ _ _ _ _ h0 h1 h2 h3 => t_cmp2 G IH h0 h1 h2 h3
theorem t_step (G : Glob g K c0 fa) (I : AttInj g) (C : CallOk g fa call r) (IH : SndE g c0 call r n) (IT : SndT g c0 call r n) (e : Expr) (e' : E) (h : compE (n + 1) (c0.sub names) e = some e') : NodeT g c0 call r names e e' := by
  have hE := snd_step G I C IH IT e e' h
  have hk := comp_kind h
  cases e with
  | UnaryOp op x p =>
    cases op with
    | Not => obtain ⟨a, h1, rfl⟩ := map_inv h; exact t_not IT h1
    | _ => exact t_plain hE fun _ _ => rfl
  | BoolOp op vs p => obtain ⟨es, h1, h2⟩ := bind_inv h; exact t_boolop IT h1 h2
  | Compare l ops rs p => exact x_cmpT G IH h
  | _ => first | exact t_plain hE (fun _ _ => rfl) | exact ft hk
theorem snd_all (G : Glob g K c0 fa) (I : AttInj g) (C : CallOk g fa call r) : ∀ n, SndE g c0 call r n ∧ SndT g c0 call r n
  | 0 => ⟨fun names e e' h => nn h, fun names e e' h => nn h⟩
  | n + 1 => ⟨fun names e e' h => snd_step G I C (snd_all G I C n).1 (snd_all G I C n).2 e e' h, fun names e e' h => t_step G I C (snd_all G I C n).1 (snd_all G I C n).2 e e' h⟩
end
end Mine

set_option autoImplicit false
set_option maxRecDepth 100000
set_option linter.unusedVariables false
namespace Mine
open PySem PyProof.Rows PySem.W

noncomputable def FlRep (as : List Addr) (h : Heap) : Fl → Flow → Prop
  | .next, f => f = .next
  | .brk, f => f = .brk
  | .cont, f => f = .cont
  | .ret v, f => ∃ val, f = .ret val ∧ RepV as h v val

noncomputable def SPost (g : Cfg) (env : Env) (as : List Addr) (s : Shared) (fl : Fl) (fr' : Fra) (σ' : Sto) (Q : Flow → Shared → Prop) : Prop :=
  ∀ (f : Flow) (as' : List Addr) (h' : Heap) (tk : Nat), FlRep as' h' fl f → Step (ownOf env) as s.heap as' h' → Rel g as' σ' h' → FrRel g env as' fr' h' → Q f { s with heap := h', toks := tk }

noncomputable def SndS (g : Cfg) (c0 : CE) (call : Nat → List V → Sto → RE) (wf r n : Nat) : Prop :=
  ∀ (names : List (Str × NameKind)) (st : Stmt) (st' : S), compS n (c0.sub names) st = some st' →
  ∀ (env : Env) (A : Around) (X : Value → Shared → Prop) (s : Shared) (as : List Addr) (fr fr' : Fra) (σ σ' : Sto) (fl : Fl) (Q : Flow → Shared → Prop),
    NamesOk (c0.sub names) env → Room A (r + 1) → At g env as fr σ s → evS call wf st' fr σ = .ok fl fr' σ' → SPost g env as s fl fr' σ' Q → wpAny (model g.prog g.w) A (exec st env) Q X s

/-- the run of a for loop -/
inductive FRun (src : Src) (tg : List Nat) (one : Bool) (body : Fra → Sto → RS) : Nat → Nat → Fra → Sto → Fl → Fra → Sto → Prop
  | done {i fr σ} : srcAt σ i src = some none → srcLe i src → FRun src tg one body 0 i fr σ .next fr σ
  | step {k i fr σ v fr1 fl fr2 σ2 fl' fr' σ'} : srcAt σ i src = some (some v) → bindT tg one v fr = some fr1 → body fr1 σ = .ok fl fr2 σ2 → (fl = .next ∨ fl = .cont) → FRun src tg one body k (i + 1) fr2 σ2 fl' fr' σ' → FRun src tg one body (k + 1) i fr σ fl' fr' σ'
  | brk {i fr σ v fr1 fr2 σ2} : srcAt σ i src = some (some v) → bindT tg one v fr = some fr1 → body fr1 σ = .ok .brk fr2 σ2 → FRun src tg one body 0 i fr σ .next fr2 σ2
  | ret {i fr σ v fr1 fr2 σ2 w} : srcAt σ i src = some (some v) → bindT tg one v fr = some fr1 → body fr1 σ = .ok (.ret w) fr2 σ2 → FRun src tg one body 0 i fr σ (.ret w) fr2 σ2

theorem bindS_ok {r : RE} {fr : Fra} {k : V → Sto → RS} {fl : Fl} {fr' : Fra} {σ' : Sto} (e : r.bindS fr k = .ok fl fr' σ') : ∃ u τ, r = .ok u τ ∧ k u τ = .ok fl fr' σ' := by
  cases r with
  | ok u τ => exact ⟨u, τ, rfl, e⟩
  | ex x τ => cases e
  | bad => cases e

section
variable {g : Cfg} {K : Frag} {c0 : CE} {fa : Nat → Option Addr} {call : Nat → List V → Sto → RE} {env : Env} {A : Around} {X : Value → Shared → Prop} {s : Shared} {as : List Addr} {fr fr' : Fra} {σ σ' : Sto} {wf r n : Nat}
  {names : List (Str × NameKind)} {fl : Fl} {Q : Flow → Shared → Prop}

theorem own_notImm {h : Heap} (F : FrRel g env as fr h) : ∀ a ∈ ownOf env, ∀ o, h.get? a = some o → ¬ Imm o := fun a ha o e hi => by
  rcases own_cases ha with rfl | ⟨x, hx⟩
  · exact F.notImm _ (.head _) o e hi
  · obtain ⟨cv, o', e', hd⟩ := (F.offc _ _ hx).2.2
    rw [e] at e'; cases e'; exact hi.2.2 _ hd

theorem spost_of {as' : List Addr} {h' : Heap} {tk : Nat} (hQ : SPost g env as s fl fr' σ' Q) (x : Step (ownOf env) as s.heap as' h') : SPost g env as' { s with heap := h', toks := tk } fl fr' σ' Q :=
  fun f as2 h2 tk2 hf st R2 F2 => hQ f as2 h2 tk2 hf (x.trans st R2.nd F2.offs) R2 F2
theorem up {as' : List Addr} {h h' : Heap} (x : Step [env.locals] as h as' h') : Step (ownOf env) as h as' h' := x.grow (by intro a ha; simp at ha; subst ha; exact .head _)

noncomputable def SndL (g : Cfg) (c0 : CE) (call : Nat → List V → Sto → RE) (wf r n : Nat) : Prop :=
  ∀ (names : List (Str × NameKind)) (sts : List Stmt) (sts' : List S), mapO (compS n (c0.sub names)) sts = some sts' →
  ∀ (env : Env) (A : Around) (X : Value → Shared → Prop) (s : Shared) (as : List Addr) (fr fr' : Fra) (σ σ' : Sto) (fl : Fl) (Q : Flow → Shared → Prop),
    NamesOk (c0.sub names) env → Room A (r + 1) → At g env as fr σ s → evSs call wf sts' fr σ = .ok fl fr' σ' → SPost g env as s fl fr' σ' Q → wpAny (model g.prog g.w) A (execs sts env) Q X s

theorem snd_list (IS : SndS g c0 call wf r n) : SndL g c0 call wf r n := by
  intro names sts
  induction sts with
  | nil =>
    intro sts' h env A X s as fr fr' σ σ' fl Q N hA T ev hQ
    rw [mapO] at h; cases h
    rw [evSs] at ev; cases ev
    exact wpAny_execs_nil (hQ .next as s.heap s.toks rfl (Step.refl _ _ _) T.R T.F)
  | cons st sts ih =>
    intro sts' h env A X s as fr fr' σ σ' fl Q N hA T ev hQ
    obtain ⟨a, as', h1, h2, rfl⟩ := mapO_cons h
    rw [evSs] at ev
    dsimp only at ev
    refine wpAny_execs_cons ?_
    split at ev
    · rename_i f1 σ1 he
      refine IS names st a h1 env A X s as fr f1 σ σ1 .next _ N hA T he fun f as1 k1 tk1 hf st1 R1 F1 => ?_
      have hf' : f = .next := hf
      subst hf'
      exact ih as' h2 env A X _ as1 f1 fr' σ1 σ' fl Q N hA ⟨F1, R1⟩ ev (spost_of hQ st1)
    · rename_i hn
      refine IS names st a h1 env A X s as fr fr' σ σ' fl _ N hA T ev fun f as1 k1 tk1 hf st1 R1 F1 => ?_
      have hq := hQ f as1 k1 tk1 hf st1 R1 F1
      cases fl with
      | next => exact absurd ev (hn _ _)
      | brk => have : f = .brk := hf; subst this; exact hq
      | cont => have : f = .cont := hf; subst this; exact hq
      | ret v => obtain ⟨val, hv, _⟩ := hf; subst hv; exact hq

structure FI (g : Cfg) (env : Env) (fr : Fra) (s : Shared) (as : List Addr) (src : Src) (I : Addr) (i : Nat) (as1 : List Addr) (σ : Sto) (h : Heap) : Prop where
  st : Step (ownOf env) as s.heap as1 h
  R : Rel g as1 σ h
  F : FrRel g env as1 fr h
  it : ItAt src I i as1 h
  offI : I ∉ as1

structure FX (g : Cfg) (env : Env) (s : Shared) (I : Addr) : Prop where
  own : I ∉ ownOf env
  Ib : g.b.get? I = none
  In : s.heap.get? I = none

theorem FI.step {src : Src} {I : Addr} {i : Nat} {as1 as2 : List Addr} {h h2 : Heap} {σ2 : Sto} {fr2 : Fra} (Z : FX g env s I) (C : FI g env fr s as src I i as1 σ h) (x : Step (ownOf env) as1 h as2 h2) (R2 : Rel g as2 σ2 h2) (F2 : FrRel g env as2 fr2 h2) :
    FI g env fr2 s as src I i as2 σ2 h2 := by
  have K2 := C.R.keep x (own_notImm C.F)
  refine ⟨C.st.trans x R2.nd F2.offs, R2, F2, C.it.keep K2 fun o e => x.ext I o e Z.own C.offI, fun q => ?_⟩
  obtain ⟨⟨t, rfl, ht⟩, _⟩ := x
  rcases List.mem_append.mp q with q | q
  · exact C.offI q
  · obtain ⟨o, e, _⟩ := C.it.there; rw [ht I q] at e; cases e

theorem FI.next {src : Src} {I : Addr} {i j : Nat} {as1 : List Addr} {h h2 : Heap} (Z : FX g env s I) (C : FI g env fr s as src I i as1 σ h) (k : ∀ (b : Addr) (o : Obj), b ≠ I → h.get? b = some o → h2.get? b = some o) :
    Step (ownOf env) as s.heap as1 h2 ∧ Rel g as1 σ h2 ∧ FrRel g env as1 fr h2 := by
  have hni : ∀ o, h.get? I = some o → ¬ Imm o := fun o e => by obtain ⟨o', e', q⟩ := C.it.there; rw [e] at e'; cases e'; exact q
  obtain ⟨K2, R2⟩ := C.R.other k C.offI Z.Ib hni
  have hL : env.locals ≠ I := fun q => Z.own (by rw [← q]; exact .head _)
  have hc : ∀ x c, env.cells.lookup x = some c → c ≠ I := fun x c e q => Z.own (by rw [← q]; exact mem_own e)
  have F2 := C.F.alter K2 k hL hc (fun a ha => .inl ha)
  refine ⟨?_, R2, F2⟩
  have a2 : Step (I :: ownOf env) as1 h as1 h2 := ⟨⟨[], by simp, by simp⟩, fun b o e hb _ => k b o (by intro q; subst q; simp at hb) e⟩
  have a1 : Step (I :: ownOf env) as s.heap as1 h := C.st.grow (fun a ha => .tail _ ha)
  exact (a1.trans a2 R2.nd (by intro a ha; rcases List.mem_cons.mp ha with rfl | ha; exact C.offI; exact F2.offs a ha)).shrink (by
    intro a ha; rcases List.mem_cons.mp ha with rfl | ha
    · exact .inr Z.In
    · exact .inl ha)

end
end Mine

set_option autoImplicit false
set_option maxRecDepth 100000
set_option linter.unusedVariables false
namespace Mine
open PySem PyProof.Rows PySem.W

section
variable {g : Cfg} {K : Frag} {c0 : CE} {fa : Nat → Option Addr} {call : Nat → List V → Sto → RE} {env : Env} {A : Around} {X : Value → Shared → Prop} {s : Shared} {as : List Addr} {fr fr' : Fra} {σ σ' : Sto} {wf r n : Nat}
  {names : List (Str × NameKind)} {fl : Fl} {Q : Flow → Shared → Prop}

noncomputable def NodeS (g : Cfg) (c0 : CE) (call : Nat → List V → Sto → RE) (wf r : Nat) (names : List (Str × NameKind)) (st : Stmt) (st' : S) : Prop :=
  ∀ (env : Env) (A : Around) (X : Value → Shared → Prop) (s : Shared) (as : List Addr) (fr fr' : Fra) (σ σ' : Sto) (fl : Fl) (Q : Flow → Shared → Prop),
    NamesOk (c0.sub names) env → Room A (r + 1) → At g env as fr σ s → evS call wf st' fr σ = .ok fl fr' σ' → SPost g env as s fl fr' σ' Q → wpAny (model g.prog g.w) A (exec st env) Q X s

theorem inter_false (F : FrRel g env as fr s.heap) : interactive env = false := by
  unfold interactive; rw [F.kind]; rfl
theorem swap_none {e : Expr} {line : Nat} (h : ∀ a b c d, e ≠ .ListComp a b c d) {e' : E} {c : CE} (hc : compE n c e = some e') : swapsWith e none line env = pure false := by
  have hk := comp_kind hc
  cases e <;> first | rfl | exact absurd rfl (h _ _ _ _) | exact ft hk
theorem swap_some {e : Expr} {line : Nat} {t : Expr} (h : ∀ a b c d, e ≠ .ListComp a b c d) {e' : E} {c : CE} (hc : compE n c e = some e') : swapsWith e (some t) line env = pure false := by
  have hk := comp_kind hc
  cases e <;> first | rfl | exact absurd rfl (h _ _ _ _) | exact ft hk
theorem s_expr {e : Expr} {e' : E} {p : Pos} (IH : SndE g c0 call r n) (hn : ∀ a b c d, e ≠ .ListComp a b c d) (h : compE n (c0.sub names) e = some e') : NodeS g c0 call wf r names (.Expr e p) (.expr e') := fun env A X s as fr fr' σ σ' fl Q N hA T ev hQ => by
  rw [evS] at ev
  obtain ⟨u, τ, e1, e2⟩ := bindS_ok ev
  cases e2
  exact wpAny_Expr_any (IH names e e' h env A X s as fr σ _ u _ N hA T e1 fun val as' h' tk st R' F' r' => hQ .next as' h' tk rfl (up st) R' F') (inter_false T.F) (swap_none hn h)
theorem s_ret {e : Expr} {e' : E} {p : Pos} (IH : SndE g c0 call r n) (h : compE n (c0.sub names) e = some e') : NodeS g c0 call wf r names (.Return (some e) p) (.ret e') := fun env A X s as fr fr' σ σ' fl Q N hA T ev hQ => by
  rw [evS] at ev
  obtain ⟨u, τ, e1, e2⟩ := bindS_ok ev
  cases e2
  exact wpAny_Return_some (IH names e e' h env A X s as fr σ _ u _ N hA T e1 fun val as' h' tk st R' F' r' => hQ (.ret val) as' h' tk ⟨val, rfl, r'⟩ (up st) R' F')
theorem s_pass {p : Pos} : NodeS g c0 call wf r names (.Pass p) .pass := fun env A X s as fr fr' σ σ' fl Q N hA T ev hQ => by
  rw [evS] at ev; cases ev
  exact wpAny_Pass (hQ .next as s.heap s.toks rfl (Step.refl _ _ _) T.R T.F)

theorem fpost_of {as' : List Addr} {h' : Heap} {tk : Nat} (hQ : SPost g env as s .next fr' σ' Q) (st : Step (ownOf env) as s.heap as' h') : FPost g env (ownOf env) as' σ' { s with heap := h', toks := tk } fr' (fun _ => Q .next) :=
  fun as2 h2 tk2 st2 K2 R2 F2 => hQ .next as2 h2 tk2 rfl (st.trans st2 R2.nd F2.offs) R2 F2

theorem s_asg {x : Str} {i : Nat} {e : Expr} {e' : E} {p xp : Pos} (IH : SndE g c0 call r (n + 1)) (IH' : SndE g c0 call r n) (IT' : SndT g c0 call r n) (hx : (c0.sub names).locW? x = some i) (h : compE (n + 1) (c0.sub names) e = some e') : NodeS g c0 call wf r names (.Assign [.Name x xp] e p) (.asg i e') :=
  fun env A X s as fr fr' σ σ' fl Q N hA T ev hQ => by
  rw [evS] at ev
  obtain ⟨u, τ, e1, e2⟩ := bindS_ok ev
  split at e2
  case isFalse => cases e2
  rename_i hi
  cases e2
  have plain : swapsWith e (some (.Name x xp)) p.line env = pure false → wpAny (model g.prog g.w) A (exec (.Assign [.Name x xp] e p) env) Q X s := fun hs =>
    wpAny_Assign_Name (IH names e e' h env A X s as fr σ _ u _ N hA T e1 fun val as' h' tk st R' F' r' => o_store (own := ownOf env) (s := { s with heap := h', toks := tk }) ⟨F', R'⟩ N (owns_all _ _) hx r' (fpost_of hQ (up st))) hs
  exact plain (swap_some (fun a b c d q => by subst q; exact nn h) h)
theorem s_if {t : Expr} {b o : List Stmt} {t' : E} {b' o' : List S} {p : Pos} (IT : SndT g c0 call r n) {m : Nat} (IL : SndL g c0 call wf r m) (h0 : compE n (c0.sub names) t = some t') (h1 : mapO (compS m (c0.sub names)) b = some b') (h2 : mapO (compS m (c0.sub names)) o = some o') :
    NodeS g c0 call wf r names (.If t b o p) (.ifS t' b' o') := fun env A X s as fr fr' σ σ' fl Q N hA T ev hQ => by
  rw [evS] at ev
  obtain ⟨u, τ, e1, e2⟩ := bindS_ok ev
  split at e2
  · refine wpAny_If (IT names t t' h0 env A X s as fr σ τ true _ N hA T e1 fun as' h' tk st R' F' => ?_)
    rw [if_pos rfl]
    exact IL names b b' h1 env A X _ as' fr fr' τ σ' fl Q N hA ⟨F', R'⟩ e2 (spost_of hQ (up st))
  · refine wpAny_If (IT names t t' h0 env A X s as fr σ τ false _ N hA T e1 fun as' h' tk st R' F' => ?_)
    rw [if_neg Bool.false_ne_true]
    exact IL names o o' h2 env A X _ as' fr fr' τ σ' fl Q N hA ⟨F', R'⟩ e2 (spost_of hQ (up st))
  · cases e2

theorem s_while {t : Expr} {b : List Stmt} {t' : E} {b' : List S} {p : Pos} (IT : SndT g c0 call r n) {m : Nat} (IL : SndL g c0 call wf r m) (h0 : compE n (c0.sub names) t = some t') (h1 : mapO (compS m (c0.sub names)) b = some b') :
    NodeS g c0 call wf r names (.While t b [] p) (.whileS t' b') := fun env A X s as fr fr' σ σ' fl Q N hA T ev hQ => by
  rw [evS] at ev
  refine wpAny_While (codeAny_whileLoop (fun k s1 => ∃ fr1 σ1 as1 h1 tk1, s1 = { s with heap := h1, toks := tk1 } ∧ whileL (evE call t') (evSs call wf b') k fr1 σ1 = .ok fl fr' σ' ∧ Step (ownOf env) as s.heap as1 h1 ∧ Rel g as1 σ1 h1 ∧ FrRel g env as1 fr1 h1) ?_ wf
    ⟨fr, σ, as, s.heap, s.toks, rfl, ev, Step.refl _ _ _, T.R, T.F⟩)
  rintro k _ ⟨fr1, σ1, as1, k1, tk1, rfl, ev, st1, R1, F1⟩
  cases k with
  | zero => rw [whileL] at ev; cases ev
  | succ k =>
    rw [whileL] at ev
    obtain ⟨u, τ, e1, e2⟩ := bindS_ok ev
    split at e2
    · cases e2
      refine IT names t t' h0 env A _ { s with heap := k1, toks := tk1 } as1 _ σ1 _ false _ N hA ⟨F1, R1⟩ e1 fun as' h' tk st R' F' => ?_
      rw [if_neg Bool.false_ne_true]
      exact wpAny_execs_nil (hQ .next as' h' tk rfl (st1.trans (up st) R'.nd F'.offs) R' F')
    · refine IT names t t' h0 env A _ { s with heap := k1, toks := tk1 } as1 fr1 σ1 τ true _ N hA ⟨F1, R1⟩ e1 fun as' h' tk st R' F' => ?_
      rw [if_pos rfl]
      have st2 := st1.trans (up st) R'.nd F'.offs
      split at e2
      · rename_i f2 σ2 hb
        refine IL names b b' h1 env A _ { s with heap := h', toks := tk } as' fr1 f2 τ σ2 .next _ N hA ⟨F', R'⟩ hb fun f as3 h3 tk3 hf st3 R3 F3 => ?_
        have : f = .next := hf; subst this
        exact ⟨k, Nat.lt_succ_self _, f2, σ2, as3, h3, tk3, rfl, e2, st2.trans st3 R3.nd F3.offs, R3, F3⟩
      · rename_i f2 σ2 hb
        refine IL names b b' h1 env A _ { s with heap := h', toks := tk } as' fr1 f2 τ σ2 .cont _ N hA ⟨F', R'⟩ hb fun f as3 h3 tk3 hf st3 R3 F3 => ?_
        have : f = .cont := hf; subst this
        exact ⟨k, Nat.lt_succ_self _, f2, σ2, as3, h3, tk3, rfl, e2, st2.trans st3 R3.nd F3.offs, R3, F3⟩
      · rename_i f2 σ2 hb
        cases e2
        refine IL names b b' h1 env A _ { s with heap := h', toks := tk } as' fr1 _ τ _ .brk _ N hA ⟨F', R'⟩ hb fun f as3 h3 tk3 hf st3 R3 F3 => ?_
        have : f = .brk := hf; subst this
        exact hQ .next as3 h3 tk3 rfl (st2.trans st3 R3.nd F3.offs) R3 F3
      · rename_i q1 q2 q3
        refine IL names b b' h1 env A _ { s with heap := h', toks := tk } as' fr1 fr' τ σ' fl _ N hA ⟨F', R'⟩ e2 fun f as3 h3 tk3 hf st3 R3 F3 => ?_
        cases fl with
        | next => exact absurd e2 (q1 _ _)
        | cont => exact absurd e2 (q2 _ _)
        | brk => exact absurd e2 (q3 _ _)
        | ret w =>
          obtain ⟨val, hv, rv⟩ := hf; subst hv
          exact hQ (.ret val) as3 h3 tk3 ⟨val, rfl, rv⟩ (st2.trans st3 R3.nd F3.offs) R3 F3
    · cases e2

theorem x_asg {t e : Expr} {p : Pos} {st' : S} (G : Glob g K c0 fa) (J : AttInj g) (C : CallOk g fa call r) (h : cAsg (c0.sub names) t e = some st') : NodeS g c0 call wf r names (.Assign [t] e p) st' := by
  have IH := (snd_all G J C 30).1
  unfold cAsg at h
  cases q : vw t <;> rw [q] at h <;> first | exact nn h | skip
  · obtain ⟨i, a, h1, h2, rfl⟩ := opt2_inv h
    obtain ⟨xp, rfl⟩ := vw_of q
    exact s_asg (n := 29) IH (snd_all G J C 29).1 (snd_all G J C 29).2 h1 h2
theorem isEmpty_inv {α : Type} {l : List α} : l.isEmpty = true → l = [] := List.casesOn l (fun _ => rfl) fun _ _ => ft
theorem sndS_step {m : Nat} (G : Glob g K c0 fa) (J : AttInj g) (C : CallOk g fa call r) (IL : SndL g c0 call wf r m) (st : Stmt) (st' : S) (h : compS (m + 1) (c0.sub names) st = some st') : NodeS g c0 call wf r names st st' := by
  have IH := (snd_all G J C 30).1
  have IT := (snd_all G J C 30).2
  cases st with
  | Expr e p => obtain ⟨h0, h⟩ := gd_inv h; obtain ⟨a, h1, rfl⟩ := map_inv h; exact s_expr IH (isLC_inv (not_inv h0)) h1
  | Return v p => obtain ⟨e, rfl, h⟩ := bind_inv h; obtain ⟨a, h1, rfl⟩ := map_inv h; exact s_ret IH h1
  | Assign ts e p =>
    rcases ts with _ | ⟨t, _ | ⟨t2, ts⟩⟩
    · exact nn h
    · exact x_asg G J C h
    · exact nn h
  | If t b o p => obtain ⟨x, y, z, h1, h2, h3, rfl⟩ := opt3_inv h; exact s_if IT IL h1 h2 h3
  | While t b o p => obtain ⟨h0, h⟩ := gd_inv h; obtain ⟨x, y, h1, h2, rfl⟩ := opt2_inv h; cases isEmpty_inv h0; exact s_while IT IL h1 h2
  | Pass p => exact si h s_pass
  | _ => exact nn h

theorem sndS_all (G : Glob g K c0 fa) (J : AttInj g) (C : CallOk g fa call r) : ∀ n, SndS g c0 call wf r n
  | 0 => fun names st st' h => nn h
  | n + 1 => fun names st st' h => sndS_step G J C (snd_list (sndS_all G J C n)) st st' h
end
end Mine

set_option autoImplicit false
set_option maxRecDepth 100000
set_option linter.unusedVariables false
namespace Mine
open PySem PyProof.Rows PySem.W

theorem lookup_zip_some : ∀ {ns : List Str} {xs : List Value} {n : Str}, n ∈ ns → ns.length = xs.length → ((ns.zip xs).lookup n).isNone = false
  | [], _, _, h, _ => by cases h
  | m :: ns, [], _, _, h => by cases h
  | m :: ns, x :: xs, n, h, hl => by
    rw [List.zip_cons_cons, List.lookup_cons]
    split
    · rfl
    · rename_i q
      rcases List.mem_cons.mp h with rfl | h
      · simp at q
      · exact lookup_zip_some h (by simpa using hl)

theorem lookup_app {α : Type} {n : Str} : ∀ {l r : List (Str × α)}, (∀ p ∈ l, p.1 ≠ n) → (l ++ r).lookup n = r.lookup n
  | [], _, _ => rfl
  | p :: l, r, h => by
    rw [List.cons_append]
    obtain ⟨a, b⟩ := p
    rw [List.lookup_cons]
    have : (n == a) = false := by
      cases q : n == a with
      | false => rfl
      | true => exact absurd (eq_of_beq q).symm (h _ (.head _))
    rw [this]
    exact lookup_app fun p hp => h p (.tail _ hp)

theorem zip_back : ∀ (ns pre : List Str) (xs pxs : List Value), (pre ++ ns).Nodup → ns.length = xs.length → pre.length = pxs.length → ns.filterMap (fun n => ((pre.zip pxs ++ ns.zip xs).lookup n).map fun v => (n, v)) = ns.zip xs
  | [], _, xs, _, _, _, _ => rfl
  | n :: ns, pre, [], _, _, hl, _ => by cases hl
  | n :: ns, pre, x :: xs, pxs, nd, hl, hp => by
    have h1 : ((pre.zip pxs ++ (n :: ns).zip (x :: xs)).lookup n) = some x := by
      rw [lookup_app, List.zip_cons_cons, List.lookup_cons]
      · simp
      · intro p hp' q
        have := (List.of_mem_zip hp').1
        rw [q] at this
        exact (List.nodup_append.mp nd).2.2 n this n (.head _) rfl
    rw [List.filterMap_cons, h1]
    simp only [Option.map_some, List.zip_cons_cons]
    have := zip_back ns (pre ++ [n]) xs (pxs ++ [x]) (by simpa using nd) (by simpa using hl) (by simp [hp])
    rw [List.zip_append hp] at this
    simp only [List.append_assoc] at this
    exact congrArg _ this

theorem bind_plain {fd : FuncData} {ns : List Arg} {d : List Expr} (hp : fd.params = ⟨[], ns, none, [], [], none, d⟩) (hd : fd.defaults = .none) (nd : (ns.map (·.arg)).Nodup) {xs : List Value} (hl : ns.length = xs.length) :
    bindArgs fd ⟨xs, []⟩ = pure ((ns.map (·.arg)).zip xs) := by
  have hl' : (ns.map (·.arg)).length = xs.length := by simpa using hl
  have hm : (ns.map (·.arg)).filter (fun n => (((ns.map (·.arg)).zip xs).lookup n).isNone) = [] := by
    rw [List.filter_eq_nil_iff]
    intro a ha
    rw [lookup_zip_some ha hl']; simp
  have hm' : ((ns.map (·.arg)).take (ns.map (·.arg)).length).filter (fun n => (((ns.map (·.arg)).zip xs).lookup n).isNone) = [] := by
    rw [List.take_length]; exact hm
  unfold bindArgs
  rw [hp, hd]
  have hgt : ¬ (xs.length > (ns.map (·.arg)).length) := by omega
  have hs : seqItems? Value.none = pure none := rfl
  have hdec : decide (xs.length > (ns.map (·.arg)).length) = false := decide_eq_false hgt
  simp only [List.map_nil, List.nil_append, List.forIn_nil, List.append_nil, hs, pure_bind, Option.getD_none, hdec, Bool.false_and, Bool.false_eq_true, if_false, List.length_nil, Nat.zero_sub, List.drop_nil, Nat.sub_zero, hm', List.isEmpty_nil, Bool.not_true, List.zip_nil_right]
  have hzz := zip_back (ns.map fun (x : Arg) => x.arg) [] xs [] (by simpa using nd) hl' rfl
  exact congrArg pure hzz

/-- a def of the written part, compiled -/
noncomputable def fnFits (K : Frag) (c : CE) (fd : FuncData) : Bool :=
  fd.globals == mainGlobals && fd.builtins == builtinsNs && fd.closure.isEmpty && codeIn K fd.code fd.qualname && !fd.scope.isCoroutine && !fd.scope.isGenerator && scOk fd.scope && fd.scope.names.all (fun p => !(p.2 == .free)) &&
  fd.params.posonlyargs.isEmpty && fd.params.vararg.isNone && fd.params.kwonlyargs.isEmpty && fd.params.kw_defaults.isEmpty && fd.params.kwarg.isNone && decide ((fd.params.args.map (·.arg)).Nodup) && fd.defaults == .none &&
  (match c.lam with | some a => fd.code == .ref a | none => true)

noncomputable def compFn (K : Frag) (c : CE) (a : Addr) : Option Fn := match K.lookup a with
  | some ⟨_, _, .func fd, _⟩ => if fnFits K c fd then
      (match fd.body with
      | .stmts body => (match mapO (fun x => (c.sub fd.scope.names).locW? x) (fd.params.args.map (·.arg)), mapO (compS 20 (c.sub fd.scope.names)) body with
        | some ps, some b => some ⟨ps, fd.scope.names.length, b⟩
        | _, _ => none)
      | _ => none) else none
  | _ => none

theorem putPs_len : ∀ (ps : List Nat) (vs : List V) (fr : Fra), (putPs ps vs fr).length = fr.length
  | [], _, _ => rfl
  | _ :: _, [], _ => rfl
  | p :: ps, v :: vs, fr => by rw [putPs, putPs_len]; simp

theorem putPs_get : ∀ (ps : List Nat) (vs : List V) (fr : Fra) (i : Nat) (v : V), (putPs ps vs fr)[i]? = some (some v) → fr[i]? = some (some v) ∨ ∃ j : Nat, ps[j]? = some i ∧ vs[j]? = some v
  | [], _, _, _, _, h => .inl h
  | _ :: _, [], _, _, _, h => .inl h
  | p :: ps, v :: vs, fr, i, w, h => by
    rw [putPs] at h
    rcases putPs_get ps vs _ i w h with h | ⟨j, h1, h2⟩
    · by_cases hp : p = i
      · subst hp
        by_cases hl : p < fr.length
        · rw [List.getElem?_set_self hl] at h
          simp only [Option.some.injEq] at h; subst h
          exact .inr ⟨0, rfl, rfl⟩
        · rw [List.getElem?_eq_none (by simp; omega)] at h; cases h
      · rw [List.getElem?_set_ne hp] at h; exact .inl h
    · exact .inr ⟨j + 1, by simpa using h1, by simpa using h2⟩

theorem bindL_get {kindOf : Str → Option NameKind} {x : Str} {v : Value} (hk : kindOf x = some .local) : ∀ (binds : List (Str × Value)) (m : Str → Option Value), (binds.map (·.1)).Nodup → ((x, v) ∈ binds ∨ (m x = some v ∧ x ∉ binds.map (·.1))) → bindL kindOf binds m x = some v
  | [], m, _, h => h.elim (fun q => by cases q) fun q => q.1
  | (n, w) :: r, m, nd, h => by
    rw [bindL]
    rw [List.map_cons, List.nodup_cons] at nd
    refine bindL_get hk r _ nd.2 ?_
    rcases h with h | ⟨h1, h2⟩
    · rcases List.mem_cons.mp h with q | q
      · cases q
        refine .inr ⟨?_, nd.1⟩
        rw [if_pos hk]; simp
      · exact .inl q
    · rw [List.map_cons, List.mem_cons, not_or] at h2
      refine .inr ⟨?_, h2.2⟩
      split
      · simp [h2.1, h1]
      · exact h1
theorem bindC_get {kindOf : Str → Option NameKind} {x : Str} {v : Value} (hk : kindOf x ≠ some .local) : ∀ (binds : List (Str × Value)) (m : Str → Option Value), (binds.map (·.1)).Nodup → ((x, v) ∈ binds ∨ (m x = some v ∧ x ∉ binds.map (·.1))) → bindC kindOf binds m x = some v
  | [], m, _, h => h.elim (fun q => by cases q) fun q => q.1
  | (n, w) :: r, m, nd, h => by
    rw [bindC]
    rw [List.map_cons, List.nodup_cons] at nd
    refine bindC_get hk r _ nd.2 ?_
    rcases h with h | ⟨h1, h2⟩
    · rcases List.mem_cons.mp h with q | q
      · cases q
        refine .inr ⟨?_, nd.1⟩
        rw [if_neg hk]; simp
      · exact .inl q
    · rw [List.map_cons, List.mem_cons, not_or] at h2
      refine .inr ⟨?_, h2.2⟩
      split
      · exact h1
      · simp [h2.1, h1]

section
variable {g : Cfg} {K : Frag} {fa : Nat → Option Addr} {P : Nat → Option Fn} {wf : Nat}

theorem call_step (c : Nat → CE) (G : ∀ k, Glob g K (c k) fa) (J : AttInj g) (hlim : g.b.NoLimit) (hP : ∀ k a, fa k = some a → P k = compFn K (c k) a) {n : Nat} (C : CallOk g fa (evFn P wf n) (2 * n)) : CallOk g fa (evFn P wf (n + 1)) (2 * (n + 1)) := by
  intro k a vs σ σ' v hfa ev A s as xs R hA R0 hsz r0 hR
  rw [evFn] at ev
  have hPk := hP k a hfa
  split at ev
  · cases ev
  rename_i fn hfn
  split at ev
  case isFalse => cases ev
  rename_i hlen
  rw [hfn] at hPk
  unfold compFn at hPk
  split at hPk
  case h_2 => cases hPk
  rename_i oc od fd osl hK
  split at hPk
  case isFalse => cases hPk
  rename_i hfit
  split at hPk
  case h_2 => cases hPk
  rename_i body hbody
  split at hPk
  case h_2 => cases hPk
  rename_i ps b' hps hb'
  cases hPk
  simp only [fnFits, Bool.and_eq_true, beq_iff_eq, List.isEmpty_iff, Bool.not_eq_true', List.all_eq_true, decide_eq_true_eq, Option.isNone_iff_eq_none] at hfit
  obtain ⟨⟨⟨⟨⟨⟨⟨⟨⟨⟨⟨⟨⟨⟨⟨f1, f2⟩, f3⟩, f4⟩, f5⟩, f6⟩, f7⟩, f8⟩, f9⟩, f10⟩, f11⟩, f12⟩, f13⟩, f14⟩, f15⟩, f16⟩ := hfit
  obtain ⟨hkind, hnd⟩ := scOk_iff f7
  have hpar : fd.params = ⟨[], fd.params.args, none, [], [], none, fd.params.defaults⟩ := by
    rcases hq : fd.params with ⟨p1, p2, p3, p4, p5, p6, p7⟩
    rw [hq] at f9 f10 f11 f12 f13
    simp only at f9 f10 f11 f12 f13
    rw [f9, f10, f11, f12, f13]
  have hps' := mapO_get hps
  have hpl : fd.params.args.length = xs.length := by
    have h1 := (RepVs.f2.mp r0).length
    have h2 := hps'.1
    rw [List.length_map] at h2
    have h3 : vs.length = ps.length := hlen
    omega
  have hbind := bind_plain hpar f15 f14 hpl
  have keep0 := R0.base
  have ho : s.heap.get? a = some ⟨oc, od, .func fd, osl⟩ := R0.base _ _ ((G k).kin _ _ hK)
  have hnb : ((fd.params.args.map (·.arg)).zip xs).map (·.1) = fd.params.args.map (·.arg) := by
    rw [List.map_fst_zip]; rw [List.length_map]; omega
  have hpk : ∀ x ∈ fd.params.args.map (·.arg), fd.scope.names.lookup x = some .local ∨ fd.scope.names.lookup x = some .cell := fun x hx => by
    obtain ⟨i, hi, rfl⟩ := List.getElem_of_mem hx
    obtain ⟨j, h1, h2⟩ := hps'.2 i _ (List.getElem?_eq_getElem hi)
    obtain ⟨kk, h3, h4⟩ := locW_get h2
    have h5 : fd.scope.names.lookup ((fd.params.args.map (·.arg))[i]) = some kk := nodup_lookup hnd h3
    rcases h4 with rfl | rfl
    · exact .inl h5
    · exact .inr h5
  have hcellsome : ∀ x, fd.scope.names.lookup x = some .cell → ∃ cc, (cellsFrom (s.heap.objs.size + 1) fd.scope.names []).lookup x = some cc := fun x hx => Option.isSome_iff_exists.mp (cellsFrom_some _ _ _ (.inl hx))
  have hdepth : A.depth < recursionLimit := by have := hA.depth; show _ < 1000; omega
  refine codeAny_call_cells hdepth ho rfl (hlim.keeps keep0) (codeRec_of ((G k).kin.keeps keep0) f4) hbody hbind f3 (fun x hx => ?_) (fun s₁ U => ?_) f5 f6 hkind
  · have hx' : x.1 ∈ fd.params.args.map (·.arg) := (List.of_mem_zip hx).1
    rcases hpk _ hx' with q | q
    · exact .inl q
    · exact .inr ⟨q, cellsFrom_some _ _ _ (.inl q)⟩
  obtain ⟨⟨⟨h₁, tk₁, rfl⟩, uns, ukeep, ufresh⟩, ucell, uapart, uabove⟩ := U
  have hE : ∀ x, (callEnvC fd s.heap.objs.size a).kindOf x = fd.scope.names.lookup x := fun x => rfl
  have K1 : Keep as s.heap as h₁ := ⟨fun _ _ e => e, fun b o e _ => ukeep b o e⟩
  have R1 : Rel g as σ h₁ := R0.ext ukeep
  have lkm : ∀ x cc, (callEnvC fd s.heap.objs.size a).cells.lookup x = some cc → s.heap.objs.size < cc := fun x cc e => uabove x cc (lookup_mem' e)
  have fresh : ∀ b : Addr, s.heap.objs.size ≤ b → s.heap.get? b = none := fun b hb => by
    cases e : s.heap.get? b with
    | none => rfl
    | some o => exact absurd (Heap.lt_size e) (Nat.not_lt.mpr hb)
  have notas : ∀ b : Addr, s.heap.objs.size ≤ b → b ∉ as := fun b hb q => by
    obtain ⟨o, e, _⟩ := R0.there q; rw [fresh b hb] at e; cases e
  have notb : ∀ b : Addr, s.heap.objs.size ≤ b → g.b.get? b = none := fun b hb => by
    cases e : g.b.get? b with
    | none => rfl
    | some o => have := R0.base _ _ e; rw [fresh b hb] at this; cases this
  have rvs := RepVs.f2.mp (RepVs.keep K1 _ _ r0)
  have hval : ∀ (i : Nat) (x : Str) (kk : NameKind) (w : V), fd.scope.names[i]? = some (x, kk) → (frame0 ⟨ps, fd.scope.names.length, b'⟩ vs)[i]? = some (some w) → ∃ val, (x, val) ∈ (fd.params.args.map (·.arg)).zip xs ∧ RepV as h₁ w val := fun i x kk w e1 e2 => by
    unfold frame0 at e2
    rcases putPs_get _ _ _ _ _ e2 with h | ⟨j, h1, h2⟩
    · exfalso
      rw [List.getElem?_replicate] at h
      split at h <;> simp at h
    · obtain ⟨val, h3, h4⟩ := rvs.get h2
      have hj : j < (fd.params.args.map (·.arg)).length := by
        have h1' : ps[j]? = some i := h1
        have h9 := (List.getElem?_eq_some_iff.mp h1').1
        have h8 := hps'.1
        omega
      obtain ⟨i', h5, h6⟩ := hps'.2 j _ (List.getElem?_eq_getElem hj)
      have h1' : ps[j]? = some i := h1
      rw [h1'] at h5; cases h5
      obtain ⟨k2, h7, _⟩ := locW_get h6
      have h7' : fd.scope.names[i]? = some ((fd.params.args.map (·.arg))[j], k2) := h7
      rw [e1] at h7'; cases h7'
      refine ⟨val, ?_, h4⟩
      have : ((fd.params.args.map (·.arg)).zip xs)[j]? = some ((fd.params.args.map (·.arg))[j], val) := by
        rw [List.getElem?_zip_eq_some]
        exact ⟨List.getElem?_eq_getElem hj, h3⟩
      exact List.mem_of_getElem? this
  have F1 : FrRel g (callEnvC fd s.heap.objs.size a) as (frame0 ⟨ps, fd.scope.names.length, b'⟩ vs) h₁ := by
    refine ⟨hkind, hsz, f1, f2, ?_, hnd, ⟨_, uns, fun i x w e1 e2 => ?_⟩, fun i x kk e1 e2 => ?_, notas _ (Nat.le_refl _), fun x cc e => ⟨notas _ (Nat.le_of_lt (lkm x cc e)), Nat.ne_of_gt (lkm x cc e), ⟨_, ucell x cc e⟩⟩, fun x y cc e1 e2 => ?_, fun x cc e => notb _ (Nat.le_of_lt (lkm x cc e))⟩
    · show (frame0 _ vs).length = fd.scope.names.length
      unfold frame0; rw [putPs_len]; simp
    · obtain ⟨val, h1, h2⟩ := hval i x _ w e1 e2
      refine ⟨val, bindL_get ?_ _ _ (by rw [hnb]; exact f14) (.inl h1), h2⟩
      rw [hE]; exact nodup_lookup hnd e1
    · have hk2 : kk = .cell := by
        rcases e2 with e2 | e2
        · exact e2
        · have := f8 _ (List.mem_of_getElem? e1)
          rw [e2] at this; cases this
      subst hk2
      have hlk := nodup_lookup hnd e1
      obtain ⟨cc, hcc⟩ := hcellsome x hlk
      refine ⟨cc, _, hcc, ucell x cc hcc, fun w e => ?_⟩
      obtain ⟨val, h1, h2⟩ := hval i x _ w e1 e
      refine ⟨val, bindC_get ?_ _ _ (by rw [hnb]; exact f14) (.inl h1), h2⟩
      rw [hE, hlk]; simp
    · exact name_of_addr uapart (lookup_mem' e1) (lookup_mem' e2)
  have N1 : NamesOk ((c k).sub fd.scope.names) (callEnvC fd s.heap.objs.size a) := by
    refine ⟨?_, fun a' ha' => ?_⟩
    · show F2 _ fd.scope.names fd.scope.names
      generalize fd.scope.names = l
      induction l with
      | nil => exact .nil
      | cons p r ih => exact .cons ⟨rfl, .inl rfl⟩ ih
    · have ha'' : (c k).lam = some a' := ha'
      rw [ha''] at f16
      exact eq_of_beq f16
  have hroom : Room (A.deeper (callEnvC fd s.heap.objs.size a)) (2 * n + 1) := by
    have h1 := hA.units; have h2 := hA.depth
    exact ⟨by rw [units_deeper]; omega, by rw [depth_deeper]; omega, hA.handled⟩
  have S1 : Step [s.heap.objs.size] as s.heap as h₁ := Step.of_ext ukeep
  have fin : ∀ (fl : Fl) (fr' : Fra) (w : V), evSs (evFn P wf n) wf b' (frame0 ⟨ps, fd.scope.names.length, b'⟩ vs) σ = .ok fl fr' σ' → (fl = .ret w ∨ (fl = .next ∧ w = .none)) → w = v →
      wpAny (model g.prog g.w) (A.deeper (callEnvC fd s.heap.objs.size a)) (execs body (callEnvC fd s.heap.objs.size a)) (fun f s' => R (.ok (.ret (match f with | .ret v => v | _ => .none))) s')
        (fun e s' => wpAny (model g.prog g.w) (A.deeper (callEnvC fd s.heap.objs.size a)) (leaving (callEnvC fd s.heap.objs.size a) e) (fun _ s'' => R (.error e) s'') (fun e' s'' => R (.error e') s'') s') { s with heap := h₁, toks := tk₁ } := fun fl fr' w he hfl hw => by
    subst hw
    refine snd_list (sndS_all (G k) J C 20) fd.scope.names body b' hb' _ _ _ { s with heap := h₁, toks := tk₁ } as _ fr' σ σ' fl _ N1 hroom ⟨F1, R1⟩ he fun f as2 h2 tk2 hf st2 R2 F2 => ?_
    have S2 : Step [] as s.heap as2 h2 := by
      have a1 : Step (ownOf (callEnvC fd s.heap.objs.size a)) as s.heap as h₁ := Step.of_ext ukeep
      exact (a1.trans st2 R2.nd F2.offs).shrink (fun b hb => .inr (by
        rcases own_cases hb with q | ⟨x, q⟩
        · rw [q]; exact fresh _ (Nat.le_refl _)
        · exact fresh _ (Nat.le_of_lt (lkm x b q))))
    rcases hfl with rfl | ⟨rfl, rfl⟩
    · obtain ⟨val, hv, rv⟩ := hf; subst hv
      exact hR val as2 h2 tk2 S2 R2 rv
    · have : f = .next := hf; subst this
      exact hR .none as2 h2 tk2 S2 R2 (by rw [RepV])
  split at ev
  · rename_i w fr' σ1 he
    cases ev
    exact fin (.ret v) fr' v he (.inl rfl) rfl
  · rename_i fr' σ1 he
    cases ev
    exact fin .next fr' .none he (.inr ⟨rfl, rfl⟩) rfl
  · cases ev
  · cases ev
  · cases ev

theorem call_all (c : Nat → CE) (G : ∀ k, Glob g K (c k) fa) (J : AttInj g) (hlim : g.b.NoLimit) (hP : ∀ k a, fa k = some a → P k = compFn K (c k) a) : ∀ n, CallOk g fa (evFn P wf n) (2 * n)
  | 0 => fun k a vs σ σ' v hfa ev => by rw [evFn] at ev; cases ev
  | n + 1 => call_step c G J hlim hP (call_all c G J hlim hP n)
end
end Mine

set_option autoImplicit false
set_option maxRecDepth 100000
set_option linter.unusedVariables false
namespace Mine
open PySem PyProof.Rows PySem.W

noncomputable def noneIn (K : Frag) (x : Str) : Bool := nsIn K mainGlobals x == some none

noncomputable def chkG (K : Frag) (c : CE) (C : Addr) (at' : List (Nat × Str)) (fa : Nat → Option Addr) : Bool :=
  c.consts.all (fun p => match nsIn K mainGlobals p.1 with | some (some (.int j _)) => p.2 == j | _ => false) &&
  (c.fns.all (fun p => match fa p.2 with | some a => nsIn K mainGlobals p.1 == some (some (.ref a)) && keepIn K (.ref a) | none => false) &&
  (c.clss.all (fun p => match fa p.2 with | some fI => nsIn K mainGlobals p.1 == some (some (.ref C)) && (keepIn K (.ref C) && (makesIn K C && (findIn K (.ref C) "__init__" == some (some (.ref fI)) && (isFn K (.ref fI) && isIn K (.ref C) C)))) | none => false) &&
  (bltName.all (fun p => noneIn K p.1) && (tyName.all (fun p => noneIn K p.1) && (noneIn K "set" && (noneIn K "reversed" && (noneIn K "sorted" && (noneIn K "isinstance" &&
  (c.attrs.all (fun p => at'.lookup p.2 == some p.1 && (plainGet K C p.1 && ((match findIn K (.ref C) p.1 with | some at' => noGet K at' | none => false) && (takerIn K C p.1 == some none && (hasDictIn K C && (findIn K (.ref C) "__setattr__" == some (some (.builtin "object.__setattr__")) && plainOver K C)))))) &&
  c.mths.all (fun p => match fa p.2 with | some a => plainGet K C p.1 && (findIn K (.ref C) p.1 == some (some (.ref a)) && (isFn K (.ref a) && (keepIn K (.ref a) && at'.all (fun q => !(q.2 == p.1))))) | none => false))))))))))

theorem lookup_none_of_all {at' : List (Nat × Str)} {x : Str} (h : at'.all (fun q => !(q.2 == x)) = true) : ∀ k, at'.lookup k ≠ some x := fun k e => by
  have := List.all_eq_true.mp h _ (lookup_mem' e)
  simp at this

theorem boot_blt : ∀ p ∈ bltName, bootBuiltins p.1 = some (bltVal p.2) ∧ p.1 ≠ "__name__" := by
  intro p hp
  simp only [bltName, List.mem_cons, List.not_mem_nil, or_false] at hp
  rcases hp with rfl | rfl | rfl | rfl | rfl | rfl | rfl | rfl <;> exact ⟨by kernel_rfl, by decide⟩
theorem boot_ty : ∀ p ∈ tyName, (∀ y, tyVal p.2 = some y → bootBuiltins p.1 = some y) ∧ p.1 ≠ "__name__" := by
  intro p hp
  simp only [tyName, List.mem_cons, List.not_mem_nil, or_false] at hp
  rcases hp with rfl | rfl | rfl | rfl <;> exact ⟨fun y h => by cases h; kernel_rfl, by decide⟩

theorem glob_of {g : Cfg} {K : Frag} {c : CE} {fa : Nat → Option Addr} {mg mb : Str → Option Value} (KX : K.In g.b) (Tg : g.b.Ns mainGlobals mg) (Tb : g.b.Ns builtinsNs mb) (hb : ∀ x : Str, x ≠ "__name__" → mb x = bootBuiltins x) (chk : chkG K c g.C g.at' fa = true) : Glob g K c fa := by
  simp only [chkG, Bool.and_eq_true, List.all_eq_true] at chk
  obtain ⟨k1, k2, k3, k4, k5, k6, k7, k8, k9, k10, k11⟩ := chk
  have bl : ∀ (x : Str) (v : Value), noneIn K x = true → bootBuiltins x = some v → x ≠ "__name__" → GV g x v := fun x v h1 h2 h3 =>
    ⟨mg, mb, Tg, Tb, .inr ⟨ns_none_of KX Tg (eq_of_beq h1), by rw [hb x h3, h2]⟩⟩
  have gl : ∀ (x : Str) (v : Value), nsIn K mainGlobals x = some (some v) → GV g x v := fun x v h => ⟨mg, mb, Tg, Tb, .inl (mg_of KX Tg h)⟩
  refine ⟨⟨?_⟩, KX, fun x i h => ?_, fun x k h => ?_, fun x k h => ?_, fun x k h => ?_, fun x b h => ?_, fun x t y h hy => ?_, bl _ _ k6 (by kernel_rfl) (by decide), bl _ _ k7 (by kernel_rfl) (by decide), bl _ _ k8 (by kernel_rfl) (by decide), bl _ _ k9 (by kernel_rfl) (by decide), fun x k h => ?_, fun x k h => ?_, fun x k h => ?_, fun x f h => ?_⟩
  · have := Tg.lt
    exact Nat.lt_trans (by decide) this
  · have := k1 _ (lookup_mem' h)
    split at this
    · rename_i j t hq
      have e := eq_of_beq this
      simp only at e
      subst e
      exact ⟨t, gl _ _ hq⟩
    · cases this
  · have := k2 _ (lookup_mem' h)
    split at this
    · rename_i a ha
      simp only [Bool.and_eq_true] at this
      exact ⟨a, gl _ _ (eq_of_beq this.1), ha, this.2⟩
    · cases this
  · have := k3 _ (lookup_mem' h)
    split at this
    · rename_i a ha
      simp only [Bool.and_eq_true] at this
      obtain ⟨q1, q2, q3, q4, q5, q6⟩ := this
      exact ⟨a, gl _ _ (eq_of_beq q1), ha, q2, q3, eq_of_beq q4, q5⟩
    · cases this
  · have := k3 _ (lookup_mem' h)
    split at this
    · simp only [Bool.and_eq_true] at this
      exact this.2.2.2.2.2
    · cases this
  · have hm := lookup_mem' h
    obtain ⟨q1, q2⟩ := boot_blt _ hm
    exact bl _ _ (k4 _ hm) q1 q2
  · have hm := lookup_mem' h
    obtain ⟨q1, q2⟩ := boot_ty _ hm
    exact bl _ _ (k5 _ hm) (q1 y hy) q2
  · have := k10 _ (lookup_mem' h)
    simp only [Bool.and_eq_true] at this
    obtain ⟨q1, q2, q3, q4, q5, q6, q7⟩ := this
    refine ⟨eq_of_beq q1, q2, ?_⟩
    split at q3
    · rename_i at2 hq
      exact ⟨at2, hq, q3, eq_of_beq q4⟩
    · cases q3
  · have := k10 _ (lookup_mem' h)
    simp only [Bool.and_eq_true] at this
    exact this.2.2.2.2.1
  · have := k10 _ (lookup_mem' h)
    simp only [Bool.and_eq_true] at this
    exact ⟨eq_of_beq this.2.2.2.2.2.1, this.2.2.2.2.2.2⟩
  · have := k11 _ (lookup_mem' h)
    split at this
    · rename_i a ha
      simp only [Bool.and_eq_true] at this
      obtain ⟨q1, q2, q3, q4, q5⟩ := this
      exact ⟨a, ha, q1, eq_of_beq q2, q3, q4, lookup_none_of_all q5⟩
    · cases this

theorem attInj_of {g : Cfg} (h : (g.at'.map (·.2)).Nodup) (h' : (g.at'.map (·.1)).Nodup) : AttInj g := fun k k' x e1 e2 => by
  have m1 := lookup_mem' e1
  have m2 := lookup_mem' e2
  obtain ⟨i, hi, e3⟩ := List.getElem_of_mem m1
  obtain ⟨j, hj, e4⟩ := List.getElem_of_mem m2
  have : i = j := by
    apply (List.getElem_inj h (h₀ := by simpa using hi) (h₁ := by simpa using hj)).mp
    simp [e3, e4]
  subst this
  rw [e3] at e4; cases e4; rfl
end Mine

set_option autoImplicit false
set_option maxRecDepth 100000
set_option linter.unusedVariables false
namespace Mine
open PySem PyProof.Rows PySem.W

noncomputable def Pof (K : Frag) (c : Nat → CE) (fa : Nat → Option Addr) (k : Nat) : Option Fn := (fa k).bind fun a => compFn K (c k) a

theorem ints_rep {as : List Addr} {h : Heap} : ∀ {vs : List Value} {is : List Int}, IntsAre vs is → RepVs as h (is.map V.int) vs := by
  intro vs is hi
  induction hi with
  | nil => rw [List.map_nil, RepVs]
  | cons n t _ ih => rw [List.map_cons, RepVs]; exact ⟨_, _, rfl, by rw [RepV]; exact ⟨t, rfl⟩, ih⟩

theorem join {prog : Program} {w : World} {K : Frag} {c : Nat → CE} {C : Addr} {at' : List (Nat × Str)} {fa : Nat → Option Addr} {mg mb : Str → Option Value} {s₁ : Shared} {scr a : Addr} {vs : List Value} {is : List Int} {wf n lawI : Nat} {σ' : Sto}
    (KX : K.In s₁.heap) (Tg : s₁.heap.Ns mainGlobals mg) (Tb : s₁.heap.Ns builtinsNs mb) (hb : ∀ x : Str, x ≠ "__name__" → mb x = bootBuiltins x) (lim : s₁.heap.NoLimit)
    (hl : s₁.heap.get? scr = some { cls := .type "list", data := .seq vs.toArray }) (hi : IntsAre vs is) (hlen : is.length ≤ 63)
    (hK : K.all (fun p => !(p.2.cls == .type "list")) = true) (chk : ∀ k, chkG K (c k) C at' fa = true) (hat : (at'.map (·.2)).Nodup) (hat' : (at'.map (·.1)).Nodup) (hfa : fa lawI = some a) (hA : Room callerA (2 * n))
    (ev : evFn (Pof K c fa) wf n lawI [.ref 0] [.frz (is.map V.int)] = .ok (.bool true) σ') (h0 : σ'[0]? = some (.frz (is.map V.int)))
    {R : Result → Shared → Prop} (hR : ∀ h' tk, (∀ (b : Addr) (o : Obj), s₁.heap.get? b = some o → h'.get? b = some o) → R (.ok (.ret (.bool true))) { s₁ with heap := h', toks := tk }) :
    codeAny (model prog w) callerA (.call (.ref a) ⟨[.ref scr], []⟩) R s₁ := by
  have lk : ∀ {α β : Type} [BEq α] [LawfulBEq α] {l : List (α × β)} {x : α} {y : β}, l.lookup x = some y → (x, y) ∈ l := fun e => lookup_mem' e
  have hne : ∀ (b : Addr) (o : Obj), s₁.heap.get? b = some o → o.cls ≠ .type "list" → b ∉ [scr] := fun b o e hc q => by
    rw [List.mem_singleton.mp q, hl] at e; cases e; exact hc rfl
  have nsne : ∀ (b : Addr) (m : Str → Option Value), s₁.heap.Ns b m → b ≠ scr := fun b m ⟨o, es, ep, e, d, _⟩ q => by
    rw [q, hl] at e; cases e; cases d
  have hide : ∀ (b : Addr) (o : Obj), b ≠ scr → s₁.heap.get? b = some o → (hideAll s₁.heap [scr]).get? b = some o := fun b o hb e => hideAll_get [scr] e (by simpa using hb)
  let g : Cfg := { prog := prog, w := w, b := hideAll s₁.heap [scr], C := C, at' := at', scr := { cls := .type "list", data := .seq vs.toArray }, tab := 0 }
  have KX' : K.In g.b := fun b o e => by
    have e1 := KX b o e
    refine hide b o (fun q => ?_) e1
    have := List.all_eq_true.mp hK _ (lk e)
    rw [q, hl] at e1; cases e1
    simp at this
  have Tg' : g.b.Ns mainGlobals mg := Tg.at' fun o e => hide _ o (nsne _ _ Tg) e
  have Tb' : g.b.Ns builtinsNs mb := Tb.at' fun o e => hide _ o (nsne _ _ Tb) e
  have lim' : g.b.NoLimit := lim.at fun o e => hide _ o (by obtain ⟨m, hm, _⟩ := lim; exact nsne _ _ hm) e
  have G : ∀ k, Glob g K (c k) fa := fun k => glob_of KX' Tg' Tb' hb (chk k)
  have J : AttInj g := attInj_of hat hat'
  have CA := call_all (P := Pof K c fa) (wf := wf) c G J lim' (fun k a' h => by unfold Pof; rw [h]; rfl) n
  have R0 : Rel g [scr] [.frz (is.map V.int)] s₁.heap := by
    refine ⟨fun b o e => of_hideAll [scr] e, rfl, by simp, fun b hb => ?_, fun i b o e1 e2 => ?_⟩
    · exact hideAll_none [scr] hb
    · cases i with
      | zero =>
        simp at e1 e2; subst e1; subst e2
        exact ⟨vs.toArray, 0, hl, rfl, by simpa using ints_rep hi, by simp; omega⟩
      | succ i => simp at e1
  refine CA lawI a [.ref 0] _ σ' (.bool true) hfa ev callerA s₁ [scr] [.ref scr] R hA R0 (by rw [hideAll_size]; exact Nat.le_refl _) (by rw [RepVs]; exact ⟨_, _, rfl, by rw [RepV]; exact ⟨scr, rfl, rfl⟩, by rw [RepVs]⟩) fun val as' h' tk st R' r' => ?_
  rw [RepV] at r'; subst r'
  refine hR h' tk fun b o e => ?_
  by_cases hbs : b = scr
  · subst hbs
    obtain ⟨items, nn, q1, q2, _⟩ := R'.obj 0 b _ (st.get rfl) h0
    rw [hl] at e; cases e
    exact q1
  · exact R'.base b o (hide b o hbs e)
theorem shape_true : WShape.has [] (WData.bool true) .bool = true := by first | rfl | decide +kernel | simp [WShape.has]
theorem same_true : same (WData.bool true) (WData.bool true) = true := by first | rfl | decide +kernel | simp [same]
theorem law_post (l : OpenLaw) (a b : List WData) : l.row.toRowW.claim.post a (.bool true) b = true := by
  show (WShape.has [] (WData.bool true) .bool && (WTm.eq .res (.lit (.bool true))).holds [] { args := a, res := some (.bool true), after := b }) = true
  rw [shape_true]
  simp only [WTm.holds, WTm.value, same_true]
  rfl

theorem list_obj {P : Params} {h : Heap} {l : Addr} {vs : List Value} {ds : List PyData} (w : Well P h (.ref l) (ofPy (.list ds))) (hL : h.IsList l vs.toArray) : h.get? l = some { cls := .type "list", data := .seq vs.toArray } := by
  unfold ofPy at w
  cases w with
  | list ho _ =>
    obtain ⟨o, ho', hc, n, hd⟩ := hL
    rw [ho] at ho'; cases ho'; cases hd
    exact ho
end Mine

set_option autoImplicit false
set_option linter.unusedVariables false
set_option linter.unusedSimpArgs false
namespace Mine
open PySem

section
variable {P : Nat → Option Fn} {call : Nat → List V → Sto → RE} {wf n : Nat} {fr fr' : Fra} {σ σ1 σ' : Sto} {ss : List S} {a t : E} {v : V} {r : RS}

theorem ss_nil : evSs call wf [] fr σ = .ok .next fr σ := by rw [evSs]
theorem ss_asg {i : Nat} (h : evE call a fr σ = .ok v σ1) (hi : i < fr.length) (hr : evSs call wf ss (fr.set i (some v)) σ1 = r) : evSs call wf (.asg i a :: ss) fr σ = r := by
  rw [evSs]; dsimp only; rw [evS]; dsimp only; rw [h]
  simp only [RE.bindS_ok, if_pos hi]; exact hr
theorem ss_ret (h : evE call a fr σ = .ok v σ1) : evSs call wf (.ret a :: ss) fr σ = .ok (.ret v) fr σ1 := by
  rw [evSs]; dsimp only; rw [evS]; dsimp only; rw [h]; rfl
theorem ss_if_t {b o : List S} (h : evE call t fr σ = .ok (.bool true) σ1) (hr : evSs call wf (b ++ ss) fr σ1 = r) : evSs call wf (.ifS t b o :: ss) fr σ = r := by
  rw [evSs]; dsimp only; rw [evS]; dsimp only; rw [h]
  simp only [RE.bindS_ok]
  rw [← hr]
  clear hr h
  induction b generalizing fr σ1 with
  | nil => rw [evSs]; rfl
  | cons s b ih =>
    rw [List.cons_append, evSs, evSs]
    dsimp only
    cases h : evS call wf s fr σ1 with
    | ok f fr2 σ2 => cases f with
      | next => exact ih
      | _ => rfl
    | ex x fr2 σ2 => rfl
    | bad => rfl
theorem ss_if_f {b o : List S} (h : evE call t fr σ = .ok (.bool false) σ1) (hr : evSs call wf (o ++ ss) fr σ1 = r) : evSs call wf (.ifS t b o :: ss) fr σ = r := by
  rw [evSs]; dsimp only; rw [evS]; dsimp only; rw [h]
  simp only [RE.bindS_ok]
  rw [← hr]
  clear hr h
  induction o generalizing fr σ1 with
  | nil => rw [evSs]; rfl
  | cons s b ih =>
    rw [List.cons_append, evSs, evSs]
    dsimp only
    cases h : evS call wf s fr σ1 with
    | ok f fr2 σ2 => cases f with
      | next => exact ih
      | _ => rfl
    | ex x fr2 σ2 => rfl
    | bad => rfl
/-- a statement that ends by itself -/
theorem ss_next {s : S} (h : evS call wf s fr σ = .ok .next fr' σ1) (hr : evSs call wf ss fr' σ1 = r) : evSs call wf (s :: ss) fr σ = r := by
  rw [evSs]; dsimp only; rw [h]; exact hr
theorem fn_ret {k : Nat} {fn : Fn} {vs : List V} (hP : P k = some fn) (hl : vs.length = fn.ps.length) (h : evSs (evFn P wf n) wf fn.body (frame0 fn vs) σ = .ok (.ret v) fr' σ') : evFn P wf (n + 1) k vs σ = .ok v σ' := by
  rw [evFn, hP]; dsimp only; rw [if_pos hl, h]
end

theorem fmod_nat (x y : Nat) : Int.fmod (x : Int) (y : Int) = ((x % y : Nat) : Int) := by
  rw [Int.fmod_eq_emod_of_nonneg _ (Int.natCast_nonneg y)]; rfl
theorem fdiv_nat (x y : Nat) : Int.fdiv (x : Int) (y : Int) = ((x / y : Nat) : Int) := by
  rw [Int.fdiv_eq_ediv_of_nonneg _ (Int.natCast_nonneg y)]; rfl

theorem binV_add {x y : Int} {σ : Sto} : binV .Add (.int x) (.int y) σ = .ok (.int (x + y)) σ := rfl
theorem binV_sub {x y : Int} {σ : Sto} : binV .Sub (.int x) (.int y) σ = .ok (.int (x - y)) σ := rfl
theorem binV_mul {x y : Int} {σ : Sto} (h : mulOk x y) : binV .Mult (.int x) (.int y) σ = .ok (.int (x * y)) σ := by show (if _ then _ else _) = _; rw [if_pos h]
theorem binV_fdiv {x y : Int} {σ : Sto} (h : y ≠ 0) (h' : y.natAbs < 10 ^ 100) : binV .FloorDiv (.int x) (.int y) σ = .ok (.int (x.fdiv y)) σ := by show (if _ then _ else _) = _; rw [if_pos ⟨h, h'⟩]
theorem binV_mod {x y : Int} {σ : Sto} (h : y ≠ 0) : binV .Mod (.int x) (.int y) σ = .ok (.int (x.fmod y)) σ := by show (if _ then _ else _) = _; rw [if_neg h]
theorem cmpV_lt {x y : Int} {σ : Sto} : cmpV .Lt (.int x) (.int y) σ = some (decide (x < y)) := rfl
theorem cmpV_le {x y : Int} {σ : Sto} : cmpV .LtE (.int x) (.int y) σ = some (decide (x ≤ y)) := rfl
theorem cmpV_gt {x y : Int} {σ : Sto} : cmpV .Gt (.int x) (.int y) σ = some (decide (y < x)) := rfl
theorem cmpV_ge {x y : Int} {σ : Sto} : cmpV .GtE (.int x) (.int y) σ = some (decide (y ≤ x)) := rfl
theorem cmpV_eq {x y : Int} {σ : Sto} : cmpV .Eq (.int x) (.int y) σ = some (x == y) := rfl
theorem cmpV_ne {x y : Int} {σ : Sto} : cmpV .NotEq (.int x) (.int y) σ = some (x != y) := rfl
theorem newL_ok {xs : List V} {σ : Sto} (h : xs.length ≤ 16777216) : newL xs σ = .ok (.ref σ.length) (σ ++ [.lst xs]) := if_pos h
section
variable {test : Fra → Sto → RE} {body : Fra → Sto → RS} {n : Nat} {fr fr2 : Fra} {σ σ1 σ2 : Sto} {r : RS}
theorem wh_t (h1 : test fr σ = .ok (.bool true) σ1) (h2 : body fr σ1 = .ok .next fr2 σ2) (h3 : whileL test body n fr2 σ2 = r) : whileL test body (n + 1) fr σ = r := by
  rw [whileL, h1]; simp only [RE.bindS_ok, h2]; exact h3
theorem wh_f (h1 : test fr σ = .ok (.bool false) σ1) : whileL test body (n + 1) fr σ = .ok .next fr σ1 := by
  rw [whileL, h1]; rfl
end

end Mine

set_option autoImplicit false
set_option linter.unusedVariables false
set_option linter.unusedSimpArgs false
namespace Mine
open PySem

noncomputable def P01 : Nat → Option Fn
  | 0 => some { ps := [0, 1], size := 3, body := [S.whileS (E.cmp CmpOp.NotEq (E.loc 1) (E.int 0)) [S.asg 2 (E.bin Operator.Mod (E.loc 0) (E.loc 1)), S.asg 0 (E.loc 1), S.asg 1 (E.loc 2)], S.ret (E.loc 0)] }
  | 1 => some { ps := [0, 1], size := 4, body := [S.asg 2 (E.call 0 [E.loc 0, E.loc 1]), S.ret (E.tup [E.bin Operator.FloorDiv (E.loc 0) (E.loc 2), E.bin Operator.FloorDiv (E.loc 1) (E.loc 2)])] }
  | 2 => some { ps := [0, 1], size := 3, body := [S.ifS (E.cmp CmpOp.Lt (E.loc 1) (E.blt BN.len [E.loc 0])) [S.ret ((E.loc 0).sub (E.loc 1))] [], S.ret (E.int 0)] }
  | 3 => some { ps := [0], size := 4, body := [S.ret (((E.loc 0).isi Ty.int).and ((E.loc 0).isi Ty.bool).not)] }
  | 4 => some { ps := [0, 1], size := 2, body := [S.ret (E.bin Operator.Mod (E.loc 0) ((E.list [E.int 13, E.int 1000, E.pow 10 40]).sub (E.bin Operator.Mod (E.loc 1) (E.int 3))))] }
  | 5 => some { ps := [0, 1], size := 3, body := [S.whileS (E.cmp CmpOp.Gt (E.loc 1) (E.int 0)) [S.asg 2 (E.bin Operator.Mod (E.loc 0) (E.loc 1)), S.asg 0 (E.loc 1), S.asg 1 (E.loc 2)], S.ret (E.loc 0)] }
  | 6 => some { ps := [0], size := 13, body :=
      [S.asg 1 (E.call 4 [E.call 2 [E.loc 0, E.int 0], E.call 2 [E.loc 0, E.int 3]]),
        S.asg 2 (E.bin Operator.Add (E.int 1) (E.call 4 [E.call 2 [E.loc 0, E.int 1], E.bin Operator.FloorDiv (E.call 2 [E.loc 0, E.int 3]) (E.int 3)])),
        S.ifS (E.cmp CmpOp.Eq (E.bin Operator.Mod (E.bin Operator.FloorDiv (E.call 2 [E.loc 0, E.int 3]) (E.int 9)) (E.int 2)) (E.int 1))
          [S.asg 3 (E.bin Operator.Add (E.int 1) (E.call 4 [E.call 2 [E.loc 0, E.int 2], E.bin Operator.FloorDiv (E.call 2 [E.loc 0, E.int 3]) (E.int 18)])),
            S.asg 1 (E.bin Operator.Mult (E.loc 1) (E.loc 3)), S.asg 2 (E.bin Operator.Mult (E.loc 2) (E.loc 3))] [],
        S.asg 4 (E.call 1 [E.loc 1, E.loc 2]),
        S.ifS (((E.loc 4).isi Ty.tuple).not.or ((E.cmp CmpOp.NotEq (E.blt BN.len [E.loc 4]) (E.int 2)).or ((E.call 3 [(E.loc 4).sub (E.int 0)]).not.or (E.call 3 [(E.loc 4).sub (E.int 1)]).not))) [S.ret (E.bool false)] [],
        S.ifS ((E.cmp CmpOp.Lt ((E.loc 4).sub (E.int 1)) (E.int 1)).or (E.cmp CmpOp.NotEq (E.bin Operator.Mult ((E.loc 4).sub (E.int 0)) (E.loc 2)) (E.bin Operator.Mult (E.loc 1) ((E.loc 4).sub (E.int 1))))) [S.ret (E.bool false)] [],
        S.ret (E.cmp CmpOp.Eq (E.call 5 [(E.loc 4).sub (E.int 0), (E.loc 4).sub (E.int 1)]) (E.int 1))] }
  | _ => none

section
variable {wf n : Nat} {σ : Sto}

theorem gcd_loop {call : Nat → List V → Sto → RE} {op : CmpOp} (hop : op = .NotEq ∨ op = .Gt) : ∀ (y f x : Nat) (z : Option V), y < f →
    ∃ z', whileL (evE call (E.cmp op (E.loc 1) (E.int 0))) (evSs call wf [S.asg 2 (E.bin Operator.Mod (E.loc 0) (E.loc 1)), S.asg 0 (E.loc 1), S.asg 1 (E.loc 2)]) f [some (.int x), some (.int y), z] σ =
      .ok .next [some (.int (Nat.gcd x y)), some (.int 0), z'] σ := by
  intro y
  induction y using Nat.strongRecOn with
  | _ y ih =>
    intro f x z hf
    obtain ⟨f, rfl⟩ : ∃ k, f = k + 1 := ⟨f - 1, by omega⟩
    by_cases hy : y = 0
    · subst hy
      refine ⟨z, ?_⟩
      have : Nat.gcd x 0 = x := Nat.gcd_zero_right x
      rw [this]
      refine wh_f ?_
      rcases hop with rfl | rfl <;> (simp only [evE, evEs, RE.bind_ok, RE.binds_ok, REs.bind_ok, REs.binds_ok, List.getElem?_cons_zero, List.getElem?_cons_succ, binV_add, binV_sub, cmpV_lt, cmpV_le, cmpV_gt, cmpV_ge, cmpV_eq, cmpV_ne, ofOptB, ofOpt, Option.map_some, Option.map_none, bltV, bLen, lenV, isiV, subV, Bool.not_true, Bool.not_false, Nat.reduceAdd]; rfl)
    · have hlt : x % y < y := Nat.mod_lt _ (by omega)
      obtain ⟨z', hz⟩ := ih (x % y) hlt f y (some (.int ((x % y : Nat) : Int))) (by omega)
      have hg : Nat.gcd y (x % y) = Nat.gcd x y := by rw [Nat.gcd_comm y, ← Nat.gcd_rec, Nat.gcd_comm]
      rw [hg] at hz
      refine ⟨z', wh_t (σ1 := σ) ?_ ?_ hz⟩
      · have h1 : ((y : Int) != 0) = true := by simp; omega
        have h2 : decide ((0 : Int) < y) = true := by simp; omega
        rcases hop with rfl | rfl
        · simp only [evE, evEs, RE.bind_ok, RE.binds_ok, REs.bind_ok, REs.binds_ok, List.getElem?_cons_zero, List.getElem?_cons_succ, binV_add, binV_sub, cmpV_lt, cmpV_le, cmpV_gt, cmpV_ge, cmpV_eq, cmpV_ne, ofOptB, ofOpt, Option.map_some, Option.map_none, bltV, bLen, lenV, isiV, subV, Bool.not_true, Bool.not_false, Nat.reduceAdd, h1]
        · simp only [evE, evEs, RE.bind_ok, RE.binds_ok, REs.bind_ok, REs.binds_ok, List.getElem?_cons_zero, List.getElem?_cons_succ, binV_add, binV_sub, cmpV_lt, cmpV_le, cmpV_gt, cmpV_ge, cmpV_eq, cmpV_ne, ofOptB, ofOpt, Option.map_some, Option.map_none, bltV, bLen, lenV, isiV, subV, Bool.not_true, Bool.not_false, Nat.reduceAdd, h2]
      · have hy' : (y : Int) ≠ 0 := by omega
        refine ss_asg (v := .int ((x % y : Nat) : Int)) (σ1 := σ) (by simp only [evE, evEs, RE.bind_ok, RE.binds_ok, REs.bind_ok, REs.binds_ok, List.getElem?_cons_zero, List.getElem?_cons_succ, binV_add, binV_sub, cmpV_lt, cmpV_le, cmpV_gt, cmpV_ge, cmpV_eq, cmpV_ne, ofOptB, ofOpt, Option.map_some, Option.map_none, bltV, bLen, lenV, isiV, subV, Bool.not_true, Bool.not_false, Nat.reduceAdd, binV_mod hy', fmod_nat]) (by simp) ?_
        refine ss_asg (v := .int y) (σ1 := σ) (by simp [evE]) (by simp) ?_
        exact ss_asg (v := .int ((x % y : Nat) : Int)) (σ1 := σ) (by simp [evE]) (by simp) ss_nil
theorem e_common {x y : Nat} (h : y < wf) : evFn P01 wf (n + 1) 0 [.int x, .int y] σ = .ok (.int (Nat.gcd x y)) σ := by
  obtain ⟨z', hz⟩ := gcd_loop (call := evFn P01 wf n) (wf := wf) (σ := σ) (.inl rfl) y wf x none h
  refine fn_ret rfl rfl (ss_next (by rw [evS]; exact hz) (ss_ret ?_))
  simp only [evE, evEs, RE.bind_ok, RE.binds_ok, REs.bind_ok, REs.binds_ok, List.getElem?_cons_zero, List.getElem?_cons_succ, binV_add, binV_sub, cmpV_lt, cmpV_le, cmpV_gt, cmpV_ge, cmpV_eq, cmpV_ne, ofOptB, ofOpt, Option.map_some, Option.map_none, bltV, bLen, lenV, isiV, subV, Bool.not_true, Bool.not_false, Nat.reduceAdd]
theorem e_common2 {x y : Nat} (h : y < wf) : evFn P01 wf (n + 1) 5 [.int x, .int y] σ = .ok (.int (Nat.gcd x y)) σ := by
  obtain ⟨z', hz⟩ := gcd_loop (call := evFn P01 wf n) (wf := wf) (σ := σ) (.inr rfl) y wf x none h
  refine fn_ret rfl rfl (ss_next (by rw [evS]; exact hz) (ss_ret ?_))
  simp only [evE, evEs, RE.bind_ok, RE.binds_ok, REs.bind_ok, REs.binds_ok, List.getElem?_cons_zero, List.getElem?_cons_succ, binV_add, binV_sub, cmpV_lt, cmpV_le, cmpV_gt, cmpV_ge, cmpV_eq, cmpV_ne, ofOptB, ofOpt, Option.map_some, Option.map_none, bltV, bLen, lenV, isiV, subV, Bool.not_true, Bool.not_false, Nat.reduceAdd]
theorem e_lowest {x y : Nat} (h : y < wf) (hy : 0 < y) (hb : y < 10 ^ 100) : evFn P01 wf (n + 2) 1 [.int x, .int y] σ = .ok (.tup [.int ((x / Nat.gcd x y : Nat) : Int), .int ((y / Nat.gcd x y : Nat) : Int)]) σ := by
  have hg : 0 < Nat.gcd x y := Nat.gcd_pos_of_pos_right _ hy
  have hle : Nat.gcd x y ≤ y := Nat.gcd_le_right _ hy
  have hlt : ((Nat.gcd x y : Nat) : Int).natAbs < 10 ^ 100 := by rw [Int.natAbs_natCast]; exact Nat.lt_of_le_of_lt hle hb
  have h1 : ((Nat.gcd x y : Nat) : Int) ≠ 0 := by omega
  refine fn_ret rfl rfl (ss_asg (v := .int (Nat.gcd x y)) (σ1 := σ) ?_ (by simp [frame0, putPs]) (ss_ret ?_))
  · show evE _ _ [some (.int x), some (.int y), none, none] σ = _
    simp only [evE, evEs, RE.bind_ok, RE.binds_ok, REs.bind_ok, REs.binds_ok, List.getElem?_cons_zero, List.getElem?_cons_succ, binV_add, binV_sub, cmpV_lt, cmpV_le, cmpV_gt, cmpV_ge, cmpV_eq, cmpV_ne, ofOptB, ofOpt, Option.map_some, Option.map_none, bltV, bLen, lenV, isiV, subV, Bool.not_true, Bool.not_false, Nat.reduceAdd]
    exact e_common h
  · show evE _ _ [some (.int x), some (.int y), some (.int (Nat.gcd x y)), none] σ = _
    simp only [evE, evEs, RE.bind_ok, RE.binds_ok, REs.bind_ok, REs.binds_ok, List.getElem?_cons_zero, List.getElem?_cons_succ, binV_add, binV_sub, cmpV_lt, cmpV_le, cmpV_gt, cmpV_ge, cmpV_eq, cmpV_ne, ofOptB, ofOpt, Option.map_some, Option.map_none, bltV, bLen, lenV, isiV, subV, Bool.not_true, Bool.not_false, Nat.reduceAdd, binV_fdiv h1 hlt, fdiv_nat]
    rw [if_pos (by simp)]
noncomputable def cellAt (is : List Int) (k : Nat) : Int := is.getD k 0
theorem e_cell {is : List Int} {k : Nat} (h0 : σ[0]? = some (.frz (is.map V.int))) : evFn P01 wf (n + 1) 2 [.ref 0, .int k] σ = .ok (.int (cellAt is k)) σ := by
  by_cases hk : k < is.length
  · refine fn_ret rfl rfl (ss_if_t (σ1 := σ) ?_ (ss_ret ?_))
    · show evE _ _ [some (.ref 0), some (.int k), none] σ = _
      simp only [evE, evEs, RE.bind_ok, RE.binds_ok, REs.bind_ok, REs.binds_ok, List.getElem?_cons_zero, List.getElem?_cons_succ, binV_add, binV_sub, cmpV_lt, cmpV_le, cmpV_gt, cmpV_ge, cmpV_eq, cmpV_ne, ofOptB, ofOpt, Option.map_some, Option.map_none, bltV, bLen, lenV, isiV, subV, Bool.not_true, Bool.not_false, Nat.reduceAdd]
      rw [h0]
      simp only [evE, evEs, RE.bind_ok, RE.binds_ok, REs.bind_ok, REs.binds_ok, List.getElem?_cons_zero, List.getElem?_cons_succ, binV_add, binV_sub, cmpV_lt, cmpV_le, cmpV_gt, cmpV_ge, cmpV_eq, cmpV_ne, ofOptB, ofOpt, Option.map_some, Option.map_none, bltV, bLen, lenV, isiV, subV, Bool.not_true, Bool.not_false, Nat.reduceAdd]
      simp [hk]
    · show evE _ _ [some (.ref 0), some (.int k), none] σ = _
      simp only [evE, evEs, RE.bind_ok, RE.binds_ok, REs.bind_ok, REs.binds_ok, List.getElem?_cons_zero, List.getElem?_cons_succ, binV_add, binV_sub, cmpV_lt, cmpV_le, cmpV_gt, cmpV_ge, cmpV_eq, cmpV_ne, ofOptB, ofOpt, Option.map_some, Option.map_none, bltV, bLen, lenV, isiV, subV, Bool.not_true, Bool.not_false, Nat.reduceAdd]
      rw [h0]
      simp [idxV, hk, cellAt, ofOpt]
  · refine fn_ret rfl rfl (ss_if_f (σ1 := σ) ?_ (ss_ret ?_))
    · show evE _ _ [some (.ref 0), some (.int k), none] σ = _
      simp only [evE, evEs, RE.bind_ok, RE.binds_ok, REs.bind_ok, REs.binds_ok, List.getElem?_cons_zero, List.getElem?_cons_succ, binV_add, binV_sub, cmpV_lt, cmpV_le, cmpV_gt, cmpV_ge, cmpV_eq, cmpV_ne, ofOptB, ofOpt, Option.map_some, Option.map_none, bltV, bLen, lenV, isiV, subV, Bool.not_true, Bool.not_false, Nat.reduceAdd]
      rw [h0]
      simp only [evE, evEs, RE.bind_ok, RE.binds_ok, REs.bind_ok, REs.binds_ok, List.getElem?_cons_zero, List.getElem?_cons_succ, binV_add, binV_sub, cmpV_lt, cmpV_le, cmpV_gt, cmpV_ge, cmpV_eq, cmpV_ne, ofOptB, ofOpt, Option.map_some, Option.map_none, bltV, bLen, lenV, isiV, subV, Bool.not_true, Bool.not_false, Nat.reduceAdd]
      simp [hk]
    · simp only [evE, evEs, RE.bind_ok, RE.binds_ok, REs.bind_ok, REs.binds_ok, List.getElem?_cons_zero, List.getElem?_cons_succ, binV_add, binV_sub, cmpV_lt, cmpV_le, cmpV_gt, cmpV_ge, cmpV_eq, cmpV_ne, ofOptB, ofOpt, Option.map_some, Option.map_none, bltV, bLen, lenV, isiV, subV, Bool.not_true, Bool.not_false, Nat.reduceAdd]
      simp [cellAt, hk]
noncomputable def modAt (w : Int) : Nat := if w.fmod 3 = 0 then 13 else if w.fmod 3 = 1 then 1000 else 10 ^ 40
theorem e_by {c w : Int} : ∃ τ, evFn P01 wf (n + 1) 4 [.int c, .int w] σ = .ok (.int (c.fmod (modAt w))) (σ ++ τ) := by
  refine ⟨[.lst [.int 13, .int 1000, .int (10 ^ 40)]], fn_ret rfl rfl (ss_ret ?_)⟩
  show evE _ _ [some (.int c), some (.int w)] σ = _
  have hr : w.fmod 3 = 0 ∨ w.fmod 3 = 1 ∨ w.fmod 3 = 2 := by
    have := Int.fmod_nonneg_of_pos w (by decide : (0 : Int) < 3)
    have := Int.fmod_lt_of_pos w (by decide : (0 : Int) < 3)
    omega
  simp only [evE, evEs, RE.bind_ok, RE.binds_ok, REs.bind_ok, REs.binds_ok, List.getElem?_cons_zero, List.getElem?_cons_succ, binV_add, binV_sub, cmpV_lt, cmpV_le, cmpV_gt, cmpV_ge, cmpV_eq, cmpV_ne, ofOptB, ofOpt, Option.map_some, Option.map_none, bltV, bLen, lenV, isiV, subV, Bool.not_true, Bool.not_false, Nat.reduceAdd, newL_ok (show [V.int 13, V.int 1000, V.int (((10 : Nat) : Int) ^ 40)].length ≤ 16777216 by decide), binV_mod (show (3 : Int) ≠ 0 by decide)]
  rcases hr with h | h | h
  · simp only [h, List.getElem?_append_right (Nat.le_refl _), Nat.sub_self, List.getElem?_cons_zero, idxV, modAt, if_true]
    rfl
  · simp only [h, List.getElem?_append_right (Nat.le_refl _), Nat.sub_self, List.getElem?_cons_zero, idxV, modAt, if_true]
    rfl
  · simp only [h, List.getElem?_append_right (Nat.le_refl _), Nat.sub_self, List.getElem?_cons_zero, idxV, modAt, if_true]
    rfl
theorem e_whole {i : Int} : evFn P01 wf (n + 1) 3 [.int i] σ = .ok (.bool true) σ := by
  refine fn_ret rfl rfl (ss_ret ?_)
  show evE _ _ [some (.int i), none, none, none] σ = _
  simp only [evE, evEs, RE.bind_ok, RE.binds_ok, REs.bind_ok, REs.binds_ok, List.getElem?_cons_zero, List.getElem?_cons_succ, binV_add, binV_sub, cmpV_lt, cmpV_le, cmpV_gt, cmpV_ge, cmpV_eq, cmpV_ne, ofOptB, ofOpt, Option.map_some, Option.map_none, bltV, bLen, lenV, isiV, subV, Bool.not_true, Bool.not_false, Nat.reduceAdd]

noncomputable def tail01 : List S := [S.asg 4 (E.call 1 [E.loc 1, E.loc 2]),
        S.ifS (((E.loc 4).isi Ty.tuple).not.or ((E.cmp CmpOp.NotEq (E.blt BN.len [E.loc 4]) (E.int 2)).or ((E.call 3 [(E.loc 4).sub (E.int 0)]).not.or (E.call 3 [(E.loc 4).sub (E.int 1)]).not))) [S.ret (E.bool false)] [],
        S.ifS ((E.cmp CmpOp.Lt ((E.loc 4).sub (E.int 1)) (E.int 1)).or (E.cmp CmpOp.NotEq (E.bin Operator.Mult ((E.loc 4).sub (E.int 0)) (E.loc 2)) (E.bin Operator.Mult (E.loc 1) ((E.loc 4).sub (E.int 1))))) [S.ret (E.bool false)] [],
        S.ret (E.cmp CmpOp.Eq (E.call 5 [(E.loc 4).sub (E.int 0), (E.loc 4).sub (E.int 1)]) (E.int 1))]

theorem e_tail {x y : Nat} {z : Option V} (hx : x < 10 ^ 100) (hy : 0 < y) (hb : y < 10 ^ 100) (hw : y < wf) :
    ∃ fr', evSs (evFn P01 wf (n + 2)) wf tail01 [some (.ref 0), some (.int x), some (.int y), z, none, none, none, none, none, none, none, none, none] σ = .ok (.ret (.bool true)) fr' σ := by
  have hg : 0 < Nat.gcd x y := Nat.gcd_pos_of_pos_right _ hy
  have hle : Nat.gcd x y ≤ y := Nat.gcd_le_right _ hy
  have q1 : 1 ≤ y / Nat.gcd x y := (Nat.one_le_div_iff hg).mpr hle
  have d1 := Nat.gcd_dvd_left x y
  have d2 := Nat.gcd_dvd_right x y
  have b1 : x / Nat.gcd x y < 10 ^ 100 := Nat.lt_of_le_of_lt (Nat.div_le_self _ _) hx
  have b2 : y / Nat.gcd x y < 10 ^ 100 := Nat.lt_of_le_of_lt (Nat.div_le_self _ _) hb
  have m1 : mulOk ((x / Nat.gcd x y : Nat) : Int) (y : Int) := .inr (.inr ⟨by rw [Int.natAbs_natCast]; exact b1, by rw [Int.natAbs_natCast]; exact hb⟩)
  have m2 : mulOk (x : Int) ((y / Nat.gcd x y : Nat) : Int) := .inr (.inr ⟨by rw [Int.natAbs_natCast]; exact hx, by rw [Int.natAbs_natCast]; exact b2⟩)
  have hmul : ((x / Nat.gcd x y : Nat) : Int) * (y : Int) = (x : Int) * ((y / Nat.gcd x y : Nat) : Int) := by
    have key : ∀ g u v : Nat, g ∣ u → g ∣ v → 0 < g → u / g * v = u * (v / g) := by
      rintro g _ _ ⟨a, rfl⟩ ⟨b, rfl⟩ hg
      rw [Nat.mul_div_cancel_left _ hg, Nat.mul_div_cancel_left _ hg]; ac_rfl
    have := key (Nat.gcd x y) x y d1 d2 hg
    exact_mod_cast this
  have hcop : Nat.gcd (x / Nat.gcd x y) (y / Nat.gcd x y) = 1 := Nat.gcd_div_gcd_div_gcd_of_pos_right hy
  have hlow := fun σ => e_lowest (wf := wf) (n := n) (σ := σ) (x := x) hw hy hb
  have hbw : y / Nat.gcd x y < wf := Nat.lt_of_le_of_lt (Nat.div_le_self _ _) hw
  generalize x / Nat.gcd x y = p at *
  generalize y / Nat.gcd x y = q at *
  refine ⟨_, ss_asg (v := .tup [.int (p : Int), .int (q : Int)]) (σ1 := σ) ?_ (by simp) (ss_if_f (σ1 := σ) ?_ (ss_if_f (σ1 := σ) ?_ (ss_ret ?_)))⟩
  · simp only [evE, evEs, RE.bind_ok, RE.binds_ok, REs.bind_ok, REs.binds_ok, List.getElem?_cons_zero, List.getElem?_cons_succ, binV_add, binV_sub, cmpV_lt, cmpV_le, cmpV_gt, cmpV_ge, cmpV_eq, cmpV_ne, ofOptB, ofOpt, Option.map_some, Option.map_none, bltV, bLen, lenV, isiV, subV, Bool.not_true, Bool.not_false, Nat.reduceAdd, hlow]
  · simp only [List.set]
    have i0 : idxV [V.int (p : Int), V.int (q : Int)] 0 = some (.int p) := rfl
    have i1 : idxV [V.int (p : Int), V.int (q : Int)] 1 = some (.int q) := rfl
    simp only [evE, evEs, RE.bind_ok, RE.binds_ok, REs.bind_ok, REs.binds_ok, List.getElem?_cons_zero, List.getElem?_cons_succ, binV_add, binV_sub, cmpV_lt, cmpV_le, cmpV_gt, cmpV_ge, cmpV_eq, cmpV_ne, ofOptB, ofOpt, Option.map_some, Option.map_none, bltV, bLen, lenV, isiV, subV, Bool.not_true, Bool.not_false, Nat.reduceAdd, i0, i1, e_whole]
    rfl
  · simp only [List.set]
    have i0 : idxV [V.int (p : Int), V.int (q : Int)] 0 = some (.int p) := rfl
    have i1 : idxV [V.int (p : Int), V.int (q : Int)] 1 = some (.int q) := rfl
    have h1 : decide ((q : Int) < 1) = false := by simp; omega
    have h2 : ((x : Int) * (q : Int) != (x : Int) * (q : Int)) = false := by simp
    simp only [evE, evEs, RE.bind_ok, RE.binds_ok, REs.bind_ok, REs.binds_ok, List.getElem?_cons_zero, List.getElem?_cons_succ, binV_add, binV_sub, cmpV_lt, cmpV_le, cmpV_gt, cmpV_ge, cmpV_eq, cmpV_ne, ofOptB, ofOpt, Option.map_some, Option.map_none, bltV, bLen, lenV, isiV, subV, Bool.not_true, Bool.not_false, Nat.reduceAdd, i0, i1, h1, binV_mul m1, binV_mul m2, hmul, h2]
  · simp only [List.set]
    have i0 : idxV [V.int (p : Int), V.int (q : Int)] 0 = some (.int p) := rfl
    have i1 : idxV [V.int (p : Int), V.int (q : Int)] 1 = some (.int q) := rfl
    simp only [evE, evEs, RE.bind_ok, RE.binds_ok, REs.bind_ok, REs.binds_ok, List.getElem?_cons_zero, List.getElem?_cons_succ, binV_add, binV_sub, cmpV_lt, cmpV_le, cmpV_gt, cmpV_ge, cmpV_eq, cmpV_ne, ofOptB, ofOpt, Option.map_some, Option.map_none, bltV, bLen, lenV, isiV, subV, Bool.not_true, Bool.not_false, Nat.reduceAdd, i0, i1, e_common2 hbw, hcop]
    rfl

theorem fmod_natlt (c : Int) (m : Nat) (hm : 0 < m) : ∃ k : Nat, c.fmod m = k ∧ k < m := by
  have h1 := Int.fmod_nonneg_of_pos c (by omega : (0 : Int) < m)
  have h2 := Int.fmod_lt_of_pos c (by omega : (0 : Int) < m)
  obtain ⟨k, hk⟩ := Int.eq_ofNat_of_zero_le h1
  exact ⟨k, hk, by omega⟩
theorem modAt_pos (w : Int) : 0 < modAt w ∧ modAt w ≤ 10 ^ 40 := by
  unfold modAt
  split
  · exact ⟨by decide, by decide +kernel⟩
  · split
    · exact ⟨by decide, by decide +kernel⟩
    · exact ⟨by decide +kernel, Nat.le_refl _⟩

theorem e_law {is : List Int} (hw : 10 ^ 100 ≤ wf) : ∃ τ, evFn P01 wf (n + 3) 6 [.ref 0] [.frz (is.map V.int)] = .ok (.bool true) ([.frz (is.map V.int)] ++ τ) := by
  have hc : ∀ (n k : Nat) (τ : Sto), evFn P01 wf (n + 1) 2 [.ref 0, .int k] ([.frz (is.map V.int)] ++ τ) = .ok (.int (cellAt is k)) ([.frz (is.map V.int)] ++ τ) := fun n k τ => e_cell rfl
  have hc' : ∀ (n k : Nat), evFn P01 wf (n + 1) 2 [.ref 0, .int k] [.frz (is.map V.int)] = .ok (.int (cellAt is k)) [.frz (is.map V.int)] := fun n k => e_cell rfl
  obtain ⟨x, hx, hx'⟩ := fmod_natlt (cellAt is 0) (modAt (cellAt is 3)) (modAt_pos _).1
  obtain ⟨y, hy, hy'⟩ := fmod_natlt (cellAt is 1) (modAt ((cellAt is 3).fdiv 3)) (modAt_pos _).1
  obtain ⟨m, hm, hm'⟩ := fmod_natlt (cellAt is 2) (modAt ((cellAt is 3).fdiv 18)) (modAt_pos _).1
  have bx := Nat.lt_of_lt_of_le hx' (modAt_pos _).2
  have by' := Nat.lt_of_lt_of_le hy' (modAt_pos _).2
  have bm := Nat.lt_of_lt_of_le hm' (modAt_pos _).2
  have e40 : (10 : Nat) ^ 40 * 10 ^ 40 = 10 ^ 80 := by decide +kernel
  have e80 : (10 : Nat) ^ 80 < 10 ^ 100 := by decide +kernel
  have e41 : (10 : Nat) ^ 40 < 10 ^ 80 := by decide +kernel
  obtain ⟨τ1, h1⟩ := e_by (wf := wf) (n := n + 1) (σ := [.frz (is.map V.int)]) (c := cellAt is 0) (w := cellAt is 3)
  obtain ⟨τ2, h2⟩ := e_by (wf := wf) (n := n + 1) (σ := [.frz (is.map V.int)] ++ τ1) (c := cellAt is 1) (w := (cellAt is 3).fdiv 3)
  obtain ⟨τ3, h3⟩ := e_by (wf := wf) (n := n + 1) (σ := [.frz (is.map V.int)] ++ (τ1 ++ τ2)) (c := cellAt is 2) (w := (cellAt is 3).fdiv 18)
  rw [hx] at h1; rw [hy] at h2; rw [hm] at h3
  have hd3 : ∀ σ : Sto, binV .FloorDiv (.int (cellAt is 3)) (.int 3) σ = .ok (.int ((cellAt is 3).fdiv 3)) σ := fun σ => binV_fdiv (by decide) (by decide +kernel)
  have hd9 : ∀ σ : Sto, binV .FloorDiv (.int (cellAt is 3)) (.int 9) σ = .ok (.int ((cellAt is 3).fdiv 9)) σ := fun σ => binV_fdiv (by decide) (by decide +kernel)
  have hd18 : ∀ σ : Sto, binV .FloorDiv (.int (cellAt is 3)) (.int 18) σ = .ok (.int ((cellAt is 3).fdiv 18)) σ := fun σ => binV_fdiv (by decide) (by decide +kernel)
  have hm2 : ∀ (z : Int) (σ : Sto), binV .Mod (.int z) (.int 2) σ = .ok (.int (z.fmod 2)) σ := fun z σ => binV_mod (by decide)
  have hy1 : (1 : Int) + (y : Int) = ((1 + y : Nat) : Int) := by omega
  have hm1 : (1 : Int) + (m : Int) = ((1 + m : Nat) : Int) := by omega
  have c1 : ∀ τ, evFn P01 wf (n + 1 + 1) 2 [.ref 0, .int 1] ([.frz (is.map V.int)] ++ τ) = .ok (.int (cellAt is 1)) ([.frz (is.map V.int)] ++ τ) := fun τ => hc (n + 1) 1 τ
  have c2 : ∀ τ, evFn P01 wf (n + 1 + 1) 2 [.ref 0, .int 2] ([.frz (is.map V.int)] ++ τ) = .ok (.int (cellAt is 2)) ([.frz (is.map V.int)] ++ τ) := fun τ => hc (n + 1) 2 τ
  have c3 : ∀ τ, evFn P01 wf (n + 1 + 1) 2 [.ref 0, .int 3] ([.frz (is.map V.int)] ++ τ) = .ok (.int (cellAt is 3)) ([.frz (is.map V.int)] ++ τ) := fun τ => hc (n + 1) 3 τ
  have c0' : evFn P01 wf (n + 1 + 1) 2 [.ref 0, .int 0] [.frz (is.map V.int)] = .ok (.int (cellAt is 0)) [.frz (is.map V.int)] := hc' (n + 1) 0
  have c3' : evFn P01 wf (n + 1 + 1) 2 [.ref 0, .int 3] [.frz (is.map V.int)] = .ok (.int (cellAt is 3)) [.frz (is.map V.int)] := hc' (n + 1) 3
  have a12 : [AO.frz (is.map V.int)] ++ τ1 ++ τ2 = [AO.frz (is.map V.int)] ++ (τ1 ++ τ2) := by simp
  have a123 : [AO.frz (is.map V.int)] ++ (τ1 ++ τ2) ++ τ3 = [AO.frz (is.map V.int)] ++ (τ1 ++ τ2 ++ τ3) := by simp
  rw [a12] at h2; rw [a123] at h3
  have hb : ((cellAt is 3).fdiv 9).fmod 2 = 0 ∨ ((cellAt is 3).fdiv 9).fmod 2 = 1 := by
    have := Int.fmod_nonneg_of_pos ((cellAt is 3).fdiv 9) (by decide : (0 : Int) < 2)
    have := Int.fmod_lt_of_pos ((cellAt is 3).fdiv 9) (by decide : (0 : Int) < 2)
    omega
  have s1 : evE (evFn P01 wf (n + 2)) (E.call 4 [E.call 2 [E.loc 0, E.int 0], E.call 2 [E.loc 0, E.int 3]]) [some (.ref 0), none, none, none, none, none, none, none, none, none, none, none, none] [.frz (is.map V.int)] = .ok (.int x) ([.frz (is.map V.int)] ++ τ1) := by
    simp only [evE, evEs, RE.bind_ok, RE.binds_ok, REs.bind_ok, REs.binds_ok, List.getElem?_cons_zero, List.getElem?_cons_succ, binV_add, binV_sub, cmpV_lt, cmpV_le, cmpV_gt, cmpV_ge, cmpV_eq, cmpV_ne, ofOptB, ofOpt, Option.map_some, Option.map_none, bltV, bLen, lenV, isiV, subV, Bool.not_true, Bool.not_false, Nat.reduceAdd, c0', c3', h1]
  have s2 : evE (evFn P01 wf (n + 2)) (E.bin Operator.Add (E.int 1) (E.call 4 [E.call 2 [E.loc 0, E.int 1], E.bin Operator.FloorDiv (E.call 2 [E.loc 0, E.int 3]) (E.int 3)])) [some (.ref 0), some (.int x), none, none, none, none, none, none, none, none, none, none, none] ([.frz (is.map V.int)] ++ τ1) = .ok (.int ((1 + y : Nat) : Int)) ([.frz (is.map V.int)] ++ (τ1 ++ τ2)) := by
    simp only [evE, evEs, RE.bind_ok, RE.binds_ok, REs.bind_ok, REs.binds_ok, List.getElem?_cons_zero, List.getElem?_cons_succ, binV_add, binV_sub, cmpV_lt, cmpV_le, cmpV_gt, cmpV_ge, cmpV_eq, cmpV_ne, ofOptB, ofOpt, Option.map_some, Option.map_none, bltV, bLen, lenV, isiV, subV, Bool.not_true, Bool.not_false, Nat.reduceAdd, c1, c3, hd3, h2, hy1]
  have st : ∀ z : V, evE (evFn P01 wf (n + 2)) (E.cmp CmpOp.Eq (E.bin Operator.Mod (E.bin Operator.FloorDiv (E.call 2 [E.loc 0, E.int 3]) (E.int 9)) (E.int 2)) (E.int 1)) [some (.ref 0), some (.int x), some z, none, none, none, none, none, none, none, none, none, none] ([.frz (is.map V.int)] ++ (τ1 ++ τ2)) = .ok (.bool (((cellAt is 3).fdiv 9).fmod 2 == 1)) ([.frz (is.map V.int)] ++ (τ1 ++ τ2)) := fun z => by
    simp only [evE, evEs, RE.bind_ok, RE.binds_ok, REs.bind_ok, REs.binds_ok, List.getElem?_cons_zero, List.getElem?_cons_succ, binV_add, binV_sub, cmpV_lt, cmpV_le, cmpV_gt, cmpV_ge, cmpV_eq, cmpV_ne, ofOptB, ofOpt, Option.map_some, Option.map_none, bltV, bLen, lenV, isiV, subV, Bool.not_true, Bool.not_false, Nat.reduceAdd, c3, hd9, hm2]
  have s3 : ∀ z : V, evE (evFn P01 wf (n + 2)) (E.bin Operator.Add (E.int 1) (E.call 4 [E.call 2 [E.loc 0, E.int 2], E.bin Operator.FloorDiv (E.call 2 [E.loc 0, E.int 3]) (E.int 18)])) [some (.ref 0), some (.int x), some z, none, none, none, none, none, none, none, none, none, none] ([.frz (is.map V.int)] ++ (τ1 ++ τ2)) = .ok (.int ((1 + m : Nat) : Int)) ([.frz (is.map V.int)] ++ (τ1 ++ τ2 ++ τ3)) := fun z => by
    simp only [evE, evEs, RE.bind_ok, RE.binds_ok, REs.bind_ok, REs.binds_ok, List.getElem?_cons_zero, List.getElem?_cons_succ, binV_add, binV_sub, cmpV_lt, cmpV_le, cmpV_gt, cmpV_ge, cmpV_eq, cmpV_ne, ofOptB, ofOpt, Option.map_some, Option.map_none, bltV, bLen, lenV, isiV, subV, Bool.not_true, Bool.not_false, Nat.reduceAdd, c2, c3, hd18, h3, hm1]
  rcases hb with hb | hb
  · obtain ⟨fr', ht⟩ := e_tail (wf := wf) (n := n) (σ := [.frz (is.map V.int)] ++ (τ1 ++ τ2)) (x := x) (y := 1 + y) (z := none) (by omega) (by omega) (by omega) (by omega)
    refine ⟨τ1 ++ τ2, fn_ret (fr' := fr') rfl rfl (ss_asg s1 (by simp [frame0, putPs]) (ss_asg s2 (by simp [frame0, putPs]) (ss_if_f ((st _).trans (by rw [hb]; rfl)) ?_)))⟩
    exact ht
  · have k1 : x * (1 + m) < 10 ^ 100 := Nat.lt_of_le_of_lt (Nat.mul_le_mul (Nat.le_of_lt bx) (by omega : 1 + m ≤ 10 ^ 40)) (by rw [e40]; exact e80)
    have k2 : (1 + y) * (1 + m) < 10 ^ 100 := Nat.lt_of_le_of_lt (Nat.mul_le_mul (by omega : 1 + y ≤ 10 ^ 40) (by omega : 1 + m ≤ 10 ^ 40)) (by rw [e40]; exact e80)
    have k3 : 0 < (1 + y) * (1 + m) := Nat.mul_pos (by omega) (by omega)
    obtain ⟨fr', ht⟩ := e_tail (wf := wf) (n := n) (σ := [.frz (is.map V.int)] ++ (τ1 ++ τ2 ++ τ3)) (x := x * (1 + m)) (y := (1 + y) * (1 + m)) (z := some (.int ((1 + m : Nat) : Int))) k1 k3 k2 (Nat.lt_of_lt_of_le k2 hw)
    have mk1 : mulOk (x : Int) ((1 + m : Nat) : Int) := .inr (.inr ⟨by rw [Int.natAbs_natCast]; omega, by rw [Int.natAbs_natCast]; omega⟩)
    have mk2 : mulOk ((1 + y : Nat) : Int) ((1 + m : Nat) : Int) := .inr (.inr ⟨by rw [Int.natAbs_natCast]; omega, by rw [Int.natAbs_natCast]; omega⟩)
    refine ⟨τ1 ++ τ2 ++ τ3, fn_ret (fr' := fr') rfl rfl (ss_asg s1 (by simp [frame0, putPs]) (ss_asg s2 (by simp [frame0, putPs]) (ss_if_t ((st _).trans (by rw [hb]; rfl)) (ss_asg (s3 _) (by simp [frame0, putPs]) (ss_asg (v := .int ((x * (1 + m) : Nat) : Int)) (σ1 := [.frz (is.map V.int)] ++ (τ1 ++ τ2 ++ τ3)) ?_ (by simp [frame0, putPs]) (ss_asg (v := .int (((1 + y) * (1 + m) : Nat) : Int)) (σ1 := [.frz (is.map V.int)] ++ (τ1 ++ τ2 ++ τ3)) ?_ (by simp [frame0, putPs]) ?_))))))⟩
    · show evE _ _ [some (.ref 0), some (.int x), some (.int ((1 + y : Nat) : Int)), some (.int ((1 + m : Nat) : Int)), none, none, none, none, none, none, none, none, none] _ = _
      simp only [evE, evEs, RE.bind_ok, RE.binds_ok, REs.bind_ok, REs.binds_ok, List.getElem?_cons_zero, List.getElem?_cons_succ, binV_add, binV_sub, cmpV_lt, cmpV_le, cmpV_gt, cmpV_ge, cmpV_eq, cmpV_ne, ofOptB, ofOpt, Option.map_some, Option.map_none, bltV, bLen, lenV, isiV, subV, Bool.not_true, Bool.not_false, Nat.reduceAdd, binV_mul mk1]
      rw [Int.natCast_mul]
    · show evE _ _ [some (.ref 0), some (.int ((x * (1 + m) : Nat) : Int)), some (.int ((1 + y : Nat) : Int)), some (.int ((1 + m : Nat) : Int)), none, none, none, none, none, none, none, none, none] _ = _
      simp only [evE, evEs, RE.bind_ok, RE.binds_ok, REs.bind_ok, REs.binds_ok, List.getElem?_cons_zero, List.getElem?_cons_succ, binV_add, binV_sub, cmpV_lt, cmpV_le, cmpV_gt, cmpV_ge, cmpV_eq, cmpV_ne, ofOptB, ofOpt, Option.map_some, Option.map_none, bltV, bLen, lenV, isiV, subV, Bool.not_true, Bool.not_false, Nat.reduceAdd, binV_mul mk2]
      rw [Int.natCast_mul]
    · exact ht
end
end Mine

set_option autoImplicit false
set_option maxRecDepth 100000
namespace Mine
open PySem PyProof.Rows PySem.W

noncomputable def c01 : CE := { names := [], fns := [("common", 0), ("lowest", 1), ("_law_cell_at", 2), ("_law_whole", 3), ("_law_number_by", 4), ("_law_common", 5)], clss := [], excs := [], mths := [], attrs := [], consts := [], lam := none }
noncomputable def fa01 (k : Nat) : Option Addr := [21, 28, 35, 42, 49, 56, 63][k]?
theorem p01 {K : Frag} (h : ∀ k, k < 7 → Pof K (fun _ => c01) fa01 k = P01 k) : Pof K (fun _ => c01) fa01 = P01 := by
  funext k
  by_cases hk : k < 7
  · exact h k hk
  · have h1 : fa01 k = none := by unfold fa01; rw [List.getElem?_eq_none_iff]; simp; omega
    unfold Pof; rw [h1]
    obtain ⟨j, rfl⟩ : ∃ j, k = j + 7 := ⟨k - 7, by omega⟩
    rfl
theorem join01 {prog : Program} {w : World} {K : Frag} {mg mb : Str → Option Value} {s₁ : Shared} {scr : Addr} {vs : List Value} {is : List Int}
    (KX : K.In s₁.heap) (Tg : s₁.heap.Ns mainGlobals mg) (Tb : s₁.heap.Ns builtinsNs mb) (hb : ∀ x : Str, x ≠ "__name__" → mb x = bootBuiltins x) (lim : s₁.heap.NoLimit)
    (hl : s₁.heap.get? scr = some { cls := .type "list", data := .seq vs.toArray }) (hi : IntsAre vs is) (hlen : is.length ≤ 63)
    (hK : K.all (fun p => !(p.2.cls == .type "list")) = true) (chk : chkG K c01 0 [] fa01 = true)
    (q0 : compFn K c01 21 = P01 0) (q1 : compFn K c01 28 = P01 1) (q2 : compFn K c01 35 = P01 2) (q3 : compFn K c01 42 = P01 3) (q4 : compFn K c01 49 = P01 4) (q5 : compFn K c01 56 = P01 5) (q6 : compFn K c01 63 = P01 6)
    {R : Result → Shared → Prop} (hR : ∀ h' tk, (∀ (b : Addr) (o : Obj), s₁.heap.get? b = some o → h'.get? b = some o) → R (.ok (.ret (.bool true))) { s₁ with heap := h', toks := tk }) :
    codeAny (model prog w) callerA (.call (.ref 63) ⟨[.ref scr], []⟩) R s₁ := by
  have hP : Pof K (fun _ => c01) fa01 = P01 := p01 fun k hk => by
    rcases k with _ | _ | _ | _ | _ | _ | _ | k
    · exact q0
    · exact q1
    · exact q2
    · exact q3
    · exact q4
    · exact q5
    · exact q6
    · omega
  obtain ⟨τ, ev⟩ := e_law (wf := 10 ^ 100) (n := 0) (is := is) (Nat.le_refl _)
  rw [← hP] at ev
  exact join (c := fun _ => c01) (C := 0) (at' := []) (fa := fa01) (n := 3) (lawI := 6) KX Tg Tb hb lim hl hi hlen hK (fun _ => chk) (by simp) (by simp) rfl ⟨by decide, by decide, rfl⟩ ev rfl hR
end Mine
open PySem PySem.W PyProof.Rows
set_option Elab.async false
set_option maxRecDepth 100000 in
set_option maxHeartbeats 8000000 in
theorem PySem.Challenge.cw_uf060017_01_holds : PySem.Challenge.rw_uf060017_01.Holds := by
  w_on; o_law; k_head; (case hw => w_witness2)
  k_fill
  intro w s₀ s₁ mg mb G Y fa o pm cd doc dV kV ho hd hcd hD hmg hg args vals as hpre hlay hrd hwl hlo
  have KX := kIn_of Y
  refine Ground.open G ?_
  intro T B D TE TW
  clear hd hcd hD
  wrow_args hpre hlay hrd hwl hlo
  all_goals (first | refine callC_kw (enter_call ?_) | refine enter_call ?_)
  w_top on
  refine codeAny_mono ?_ (fun _ _ g => GoodW.toG g)
  rename Well _ _ _ _ => hW
  rename Heap.IsList _ _ _ => hL
  rename IntsAre _ _ => hI
  rename ¬ _ < _ => hcond
  have hfa : fa = 63 := by
    have h1 := mg_of (n := "law") (v := .ref 63) KX T.g (by kernel_rfl)
    have h2 : mg (Str.ofString "law") = some (.ref fa) := hmg
    rw [h2] at h1; cases h1; rfl
  subst hfa
  refine Mine.join01 KX T.g T.b T.builtins T.nolimit (Mine.list_obj hW hL) hI (by omega) (by kernel_rfl) (by kernel_rfl) (by kernel_rfl) (by kernel_rfl) (by kernel_rfl) (by kernel_rfl) (by kernel_rfl) (by kernel_rfl) (by kernel_rfl) fun h' tk hk => ?_
  refine ⟨.inl ⟨.bool true, .bool true, [], rfl, fun _ => rfl, .bool true, Mine.law_post _ _ _, fun _ => ⟨List.nodup_nil, fun a ha => nomatch ha⟩⟩, hk, rfl, hg⟩
