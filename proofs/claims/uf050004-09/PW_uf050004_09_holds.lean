import PyProof.Rows.All
import Wide.All
import OpenK.KWalk
import KE.KSliceW
import KE.KRevSl
import KE.KTupSum
import KE.KIsAll
import Open.Line
import Wide.FinOn
import PyProof.Rows.Tup
import PyProof.Rows.TupIn
import PyProof.Rows.Many
import PyProof.Cells
import PyProof.RangeIter
import PyProof.DictStraight
import PyProof.DictDisplay
import PyProof.TupleIter
import PyProof.WalksPairs
import PyProof.CompFree
import PyProof.CompUse
import PyProof.DictRoads
import PyProof.RaisesMany
import PyProof.RulesAs
import PyProof.ListIndex
import PyProof.RulesAssignMore
import PyProof.Raises
import PyProof.AssignAttr
import PyProof.ExcClass3
import PyProof.Rows.CatchOwn
import PyProof.ExcBaseAll.ValueError
import PyProof.ExcQuiet
import PyProof.ExcAttrAll.ValueError
import PyProof.IsiBase
import PySem.Challenge.RW_uf050004_09
set_option Elab.async false
set_option compiler.extract_closed false
section
open PySem
set_option genSizeOfSpec false
set_option genSizeOf false
namespace Mine

/-! ## The small language -/

/-- abstract values: tuples are pure, lists | dicts | instances live in the abstract heap -/
inductive AV where
  | none
  | bool (b : Bool)
  | int (i : Int)
  | str (s : Str)
  | tup (vs : List AV)
  | lst (a : Addr)
  | dct (a : Addr)
  | obj (c : Nat) (a d : Addr)
  | exc (c : Nat) (a : Addr)
  | fn (f : Nat)
  | cls (c : Nat)
  | typ (t : Nat)
  | bi (b : Nat)
  | frz (a : Addr) (ns : List Int)
  | rng (lo hi : Int)

/-- abstract objects -/
inductive AO where
  | lst (vs : List AV)
  | dct (kvs : List (Nat × AV))

noncomputable abbrev AH := Addr → Option AO
noncomputable def AH.upd (H : AH) (a : Addr) (o : AO) : AH := fun b => if b = a then some o else H b

inductive BOp where | add | sub | mul | fdiv | mod | pow
inductive COp where | eq | ne | lt | le | gt | ge | is | isnot | inn | notin

inductive Tgt where
  | loc (i : Nat)
  | cv (i : Nat)
  | tupl (is : List Nat)
  | tupc (is : List Nat)

mutual
inductive ME where
  | cNone
  | cBool (b : Bool)
  | cInt (i : Int)
  | cStr (s : Str)
  | loc (i : Nat)
  | cv (i : Nat)
  | gfn (f : Nat)
  | gcls (c : Nat)
  | gty (t : Nat)
  | gbi (b : Nat)
  | gint (i : Int)
  | gtup (is : List Int)
  | bin (op : BOp) (l r : ME)
  | neg (e : ME)
  | not (e : ME)
  | and (es : List ME)
  | or (es : List ME)
  | cmp (op : COp) (l r : ME)
  | cmp2 (o1 o2 : COp) (l m r : ME)
  | tup (es : List ME)
  | lst (es : List ME)
  | dict (ks : List Nat) (vs : List ME)
  | idx (e i : ME)
  | slc (e lo hi : ME)
  | rev (e : ME)
  | call (f : ME) (as : List ME)
  | meth (o : ME) (m : Nat) (as : List ME)
  | attr (o : ME) (k : Nat)
  | key (o : ME) (k : Nat)
  | comp (nc : Nat) (elt : ME) (t : Tgt) (it : ME) (ifs : List MT)

/-- tests -/
inductive MT where
  | e (e : ME)
  | not (t : MT)
  | all (ts : List MT)
  | any (ts : List MT)
end

inductive MS where
  | pass
  | expr (e : ME)
  | ret (e : ME)
  | asg (t : Tgt) (e : ME)
  | setIdx (o i e : ME)
  | setKey (o : ME) (k : Nat) (e : ME)
  | setAttr (o : ME) (k : Nat) (e : ME)
  | ite (c : MT) (b o : List MS)
  | for (t : Tgt) (it : ME) (b : List MS)
  | while (c : MT) (b : List MS)
  | raise (c : Nat) (s : Str)
  | try (b : List MS) (c : Nat) (n : Nat) (h : List MS)

structure FunDef where
  args : Nat
  locs : Nat
  body : List MS

/-! ## The abstract state -/
structure AS where
  loc : List (Option AV)
  cv : List (Option AV)
  H : AH
  hd : Bool

inductive Out where
  | next
  | ret (v : AV)

noncomputable abbrev Hook := Nat → List AV → AH → Bool → (AV → AH → Prop) → (Nat → AH → Prop) → Prop

end Mine
end
section
open PySem
namespace Mine

/-- the goal put by while hypotheses are taken apart -/
theorem byc {p : Prop} (h : (p → False) → False) : p := Classical.byContradiction h
/-! ## codes of the built-in names -/
noncomputable abbrev Ty.int : Nat := 0
noncomputable abbrev Ty.bool : Nat := 1
noncomputable abbrev Ty.tuple : Nat := 2
noncomputable abbrev Ty.list : Nat := 3
noncomputable abbrev Ty.range : Nat := 4
noncomputable abbrev Ty.valueError : Nat := 5
noncomputable abbrev Bi.len : Nat := 0
noncomputable abbrev Bi.sum : Nat := 1
noncomputable abbrev Bi.min : Nat := 2
noncomputable abbrev Bi.isinstance : Nat := 3
noncomputable abbrev Bi.all : Nat := 4
noncomputable abbrev Cl.PressError : Nat := 0
noncomputable abbrev Cl.BadPlan : Nat := 1
noncomputable abbrev Cl.BadSign : Nat := 2
noncomputable abbrev Cl.BadCount : Nat := 3
noncomputable abbrev Cl.BadFigures : Nat := 4
noncomputable abbrev Cl.Ended : Nat := 5
noncomputable abbrev Cl.Writer : Nat := 7
noncomputable abbrev Mt.append : Nat := 0
noncomputable abbrev Mt.extend : Nat := 1
noncomputable abbrev Mt.join : Nat := 2

noncomputable def need {α : Type} (o : Option α) (k : α → Prop) : Prop := match o with
  | some v => k v
  | none => False

/-- is an exception of class c one of class k -/
noncomputable def subCls (c k : Nat) : Bool := c == k || k == Cl.PressError

noncomputable def isi : AV → AV → Option Bool
  | .int _, .typ t => if t ≤ 3 then some (t == Ty.int) else none
  | .bool _, .typ t => if t ≤ 3 then some (t == Ty.int || t == Ty.bool) else none
  | .tup _, .typ t => if t ≤ 3 then some (t == Ty.tuple) else none
  | .lst _, .typ t => if t ≤ 3 then some (t == Ty.list) else none
  | .str _, .typ t => if t ≤ 3 then some false else none
  | .none, .typ t => if t ≤ 3 then some false else none
  | .exc c _, .typ t => if t == Ty.valueError && Nat.ble c 5 then some true else none
  | .exc c _, .cls k => if Nat.ble c 5 && Nat.ble k 5 then some (subCls c k) else none
  | _, _ => none

noncomputable def getL (H : AH) (a : Addr) : Option (List AV) := match H a with
  | some (.lst vs) => some vs
  | _ => none
/-- a list that is asked about stands in the abstract heap -/
noncomputable def lives (H : AH) : AV → Bool
  | .lst a => (getL H a).isSome
  | _ => true
noncomputable def getD (H : AH) (a : Addr) : Option (List (Nat × AV)) := match H a with
  | some (.dct kvs) => some kvs
  | _ => none

noncomputable def truth (H : AH) : AV → Option Bool
  | .none => some false
  | .bool b => some b
  | .int i => some (decide (i ≠ 0))
  | .tup vs => some (!vs.isEmpty)
  | .lst a => (getL H a).map fun vs => !vs.isEmpty
  | _ => none

noncomputable def rngL (lo hi : Int) : List AV := (List.range (hi - lo).toNat).map fun (k : Nat) => AV.int (lo + (k : Int))

noncomputable def src (H : AH) : AV → Option (List AV)
  | .tup vs => some vs
  | .lst a => getL H a
  | .frz _ ns => some (ns.map .int)
  | .rng lo hi => some (rngL lo hi)
  | _ => none

/-- the items of a list or tuple -/
noncomputable def seqOf (H : AH) : AV → Option (List AV)
  | .tup vs => some vs
  | .lst a => getL H a
  | .frz _ ns => some (ns.map .int)
  | _ => none

noncomputable def ints? : List AV → Option (List Int)
  | [] => some []
  | .int i :: r => (ints? r).map (i :: ·)
  | _ => none
noncomputable def bools? : List AV → Option (List Bool)
  | [] => some []
  | .bool i :: r => (bools? r).map (i :: ·)
  | _ => none
noncomputable def strs? : List AV → Option (List Str)
  | [] => some []
  | .str i :: r => (strs? r).map (i :: ·)
  | _ => none

mutual
/-- the data that a value holds -/
noncomputable def rd (H : AH) : AV → PyData → Prop
  | v, .none => v = .none
  | v, .bool b => v = .bool b
  | v, .int i => v = .int i
  | v, .str s => v = .str s
  | v, .tuple ds => ∃ vs, v = .tup vs ∧ rds H vs ds
  | v, .list ds => ∃ a vs, v = .lst a ∧ getL H a = some vs ∧ rds H vs ds
  | _, .dict _ => False
noncomputable def rds (H : AH) : List AV → List PyData → Prop
  | [], [] => True
  | v :: vs, d :: ds => rd H v d ∧ rds H vs ds
  | [], _ :: _ => False
  | _ :: _, [] => False
end

/-! ## sizes -/
/-- far below the model's line of 2 ^ 24 items -/
noncomputable abbrev Small (n : Nat) : Prop := n ≤ 1000000
/-- places that fit -/
noncomputable abbrev Place (i : Int) : Prop := -1000000 ≤ i ∧ i ≤ 1000000
/-- of two factors one is short, or both have not too many bits -/
noncomputable def MulOk (x y : Int) : Prop := x.natAbs < 2 ^ 64 ∨ y.natAbs < 2 ^ 64 ∨ ∃ n m, x.natAbs < 2 ^ n ∧ y.natAbs < 2 ^ m ∧ n + m ≤ 100000
/-- the divisor is positive and has at most 9000 bits -/
noncomputable def DivOk (y : Int) : Prop := 0 < y ∧ ∃ n, y.natAbs < 2 ^ n ∧ n ≤ 9000
noncomputable def SumOk (ns : List Int) : Prop := ∀ n ∈ ns, 0 ≤ n ∧ n ≤ 10000000

noncomputable def normI (i : Int) (n : Nat) : Nat := if i < 0 then (i + n).toNat else min i.toNat n
/-- vs[lo:hi] -/
noncomputable def cut (vs : List AV) (lo hi : AV) : Option (List AV) :=
  match lo, hi with
  | .none, .none => some vs
  | .none, .int j => some (vs.take (normI j vs.length))
  | .int i, .none => some (vs.drop (normI i vs.length))
  | .int i, .int j => some ((vs.take (normI j vs.length)).drop (normI i vs.length))
  | _, _ => none
noncomputable def placeV : AV → Prop
  | .int i => Place i
  | _ => True
noncomputable def pick (vs : List AV) (i : Int) : Option AV := if i < 0 then (if i + vs.length < 0 then none else vs[(i + vs.length).toNat]?) else vs[i.toNat]?

noncomputable def newL (vs : List AV) (σ : AS) (Q : AV → AS → Prop) : Prop := Small vs.length ∧ ∀ a, σ.H a = none → Q (.lst a) { σ with H := σ.H.upd a (.lst vs) }

noncomputable def kvSet (kvs : List (Nat × AV)) (k : Nat) (v : AV) : List (Nat × AV) :=
  match kvs with
  | [] => [(k, v)]
  | (k', v') :: r => if k = k' then (k, v) :: r else (k', v') :: kvSet r k v

noncomputable def lk : List (Option AV) → Nat → Option AV
  | [], _ => none
  | x :: _, 0 => x
  | _ :: r, n + 1 => lk r n

/-! ## steps -/
noncomputable def binW (op : BOp) (a b : AV) (σ : AS) (Q : AV → AS → Prop) : Prop :=
  match op, a, b with
  | .add, .int x, .int y => Q (.int (x + y)) σ
  | .sub, .int x, .int y => Q (.int (x - y)) σ
  | .mul, .int x, .int y => MulOk x y ∧ Q (.int (x * y)) σ
  | .fdiv, .int x, .int y => DivOk y ∧ Q (.int (x / y)) σ
  | .mod, .int x, .int y => 0 < y ∧ Q (.int (x % y)) σ
  | .pow, .int x, .int y => x = 10 ∧ y = 20 ∧ Q (.int 100000000000000000000) σ
  | .add, .tup xs, .tup ys => Small (xs ++ ys).length ∧ Q (.tup (xs ++ ys)) σ
  | .add, .lst p, .lst q => need (getL σ.H p) fun xs => need (getL σ.H q) fun ys => newL (xs ++ ys) σ Q
  | .mul, .tup xs, .int n => 2 ≤ n ∧ n ≤ 1000 ∧ xs ≠ [] ∧ xs.length ≤ 1000 ∧ Q (.tup (List.replicate n.toNat xs).flatten) σ
  | .mul, .lst p, .int n => 0 ≤ n ∧ n ≤ 1000000 ∧ need (getL σ.H p) fun xs => newL (List.replicate n.toNat xs).flatten σ Q
  | .mul, .str x, .int n => (n = 1 ∧ Q (.str x) σ) ∨ (n = 0 ∧ Q (.str Str.empty) σ)
  | _, _, _ => False

noncomputable def eqW (a b : AV) (H : AH) (Q : Bool → Prop) : Prop :=
  match a, b with
  | .int x, .int y => Q (decide (x = y))
  | .bool x, .bool y => Q (decide (x = y))
  | a, b => ∃ d e, rd H a d ∧ rd H b e ∧ PySem.SeqAt.shaped d = true ∧ PySem.SeqAt.shaped e = true ∧ Q (PyData.eqv d e)

noncomputable def isNone : AV → Bool
  | .none => true
  | _ => false

noncomputable def cmpW (op : COp) (a b : AV) (σ : AS) (Q : AV → AS → Prop) : Prop :=
  match op with
  | .eq => eqW a b σ.H fun r => Q (.bool r) σ
  | .ne => eqW a b σ.H fun r => Q (.bool (!r)) σ
  | .lt => (match a, b with
    | .int x, .int y => Q (.bool (decide (x < y))) σ
    | _, _ => False)
  | .le => (match a, b with
    | .int x, .int y => Q (.bool (decide (x ≤ y))) σ
    | _, _ => False)
  | .gt => (match a, b with
    | .int x, .int y => Q (.bool (decide (x > y))) σ
    | _, _ => False)
  | .ge => (match a, b with
    | .int x, .int y => Q (.bool (decide (x ≥ y))) σ
    | _, _ => False)
  | .is => isNone b = true ∧ Q (.bool (isNone a)) σ
  | .isnot => isNone b = true ∧ Q (.bool (!isNone a)) σ
  | .inn => (match a, b with
    | .int x, .tup vs => need (ints? vs) fun ns => Q (.bool (ns.any (· == x))) σ
    | _, _ => False)
  | .notin => (match a, b with
    | .int x, .tup vs => need (ints? vs) fun ns => Q (.bool (!(ns.any (· == x)))) σ
    | _, _ => False)

noncomputable def idxW (o i : AV) (σ : AS) (Q : AV → AS → Prop) : Prop :=
  match i with
  | .int k => Place k ∧ need (seqOf σ.H o) fun vs => need (pick vs k) fun v => Q v σ
  | _ => False
noncomputable def slcW (o lo hi : AV) (σ : AS) (Q : AV → AS → Prop) : Prop :=
  placeV lo ∧ placeV hi ∧ match o with
  | .tup vs => need (cut vs lo hi) fun r => Q (.tup r) σ
  | .lst a => need (getL σ.H a) fun vs => need (cut vs lo hi) fun r => newL r σ Q
  | _ => False
noncomputable def revW (o : AV) (σ : AS) (Q : AV → AS → Prop) : Prop :=
  match o with
  | .lst a => need (getL σ.H a) fun vs => newL vs.reverse σ Q
  | _ => False
noncomputable def keyW (o : AV) (k : Nat) (σ : AS) (Q : AV → AS → Prop) : Prop :=
  match o with
  | .dct a => need (getD σ.H a) fun kvs => need (kvs.lookup k) fun v => Q v σ
  | _ => False
noncomputable def attrW (o : AV) (k : Nat) (σ : AS) (Q : AV → AS → Prop) : Prop :=
  match o with
  | .obj _ _ d => need (getD σ.H d) fun kvs => need (kvs.lookup k) fun v => Q v σ
  | _ => False

noncomputable def arg1 (as : List AV) (k : AV → Prop) : Prop := match as with
  | [v] => k v
  | _ => False
noncomputable def arg2 (as : List AV) (k : AV → AV → Prop) : Prop := match as with
  | [v, u] => k v u
  | _ => False
noncomputable def aint (v : AV) (k : Int → Prop) : Prop := match v with
  | .int x => k x
  | _ => False
noncomputable def abool (v : AV) (k : Bool → Prop) : Prop := match v with
  | .bool x => k x
  | _ => False
noncomputable def alst (v : AV) (k : Addr → Prop) : Prop := match v with
  | .lst x => k x
  | _ => False
noncomputable def biW (b : Nat) (as : List AV) (σ : AS) (Q : AV → AS → Prop) : Prop :=
  match b with
  | 0 => arg1 as fun v => need (seqOf σ.H v) fun vs => Q (.int vs.length) σ
  | 1 => arg1 as fun v => σ.hd = false ∧ need (seqOf σ.H v) fun vs => need (ints? vs) fun ns => SumOk ns ∧ Q (.int ns.sum) σ
  | 2 => arg2 as fun v u => aint v fun x => aint u fun y => σ.hd = false ∧ Q (.int (min x y)) σ
  | 3 => arg2 as fun v t => lives σ.H v = true ∧ need (isi v t) fun r => Q (.bool r) σ
  | 4 => arg1 as fun v => alst v fun a => σ.hd = false ∧ need (getL σ.H a) fun vs => need (bools? vs) fun bs => Q (.bool (bs.all id)) σ
  | _ => False

noncomputable def rngW (as : List AV) (σ : AS) (Q : AV → AS → Prop) : Prop := match as with
  | [v] => aint v fun n => Place n ∧ Q (.rng 0 n) σ
  | [v, u] => aint v fun m => aint u fun n => Place m ∧ Place n ∧ Q (.rng m n) σ
  | _ => False
noncomputable def tyW (t : Nat) (as : List AV) (σ : AS) (Q : AV → AS → Prop) : Prop :=
  match t with
  | 0 => arg1 as fun v => abool v fun b => Q (.int (if b then 1 else 0)) σ
  | 2 => arg1 as fun v => σ.hd = false ∧ need (seqOf σ.H v) fun vs => Q (.tup vs) σ
  | 3 => arg1 as fun v => σ.hd = false ∧ need (seqOf σ.H v) fun vs => newL vs σ Q
  | 4 => rngW as σ Q
  | _ => False

/-- which function a class makes its instances by; a method of a class -/
structure Tab where
  funs : Nat → Option FunDef
  init : Nat → Option Nat
  meth : Nat → Nat → Option Nat

noncomputable def callW (T : Tab) (hk : Hook) (f : AV) (as : List AV) (σ : AS) (Q : AV → AS → Prop) (X : Nat → AS → Prop) : Prop :=
  match f with
  | .fn f => hk f as σ.H σ.hd (fun v H => Q v { σ with H := H }) (fun c H => X c { σ with H := H })
  | .bi b => biW b as σ Q
  | .typ t => tyW t as σ Q
  | .cls c => σ.hd = false ∧ need (T.init c) fun f => ∀ a d, a ≠ d → σ.H a = none → σ.H d = none →
      hk f (.obj c a d :: as) (σ.H.upd d (.dct [])) σ.hd (fun v H => v = .none ∧ Q (.obj c a d) { σ with H := H }) (fun c H => X c { σ with H := H })
  | _ => False

noncomputable def callable : AV → Bool
  | .fn _ | .bi _ | .typ _ | .cls _ => true
  | _ => false

/-- the method is there -/
noncomputable def ready (T : Tab) (H : AH) : AV → Nat → Bool
  | .lst a, m => Nat.ble m 0 && (getL H a).isSome
  | .str _, m => m == Mt.join
  | .obj c _ d, m => (getD H d).isSome && (T.meth c m).isSome
  | _, _ => false

noncomputable def methW (T : Tab) (hk : Hook) (o : AV) (m : Nat) (as : List AV) (σ : AS) (Q : AV → AS → Prop) (X : Nat → AS → Prop) : Prop :=
  match o with
  | .lst a => (match m, as with
    | 0, [v] => need (getL σ.H a) fun vs => Small (vs.length + 1) ∧ Q .none { σ with H := σ.H.upd a (.lst (vs ++ [v])) }
    | _, _ => False)
  | .str s => m = Mt.join ∧ s = Str.ofString " " ∧ (match as with
    | [.lst a] => need (getL σ.H a) fun vs => need (strs? vs) fun xs => (xs.map (·.length)).sum + xs.length ≤ 1000 ∧ Q (.str (PySem.Txt.join (Str.ofString " ") xs)) σ
    | _ => False)
  | .obj c _ _ => need (T.meth c m) fun f => hk f (o :: as) σ.H σ.hd (fun v H => Q v { σ with H := H }) (fun c H => X c { σ with H := H })
  | _ => False

noncomputable def setAll : List (Option AV) → List Nat → List AV → List (Option AV)
  | l, i :: is, v :: vs => setAll (l.set i (some v)) is vs
  | l, [], _ => l
  | l, _ :: _, [] => l

noncomputable def asgW (t : Tgt) (v : AV) (σ : AS) (k : AS → Prop) : Prop :=
  match t with
  | .loc i => k { σ with loc := σ.loc.set i (some v) }
  | .cv i => k { σ with cv := σ.cv.set i (some v) }
  | .tupl is => σ.hd = false ∧ match v with
    | .tup vs => vs.length = is.length ∧ k { σ with loc := setAll σ.loc is vs }
    | _ => False
  | .tupc is => σ.hd = false ∧ match v with
    | .tup vs => vs.length = is.length ∧ k { σ with cv := setAll σ.cv is vs }
    | _ => False

/-- a comprehension's turns -/
noncomputable def compW (ok : AS → Prop) (turn : AV → AS → (Option AV → AS → Prop) → Prop) : List AV → List AV → AS → (List AV → AS → Prop) → Prop
  | [], acc, σ, Q => ok σ ∧ Q acc σ
  | v :: r, acc, σ, Q => ok σ ∧ turn v σ fun o σ' => Small (acc ++ o.toList).length ∧ compW ok turn r (acc ++ o.toList) σ' Q

/-- a for's turns -/
noncomputable def forW (ok : AS → Prop) (turn : AV → AS → (Out → AS → Prop) → Prop) : List AV → AS → (Out → AS → Prop) → Prop
  | [], σ, Q => ok σ ∧ Q .next σ
  | v :: r, σ, Q => ok σ ∧ turn v σ fun o σ' => match o with
    | .next => forW ok turn r σ' Q
    | .ret v => Q (.ret v) σ'

noncomputable def noX : Nat → AS → Prop := fun _ _ => False

mutual
noncomputable def WE (T : Tab) (hk : Hook) : ME → AS → (AV → AS → Prop) → (Nat → AS → Prop) → Prop
  | .cNone, σ, Q, _ => Q .none σ
  | .cBool b, σ, Q, _ => Q (.bool b) σ
  | .cInt i, σ, Q, _ => Q (.int i) σ
  | .cStr s, σ, Q, _ => Q (.str s) σ
  | .loc i, σ, Q, _ => need (lk σ.loc i) fun v => Q v σ
  | .cv i, σ, Q, _ => need (lk σ.cv i) fun v => Q v σ
  | .gfn f, σ, Q, _ => Q (.fn f) σ
  | .gcls c, σ, Q, _ => Q (.cls c) σ
  | .gty t, σ, Q, _ => Q (.typ t) σ
  | .gbi b, σ, Q, _ => Q (.bi b) σ
  | .gint i, σ, Q, _ => Q (.int i) σ
  | .gtup is, σ, Q, _ => Q (.tup (is.map .int)) σ
  | .bin op l r, σ, Q, X => WE T hk l σ (fun a σ₁ => WE T hk r σ₁ (fun b σ₂ => binW op a b σ₂ Q) X) X
  | .neg e, σ, Q, X => WE T hk e σ (fun a σ₁ => match a with | .int i => Q (.int (-i)) σ₁ | _ => False) X
  | .not e, σ, Q, X => WE T hk e σ (fun a σ₁ => need (truth σ₁.H a) fun b => Q (.bool (!b)) σ₁) X
  | .and es, σ, Q, X => WAnd T hk es σ Q X
  | .or es, σ, Q, X => WOr T hk es σ Q X
  | .cmp op l r, σ, Q, X => WE T hk l σ (fun a σ₁ => WE T hk r σ₁ (fun b σ₂ => cmpW op a b σ₂ Q) X) X
  | .cmp2 o1 o2 l m r, σ, Q, X => WE T hk l σ (fun a σ₁ => WE T hk m σ₁ (fun b σ₂ => cmpW o1 a b σ₂ fun c σ₃ => match c with
      | .bool t => if t then WE T hk r σ₃ (fun d σ₄ => cmpW o2 b d σ₄ Q) X else Q (.bool false) σ₃
      | _ => False) X) X
  | .tup es, σ, Q, X => WEs T hk es σ (fun vs σ₁ => Small vs.length ∧ Q (.tup vs) σ₁) X
  | .lst es, σ, Q, X => WEs T hk es σ (fun vs σ₁ => newL vs σ₁ Q) X
  | .dict ks es, σ, Q, X => WEs T hk es σ (fun vs σ₁ => ks.length = vs.length ∧ ks.Nodup ∧ ks.length ≤ 15 ∧ ∀ a, σ₁.H a = none → Q (.dct a) { σ₁ with H := σ₁.H.upd a (.dct (ks.zip vs)) }) X
  | .idx e i, σ, Q, X => WE T hk e σ (fun o σ₁ => WE T hk i σ₁ (fun k σ₂ => idxW o k σ₂ Q) X) X
  | .slc e lo hi, σ, Q, X => WE T hk e σ (fun o σ₁ => WE T hk lo σ₁ (fun a σ₂ => WE T hk hi σ₂ (fun b σ₃ => slcW o a b σ₃ Q) X) X) X
  | .rev e, σ, Q, X => WE T hk e σ (fun o σ₁ => revW o σ₁ Q) X
  | .call f as, σ, Q, X => WE T hk f σ (fun fv σ₁ => callable fv = true ∧ WEs T hk as σ₁ (fun vs σ₂ => callW T hk fv vs σ₂ Q X) X) X
  | .meth o m as, σ, Q, X => WE T hk o σ (fun ov σ₁ => ready T σ₁.H ov m = true ∧ WEs T hk as σ₁ (fun vs σ₂ => methW T hk ov m vs σ₂ Q X) X) X
  | .attr o k, σ, Q, X => WE T hk o σ (fun ov σ₁ => attrW ov k σ₁ Q) X
  | .key o k, σ, Q, X => WE T hk o σ (fun ov σ₁ => keyW ov k σ₁ Q) X
  | .comp nc elt t it ifs, σ, Q, X => WE T hk it σ (fun iv σ₁ => σ₁.hd = false ∧ need (src σ₁.H iv) fun vs =>
      compW (fun σ₂ => src σ₂.H iv = some vs)
        (fun v σ₂ k => asgW t v σ₂ fun σ₃ => WAll T hk ifs σ₃ (fun b σ₄ => if b then WE T hk elt σ₄ (fun x σ₅ => k (some x) σ₅) noX else k none σ₄) noX)
        vs [] { σ₁ with cv := List.replicate nc none }
        (fun acc σ₂ => ∀ a, σ₂.H a = none → Q (.lst a) { σ₂ with cv := σ₁.cv, H := σ₂.H.upd a (.lst acc) })) X

noncomputable def WEs (T : Tab) (hk : Hook) : List ME → AS → (List AV → AS → Prop) → (Nat → AS → Prop) → Prop
  | [], σ, Q, _ => Q [] σ
  | e :: es, σ, Q, X => WE T hk e σ (fun v σ₁ => WEs T hk es σ₁ (fun vs σ₂ => Q (v :: vs) σ₂) X) X

noncomputable def WAnd (T : Tab) (hk : Hook) : List ME → AS → (AV → AS → Prop) → (Nat → AS → Prop) → Prop
  | [], _, _, _ => False
  | [e], σ, Q, X => WE T hk e σ Q X
  | e :: e' :: es, σ, Q, X => WE T hk e σ (fun v σ₁ => need (truth σ₁.H v) fun b => if b then WAnd T hk (e' :: es) σ₁ Q X else Q v σ₁) X

noncomputable def WOr (T : Tab) (hk : Hook) : List ME → AS → (AV → AS → Prop) → (Nat → AS → Prop) → Prop
  | [], _, _, _ => False
  | [e], σ, Q, X => WE T hk e σ Q X
  | e :: e' :: es, σ, Q, X => WE T hk e σ (fun v σ₁ => need (truth σ₁.H v) fun b => if b then Q v σ₁ else WOr T hk (e' :: es) σ₁ Q X) X

/-- a test -/
noncomputable def WT (T : Tab) (hk : Hook) : MT → AS → (Bool → AS → Prop) → (Nat → AS → Prop) → Prop
  | .not e, σ, Q, X => WT T hk e σ (fun b σ₁ => Q (!b) σ₁) X
  | .all es, σ, Q, X => WAll T hk es σ Q X
  | .any es, σ, Q, X => WAny T hk es σ Q X
  | .e e, σ, Q, X => WE T hk e σ (fun v σ₁ => need (truth σ₁.H v) fun b => Q b σ₁) X

noncomputable def WAll (T : Tab) (hk : Hook) : List MT → AS → (Bool → AS → Prop) → (Nat → AS → Prop) → Prop
  | [], σ, Q, _ => Q true σ
  | e :: es, σ, Q, X => WT T hk e σ (fun b σ₁ => if b then WAll T hk es σ₁ Q X else Q false σ₁) X

noncomputable def WAny (T : Tab) (hk : Hook) : List MT → AS → (Bool → AS → Prop) → (Nat → AS → Prop) → Prop
  | [], σ, Q, _ => Q false σ
  | e :: es, σ, Q, X => WT T hk e σ (fun b σ₁ => if b then Q true σ₁ else WAny T hk es σ₁ Q X) X
end

mutual
noncomputable def WS (T : Tab) (hk : Hook) : MS → AS → (Out → AS → Prop) → (Nat → AS → Prop) → Prop
  | .pass, σ, Q, _ => Q .next σ
  | .expr e, σ, Q, X => WE T hk e σ (fun v σ₁ => isNone v = true ∧ Q .next σ₁) X
  | .ret e, σ, Q, X => WE T hk e σ (fun v σ₁ => Q (.ret v) σ₁) X
  | .asg t e, σ, Q, X => WE T hk e σ (fun v σ₁ => asgW t v σ₁ fun σ₂ => Q .next σ₂) X
  | .setIdx o i e, σ, Q, X => WE T hk e σ (fun v σ₁ => WE T hk o σ₁ (fun ov σ₂ => WE T hk i σ₂ (fun iv σ₃ => match ov, iv with
      | .lst a, .int k => 0 ≤ k ∧ need (getL σ₃.H a) fun vs => k < vs.length ∧ Q .next { σ₃ with H := σ₃.H.upd a (.lst (vs.set k.toNat v)) }
      | _, _ => False) X) X) X
  | .setKey o k e, σ, Q, X => WE T hk e σ (fun v σ₁ => WE T hk o σ₁ (fun ov σ₂ => match ov with
      | .dct a => need (getD σ₂.H a) fun kvs => (kvs.lookup k).isSome = true ∧ Q .next { σ₂ with H := σ₂.H.upd a (.dct (kvSet kvs k v)) }
      | _ => False) X) X
  | .setAttr o k e, σ, Q, X => WE T hk e σ (fun v σ₁ => WE T hk o σ₁ (fun ov σ₂ => match ov with
      | .obj _ _ d => need (getD σ₂.H d) fun kvs => kvs.length ≤ 20 ∧ Q .next { σ₂ with H := σ₂.H.upd d (.dct (kvSet kvs k v)) }
      | _ => False) X) X
  | .ite c b o, σ, Q, X => WT T hk c σ (fun t σ₁ => if t then WSs T hk b σ₁ Q X else WSs T hk o σ₁ Q X) X
  | .for t it b, σ, Q, X => WE T hk it σ (fun iv σ₁ => σ₁.hd = false ∧ need (src σ₁.H iv) fun vs =>
      forW (fun σ₂ => src σ₂.H iv = some vs) (fun v σ₂ k => asgW t v σ₂ fun σ₃ => WSs T hk b σ₃ k X) vs σ₁ Q) X
  | .while c b, σ, Q, _ => ∃ I : Nat → AS → Prop, (∃ n, I n σ) ∧ ∀ n σ₁, I n σ₁ → WT T hk c σ₁ (fun t σ₂ => if t then WSs T hk b σ₂ (fun o σ₃ => match o with
      | .next => ∃ m, m < n ∧ I m σ₃
      | .ret v => Q (.ret v) σ₃) noX else Q .next σ₂) noX
  | .raise c _, σ, _, X => σ.hd = false ∧ X c σ
  | .try b c n h, σ, Q, _ => σ.hd = false ∧ WSs T hk b σ Q fun c' σ₁ => σ₁.hd = false ∧ subCls c' c = true ∧ ∀ a,
      WSs T hk h { σ₁ with loc := σ₁.loc.set n (some (.exc c' a)), hd := true } (fun o σ₂ => Q o { σ₂ with loc := σ₂.loc.set n none, hd := false }) noX

noncomputable def WSs (T : Tab) (hk : Hook) : List MS → AS → (Out → AS → Prop) → (Nat → AS → Prop) → Prop
  | [], σ, Q, _ => Q .next σ
  | s :: ss, σ, Q, X => WS T hk s σ (fun o σ₁ => match o with
    | .next => WSs T hk ss σ₁ Q X
    | .ret v => Q (.ret v) σ₁) X
end

/-- what a call hands back -/
noncomputable def outV : Out → AV
  | .next => .none
  | .ret v => v

noncomputable def CallN (T : Tab) : Nat → Hook
  | 0, _, _, _, _, _, _ => False
  | n + 1, f, as, H, hd, Q, X => need (T.funs f) fun d => as.length = d.args ∧
    WSs T (CallN T n) d.body ⟨as.map some ++ List.replicate (d.locs - d.args) none, [], H, hd⟩ (fun o σ => Q (outV o) σ.H) (fun c σ => X c σ.H)

end Mine
end
section
open PySem
namespace Mine
noncomputable abbrev F.is_among : Nat := 0
noncomputable abbrev F.is_plan : Nat := 1
noncomputable abbrev F.need_plan : Nat := 2
noncomputable abbrev F.need_sign : Nat := 3
noncomputable abbrev F.need_signs : Nat := 4
noncomputable abbrev F.share : Nat := 5
noncomputable abbrev F.behind : Nat := 6
noncomputable abbrev F.l_cell_at : Nat := 7
noncomputable abbrev F.l_mixed : Nat := 8
noncomputable abbrev F.l_whole : Nat := 9
noncomputable abbrev F.l_plan : Nat := 10
noncomputable abbrev F.l_behind : Nat := 11
noncomputable abbrev F.l_signs : Nat := 12
noncomputable abbrev F.l_stretch : Nat := 13
noncomputable abbrev F.l_within : Nat := 14
noncomputable abbrev F.l_word : Nat := 15
noncomputable abbrev F.l_no_plan : Nat := 17
noncomputable abbrev F.parted : Nat := 20
noncomputable abbrev F.within : Nat := 21
noncomputable abbrev F.stretch_of : Nat := 22
noncomputable abbrev F.need_figures : Nat := 23
noncomputable abbrev F.figured : Nat := 24
noncomputable abbrev F.spelled : Nat := 35
noncomputable abbrev F.figures_in : Nat := 36
noncomputable abbrev F.pressed : Nat := 37
noncomputable abbrev F.need_many : Nat := 42
noncomputable abbrev F.next_sign : Nat := 43
noncomputable abbrev F.certain : Nat := 44
noncomputable abbrev F.read : Nat := 45
noncomputable abbrev F.l_sure : Nat := 47
noncomputable abbrev F.Reader_init : Nat := 53
noncomputable abbrev F.Reader_take : Nat := 54
noncomputable abbrev F.Reader_told : Nat := 55
noncomputable abbrev F.Reader_lacking : Nat := 56
noncomputable abbrev F.figures_around : Nat := 64
noncomputable abbrev F.Writer_init : Nat := 65
noncomputable abbrev F.Writer_need_open : Nat := 66
noncomputable abbrev F.Writer_fresh : Nat := 67
noncomputable abbrev F.Writer_take : Nat := 68
noncomputable abbrev F.Writer_end : Nat := 69
noncomputable abbrev F.Writer_told : Nat := 70
noncomputable abbrev F.l_fewest09 : Nat := 71
noncomputable abbrev F.l_refused09 : Nat := 72
noncomputable abbrev F.l_edge09 : Nat := 73
noncomputable abbrev F.l_made09 : Nat := 74
noncomputable abbrev F.l_take09 : Nat := 75
noncomputable abbrev F.l_end : Nat := 76
noncomputable abbrev F.l_seen09 : Nat := 77
noncomputable abbrev F.law09 : Nat := 78
noncomputable abbrev Ky.plan : Nat := 0
noncomputable abbrev Ky.many : Nat := 1
noncomputable abbrev Ky.came : Nat := 2
noncomputable abbrev Ky.signs : Nat := 3
noncomputable abbrev Ky.given : Nat := 4
noncomputable abbrev Ky.has_ended : Nat := 5
noncomputable abbrev Ky.reader : Nat := 6
noncomputable abbrev Ky.row : Nat := 7
noncomputable abbrev Ky.taken : Nat := 8
noncomputable abbrev Ky.shown : Nat := 9
noncomputable abbrev Ky.writer : Nat := 10
noncomputable abbrev Ky.figures : Nat := 11
noncomputable abbrev Ky.over : Nat := 12
noncomputable abbrev Mt.take : Nat := 3
noncomputable abbrev Mt.told : Nat := 4
noncomputable abbrev Mt.lacking : Nat := 5
noncomputable abbrev Mt.end_ : Nat := 6
noncomputable abbrev Mt.need_open : Nat := 7
noncomputable abbrev Mt.fresh : Nat := 8
/- 0 thing, 1 least, 2 most -/
noncomputable def D.is_among : FunDef := ⟨3, 6, [
  .ret (.and [(.call (.gbi Bi.isinstance) [(.loc 0), (.gty Ty.int)]), (.not (.call (.gbi Bi.isinstance) [(.loc 0), (.gty Ty.bool)])), (.cmp2 .le .le (.loc 1) (.loc 0) (.loc 2))])]⟩
/- 0 thing, 1 count -/
noncomputable def D.is_plan : FunDef := ⟨1, 9, [
  .ite (.any [(.not (.e (.call (.gbi Bi.isinstance) [(.loc 0), (.gty Ty.tuple)]))), (.e (.cmp .ne (.call (.gbi Bi.len) [(.loc 0)]) (.cInt 2))), (.not (.e (.call (.gbi Bi.isinstance) [(.idx (.loc 0) (.cInt 0)), (.gty Ty.tuple)])))]) [
    .ret (.cBool false)] [],
  .ite (.not (.e (.cmp2 .le .le (.gint 2) (.call (.gbi Bi.len) [(.idx (.loc 0) (.cInt 0))]) (.gint 8)))) [
    .ret (.cBool false)] [],
  .for (.loc 1) (.idx (.loc 0) (.cInt 0)) [
    .ite (.not (.e (.call (.gfn F.is_among) [(.loc 1), (.cInt 1), (.gint 1000000)]))) [
      .ret (.cBool false)] []],
  .ret (.call (.gfn F.is_among) [(.idx (.loc 0) (.cInt 1)), (.cInt 0), (.gint 1000000)])]⟩
/- 0 plan -/
noncomputable def D.need_plan : FunDef := ⟨1, 3, [
  .ite (.not (.e (.call (.gfn F.is_plan) [(.loc 0)]))) [
    .raise Cl.BadPlan (Str.ofString "that is no plan")] []]⟩
/- 0 plan, 1 sign -/
noncomputable def D.need_sign : FunDef := ⟨2, 5, [
  .ite (.not (.e (.call (.gfn F.is_among) [(.loc 1), (.cInt 0), (.bin .sub (.call (.gbi Bi.len) [(.idx (.loc 0) (.cInt 0))]) (.cInt 1))]))) [
    .raise Cl.BadSign (Str.ofString "that is no sign")] []]⟩
/- 0 plan, 1 signs, 2 sign -/
noncomputable def D.need_signs : FunDef := ⟨2, 10, [
  .expr (.call (.gfn F.need_plan) [(.loc 0)]),
  .ite (.any [(.not (.e (.call (.gbi Bi.isinstance) [(.loc 1), (.gty Ty.list)]))), (.e (.cmp .gt (.call (.gbi Bi.len) [(.loc 1)]) (.gint 60)))]) [
    .raise Cl.BadSign (Str.ofString "that is no text")] [],
  .for (.loc 2) (.loc 1) [
    .expr (.call (.gfn F.need_sign) [(.loc 0), (.loc 2)])]]⟩
/- 0 plan, 1 sign, 2 counts -/
noncomputable def D.share : FunDef := ⟨2, 6, [
  .expr (.call (.gfn F.need_plan) [(.loc 0)]),
  .expr (.call (.gfn F.need_sign) [(.loc 0), (.loc 1)]),
  .asg (.loc 2) (.idx (.loc 0) (.cInt 0)),
  .ret (.tup [(.call (.gbi Bi.sum) [(.slc (.loc 2) .cNone (.loc 1))]), (.idx (.loc 2) (.loc 1)), (.call (.gbi Bi.sum) [(.loc 2)])])]⟩
/- 0 plan, 1 sign, 2 counts, 3 gain, 4 more -/
noncomputable def D.behind : FunDef := ⟨2, 9, [
  .expr (.call (.gfn F.need_plan) [(.loc 0)]),
  .expr (.call (.gfn F.need_sign) [(.loc 0), (.loc 1)]),
  .asg (.tupl [2, 3]) (.loc 0),
  .asg (.loc 4) (.call (.gbi Bi.min) [(.gint 1000000), (.bin .add (.idx (.loc 2) (.loc 1)) (.loc 3))]),
  .ret (.tup [(.bin .add (.bin .add (.slc (.loc 2) .cNone (.loc 1)) (.tup [(.loc 4)])) (.slc (.loc 2) (.bin .add (.loc 1) (.cInt 1)) .cNone)), (.loc 3)])]⟩
/- 0 _law_script, 1 _law_k -/
noncomputable def D.l_cell_at : FunDef := ⟨2, 3, [
  .ite (.e (.cmp .lt (.loc 1) (.call (.gbi Bi.len) [(.loc 0)]))) [
    .ret (.bin .add (.idx (.loc 0) (.loc 1)) (.bin .mul (.bin .mod (.idx (.loc 0) (.loc 1)) (.cInt 251)) (.cInt 381840)))] [],
  .ret (.cInt 0)]⟩
/- 0 _law_cell, 1 _law_k -/
noncomputable def D.l_mixed : FunDef := ⟨2, 2, [
  .ret (.bin .mod (.bin .add (.bin .add (.bin .mul (.loc 0) (.bin .add (.bin .add (.cInt 48271) (.bin .mul (.bin .mul (.cInt 7919) (.loc 1)) (.loc 1))) (.bin .mul (.cInt 104729) (.loc 1)))) (.bin .mul (.cInt 7919) (.loc 1))) (.cInt 12345)) (.cInt 2147483647))]⟩
/- 0 _law_found -/
noncomputable def D.l_whole : FunDef := ⟨1, 4, [
  .ret (.and [(.call (.gbi Bi.isinstance) [(.loc 0), (.gty Ty.int)]), (.not (.call (.gbi Bi.isinstance) [(.loc 0), (.gty Ty.bool)]))])]⟩
/- 0 _law_cell*, 1 _law_most*, 2 _law_counts -/
noncomputable def D.l_plan : FunDef := ⟨1, 6, [
  .asg (.loc 1) (.idx (.lst [(.cInt 3), (.cInt 9), (.cInt 1000), (.cInt 1000000)]) (.bin .mod (.bin .fdiv (.loc 0) (.cInt 7)) (.cInt 4))),
  .asg (.loc 2) (.comp 5 (.bin .add (.cInt 1) (.bin .mod (.call (.gfn F.l_mixed) [(.bin .fdiv (.loc 0) (.cInt 112)), (.cv 1)]) (.loc 1))) (.cv 1) (.call (.gty Ty.range) [(.bin .add (.cInt 2) (.bin .mod (.loc 0) (.cInt 7)))]) []),
  .ite (.e (.cmp .eq (.bin .mod (.bin .fdiv (.loc 0) (.cInt 28)) (.cInt 4)) (.cInt 3))) [
    .setIdx (.loc 2) (.bin .mod (.bin .fdiv (.loc 0) (.cInt 112)) (.call (.gbi Bi.len) [(.loc 2)])) (.bin .sub (.cInt 1000000) (.bin .mod (.bin .fdiv (.loc 0) (.cInt 300)) (.cInt 3)))] [],
  .ret (.tup [(.call (.gty Ty.tuple) [(.loc 2)]), (.idx (.lst [(.cInt 0), (.cInt 1), (.cInt 7), (.bin .mod (.bin .fdiv (.loc 0) (.cInt 112)) (.cInt 1000001))]) (.bin .mod (.bin .fdiv (.loc 0) (.cInt 28)) (.cInt 4)))])]⟩
/- 0 _law_plan_here, 1 _law_sign, 2 _law_counts -/
noncomputable def D.l_behind : FunDef := ⟨2, 6, [
  .asg (.loc 2) (.call (.gty Ty.list) [(.idx (.loc 0) (.cInt 0))]),
  .setIdx (.loc 2) (.loc 1) (.call (.gbi Bi.min) [(.cInt 1000000), (.bin .add (.idx (.loc 2) (.loc 1)) (.idx (.loc 0) (.cInt 1)))]),
  .ret (.tup [(.call (.gty Ty.tuple) [(.loc 2)]), (.idx (.loc 0) (.cInt 1))])]⟩
/- 0 _law_cell, 1 _law_plan_here, 2 _law_most, 3 _law_size, 4 _law_way, 5 _law_signs_here, 6 _law_k, 7 _law_sign -/
noncomputable def D.l_signs : FunDef := ⟨3, 11, [
  .asg (.loc 3) (.bin .mod (.loc 0) (.bin .add (.loc 2) (.cInt 1))),
  .asg (.loc 4) (.bin .mod (.bin .fdiv (.loc 0) (.cInt 61)) (.cInt 4)),
  .asg (.loc 5) (.lst []),
  .for (.loc 6) (.call (.gty Ty.range) [(.loc 3)]) [
    .asg (.loc 7) (.bin .mod (.call (.gfn F.l_mixed) [(.bin .fdiv (.loc 0) (.cInt 244)), (.loc 6)]) (.call (.gbi Bi.len) [(.idx (.loc 1) (.cInt 0))])),
    .ite (.e (.cmp .eq (.loc 4) (.cInt 1))) [
      .asg (.loc 7) (.bin .mod (.bin .fdiv (.loc 0) (.cInt 244)) (.call (.gbi Bi.len) [(.idx (.loc 1) (.cInt 0))]))] [],
    .ite (.all [(.e (.cmp .eq (.loc 4) (.cInt 2))), (.e (.cmp .lt (.bin .mod (.loc 6) (.cInt 4)) (.cInt 3)))]) [
      .asg (.loc 7) (.cInt 0)] [],
    .expr (.meth (.loc 5) Mt.append [(.loc 7)])],
  .ret (.loc 5)]⟩
/- 0 _law_plan_here, 1 _law_signs_here, 2 _law_low, 3 _law_wide, 4 _law_whole_here, 5 _law_sign, 6 _law_total -/
noncomputable def D.l_stretch : FunDef := ⟨2, 9, [
  .asg (.tupl [2, 3, 4]) (.tup [(.cInt 0), (.cInt 1), (.cInt 1)]),
  .for (.loc 5) (.loc 1) [
    .asg (.loc 6) (.call (.gbi Bi.sum) [(.idx (.loc 0) (.cInt 0))]),
    .asg (.loc 2) (.bin .add (.bin .mul (.loc 2) (.loc 6)) (.bin .mul (.loc 3) (.call (.gbi Bi.sum) [(.slc (.idx (.loc 0) (.cInt 0)) .cNone (.loc 5))]))),
    .asg (.loc 3) (.bin .mul (.loc 3) (.idx (.idx (.loc 0) (.cInt 0)) (.loc 5))),
    .asg (.loc 4) (.bin .mul (.loc 4) (.loc 6)),
    .asg (.loc 0) (.call (.gfn F.l_behind) [(.loc 0), (.loc 5)])],
  .ret (.tup [(.loc 2), (.loc 3), (.loc 4)])]⟩
/- 0 _law_one, 1 _law_other, 2 _law_first, 3 _law_last -/
noncomputable def D.l_within : FunDef := ⟨2, 4, [
  .asg (.loc 2) (.bin .sub (.bin .mul (.idx (.loc 0) (.cInt 0)) (.idx (.loc 1) (.cInt 2))) (.bin .mul (.idx (.loc 1) (.cInt 0)) (.idx (.loc 0) (.cInt 2)))),
  .asg (.loc 3) (.bin .sub (.bin .mul (.bin .add (.idx (.loc 1) (.cInt 0)) (.idx (.loc 1) (.cInt 1))) (.idx (.loc 0) (.cInt 2))) (.bin .mul (.bin .add (.idx (.loc 0) (.cInt 0)) (.idx (.loc 0) (.cInt 1))) (.idx (.loc 1) (.cInt 2)))),
  .ret (.and [(.cmp .ge (.loc 2) (.cInt 0)), (.cmp .ge (.loc 3) (.cInt 0))])]⟩
/- 0 _law_e, 1 _law_words -/
noncomputable def D.l_word : FunDef := ⟨1, 10, [
  .asg (.loc 1) (.bin .add (.bin .mul (.lst [(.cStr (Str.ofString "plan"))]) (.call (.gty Ty.int) [(.call (.gbi Bi.isinstance) [(.loc 0), (.gcls Cl.BadPlan)])])) (.bin .mul (.lst [(.cStr (Str.ofString "sign"))]) (.call (.gty Ty.int) [(.call (.gbi Bi.isinstance) [(.loc 0), (.gcls Cl.BadSign)])]))),
  .asg (.loc 1) (.bin .add (.bin .add (.loc 1) (.bin .mul (.lst [(.cStr (Str.ofString "count"))]) (.call (.gty Ty.int) [(.call (.gbi Bi.isinstance) [(.loc 0), (.gcls Cl.BadCount)])]))) (.bin .mul (.lst [(.cStr (Str.ofString "figures"))]) (.call (.gty Ty.int) [(.call (.gbi Bi.isinstance) [(.loc 0), (.gcls Cl.BadFigures)])]))),
  .ret (.lst [(.bin .mul (.meth (.cStr (Str.ofString " ")) Mt.join [(.bin .add (.loc 1) (.bin .mul (.lst [(.cStr (Str.ofString "ended"))]) (.call (.gty Ty.int) [(.call (.gbi Bi.isinstance) [(.loc 0), (.gcls Cl.Ended)])])))]) (.call (.gty Ty.int) [(.call (.gbi Bi.isinstance) [(.loc 0), (.gty Ty.valueError)])]))])]⟩
/- 0 _law_plan_here, 1 _law_cell, 2 _law_counts*, 3 _law_gain*, 4 _law_far, 5 _law_at*, 6 _law_bad, 7 _law_some -/
noncomputable def D.l_no_plan : FunDef := ⟨2, 10, [
  .asg (.tupl [2, 3]) (.loc 0),
  .asg (.loc 4) (.bin .mod (.bin .fdiv (.loc 1) (.cInt 14)) (.bin .pow (.cInt 10) (.cInt 20))),
  .asg (.loc 5) (.bin .mod (.bin .fdiv (.loc 1) (.cInt 14)) (.call (.gbi Bi.len) [(.loc 2)])),
  .asg (.loc 6) (.comp 4 (.bin .add (.bin .add (.slc (.loc 2) .cNone (.loc 5)) (.tup [(.cv 1)])) (.slc (.loc 2) (.bin .add (.loc 5) (.cInt 1)) .cNone)) (.cv 1) (.lst [(.cInt 0), (.bin .add (.cInt 1000001) (.loc 4)), (.cBool true), (.cStr (Str.ofString "1")), .cNone, (.bin .sub (.neg (.cInt 1)) (.loc 4))]) []),
  .asg (.loc 7) (.bin .add (.comp 3 (.tup [(.cv 1), (.loc 3)]) (.cv 1) (.loc 6) []) (.lst [(.tup [(.loc 2), (.neg (.cInt 1))]), (.tup [(.loc 2), (.bin .add (.cInt 1000001) (.loc 4))]), (.tup [(.loc 2), (.cBool true)]), (.tup [(.call (.gty Ty.list) [(.loc 2)]), (.loc 3)])])),
  .ret (.idx (.bin .add (.loc 7) (.lst [(.lst [(.loc 2), (.loc 3)]), (.tup [(.loc 2)]), (.tup [(.slc (.loc 2) .cNone (.cInt 1)), (.loc 3)]), (.tup [(.bin .mul (.tup [(.cInt 1)]) (.cInt 9)), (.loc 3)])])) (.bin .mod (.loc 1) (.cInt 14)))]⟩
/- 0 stretch, 1 one, 2 low, 3 wide, 4 whole, 5 below, 6 count, 7 total -/
noncomputable def D.parted : FunDef := ⟨2, 8, [
  .asg (.tupl [2, 3, 4]) (.loc 0),
  .asg (.tupl [5, 6, 7]) (.loc 1),
  .ret (.tup [(.bin .add (.bin .mul (.loc 2) (.loc 7)) (.bin .mul (.loc 3) (.loc 5))), (.bin .mul (.loc 3) (.loc 6)), (.bin .mul (.loc 4) (.loc 7))])]⟩
/- 0 one, 1 other -/
noncomputable def D.within : FunDef := ⟨2, 2, [
  .ite (.e (.cmp .lt (.bin .mul (.idx (.loc 0) (.cInt 0)) (.idx (.loc 1) (.cInt 2))) (.bin .mul (.idx (.loc 1) (.cInt 0)) (.idx (.loc 0) (.cInt 2))))) [
    .ret (.cBool false)] [],
  .ret (.cmp .le (.bin .mul (.bin .add (.idx (.loc 0) (.cInt 0)) (.idx (.loc 0) (.cInt 1))) (.idx (.loc 1) (.cInt 2))) (.bin .mul (.bin .add (.idx (.loc 1) (.cInt 0)) (.idx (.loc 1) (.cInt 1))) (.idx (.loc 0) (.cInt 2))))]⟩
/- 0 plan, 1 signs, 2 found, 3 sign -/
noncomputable def D.stretch_of : FunDef := ⟨2, 9, [
  .expr (.call (.gfn F.need_signs) [(.loc 0), (.loc 1)]),
  .asg (.loc 2) (.gtup [0, 1, 1]),
  .for (.loc 3) (.loc 1) [
    .asg (.loc 2) (.call (.gfn F.parted) [(.loc 2), (.call (.gfn F.share) [(.loc 0), (.loc 3)])]),
    .asg (.loc 0) (.call (.gfn F.behind) [(.loc 0), (.loc 3)])],
  .ret (.loc 2)]⟩
/- 0 figures, 1 figure -/
noncomputable def D.need_figures : FunDef := ⟨1, 8, [
  .ite (.any [(.not (.e (.call (.gbi Bi.isinstance) [(.loc 0), (.gty Ty.list)]))), (.e (.cmp .gt (.call (.gbi Bi.len) [(.loc 0)]) (.gint 4000)))]) [
    .raise Cl.BadFigures (Str.ofString "those are no figures")] [],
  .for (.loc 1) (.loc 0) [
    .ite (.not (.e (.call (.gfn F.is_among) [(.loc 1), (.cInt 0), (.cInt 1)]))) [
      .raise Cl.BadFigures (Str.ofString "that is no figure")] []]]⟩
/- 0 figures, 1 number, 2 whole, 3 figure -/
noncomputable def D.figured : FunDef := ⟨1, 5, [
  .expr (.call (.gfn F.need_figures) [(.loc 0)]),
  .asg (.loc 1) (.cInt 0),
  .asg (.loc 2) (.cInt 1),
  .for (.loc 3) (.loc 0) [
    .asg (.loc 1) (.bin .add (.bin .mul (.cInt 2) (.loc 1)) (.loc 3)),
    .asg (.loc 2) (.bin .mul (.cInt 2) (.loc 2))],
  .ret (.tup [(.loc 1), (.cInt 1), (.loc 2)])]⟩
/- 0 number, 1 many, 2 found, 3 turn -/
noncomputable def D.spelled : FunDef := ⟨2, 5, [
  .asg (.loc 2) (.lst []),
  .for (.loc 3) (.call (.gty Ty.range) [(.loc 1)]) [
    .expr (.meth (.loc 2) Mt.append [(.bin .mod (.loc 0) (.cInt 2))]),
    .asg (.loc 0) (.bin .fdiv (.loc 0) (.cInt 2))],
  .ret (.rev (.loc 2))]⟩
/- 0 stretch, 1 low, 2 wide, 3 whole, 4 many, 5 parts, 6 number -/
noncomputable def D.figures_in : FunDef := ⟨1, 8, [
  .asg (.tupl [1, 2, 3]) (.loc 0),
  .asg (.loc 4) (.cInt 0),
  .asg (.loc 5) (.cInt 1),
  .while (.e (.cBool true)) [
    .ite (.e (.cmp .ge (.bin .mul (.loc 5) (.loc 2)) (.loc 3))) [
      .asg (.loc 6) (.neg (.bin .fdiv (.bin .mul (.neg (.loc 1)) (.loc 5)) (.loc 3))),
      .ite (.e (.cmp .le (.bin .mul (.bin .add (.loc 6) (.cInt 1)) (.loc 3)) (.bin .mul (.bin .add (.loc 1) (.loc 2)) (.loc 5)))) [
        .ret (.call (.gfn F.spelled) [(.loc 6), (.loc 4)])] []] [],
    .asg (.loc 4) (.bin .add (.loc 4) (.cInt 1)),
    .asg (.loc 5) (.bin .mul (.cInt 2) (.loc 5))]]⟩
/- 0 plan, 1 signs -/
noncomputable def D.pressed : FunDef := ⟨2, 4, [
  .ret (.call (.gfn F.figures_in) [(.call (.gfn F.stretch_of) [(.loc 0), (.loc 1)])])]⟩
/- 0 many -/
noncomputable def D.need_many : FunDef := ⟨1, 4, [
  .ite (.not (.e (.call (.gfn F.is_among) [(.loc 0), (.cInt 0), (.gint 60)]))) [
    .raise Cl.BadCount (Str.ofString "no number of signs")] []]⟩
/- 0 plan, 1 stretch, 2 goal, 3 sign -/
noncomputable def D.next_sign : FunDef := ⟨3, 9, [
  .for (.loc 3) (.call (.gty Ty.range) [(.call (.gbi Bi.len) [(.idx (.loc 0) (.cInt 0))])]) [
    .ite (.e (.call (.gfn F.within) [(.loc 2), (.call (.gfn F.parted) [(.loc 1), (.call (.gfn F.share) [(.loc 0), (.loc 3)])])])) [
      .ret (.loc 3)] []],
  .ret .cNone]⟩
/- 0 plan, 1 many, 2 figures, 3 goal, 4 stretch, 5 found, 6 sign -/
noncomputable def D.certain : FunDef := ⟨3, 16, [
  .expr (.call (.gfn F.need_plan) [(.loc 0)]),
  .expr (.call (.gfn F.need_many) [(.loc 1)]),
  .asg (.loc 3) (.call (.gfn F.figured) [(.loc 2)]),
  .asg (.loc 4) (.gtup [0, 1, 1]),
  .asg (.loc 5) (.lst []),
  .while (.e (.cmp .lt (.call (.gbi Bi.len) [(.loc 5)]) (.loc 1))) [
    .asg (.loc 6) (.call (.gfn F.next_sign) [(.loc 0), (.loc 4), (.loc 3)]),
    .ite (.e (.cmp .is (.loc 6) .cNone)) [
      .ret (.loc 5)] [],
    .asg (.loc 4) (.call (.gfn F.parted) [(.loc 4), (.call (.gfn F.share) [(.loc 0), (.loc 6)])]),
    .asg (.loc 0) (.call (.gfn F.behind) [(.loc 0), (.loc 6)]),
    .expr (.meth (.loc 5) Mt.append [(.loc 6)])],
  .ret (.loc 5)]⟩
/- 0 plan, 1 many, 2 figures, 3 found -/
noncomputable def D.read : FunDef := ⟨3, 7, [
  .asg (.loc 3) (.call (.gfn F.certain) [(.loc 0), (.loc 1), (.loc 2)]),
  .ite (.e (.cmp .lt (.call (.gbi Bi.len) [(.loc 3)]) (.loc 1))) [
    .raise Cl.BadFigures (Str.ofString "figures that tell too little")] [],
  .ret (.loc 3)]⟩
/- 0 _law_plan_here, 1 _law_signs_here, 2 _law_stretch_here, 3 _law_number, 4 _law_size, 5 _law_figures, 6 _law_some, 7 _law_one, 8 _law_half -/
noncomputable def D.l_sure : FunDef := ⟨2, 11, [
  .asg (.loc 2) (.call (.gfn F.l_stretch) [(.loc 0), (.loc 1)]),
  .asg (.loc 3) (.cInt 0),
  .asg (.loc 4) (.cInt 1),
  .asg (.loc 5) (.lst []),
  .while (.e (.cBool true)) [
    .asg (.loc 6) (.lst []),
    .for (.loc 7) (.tup [(.cInt 0), (.cInt 1)]) [
      .asg (.loc 8) (.tup [(.bin .add (.bin .mul (.cInt 2) (.loc 3)) (.loc 7)), (.cInt 1), (.bin .mul (.cInt 2) (.loc 4))]),
      .ite (.e (.call (.gfn F.l_within) [(.loc 2), (.loc 8)])) [
        .expr (.meth (.loc 6) Mt.append [(.loc 7)])] []],
    .ite (.e (.cmp .eq (.loc 6) (.lst []))) [
      .ret (.loc 5)] [],
    .expr (.meth (.loc 5) Mt.append [(.idx (.loc 6) (.cInt 0))]),
    .asg (.loc 3) (.bin .add (.bin .mul (.cInt 2) (.loc 3)) (.idx (.loc 6) (.cInt 0))),
    .asg (.loc 4) (.bin .mul (.cInt 2) (.loc 4))]]⟩
/- 0 self, 1 plan, 2 many -/
noncomputable def D.Reader_init : FunDef := ⟨3, 5, [
  .expr (.call (.gfn F.need_plan) [(.loc 1)]),
  .expr (.call (.gfn F.need_many) [(.loc 2)]),
  .setAttr (.loc 0) Ky.plan (.loc 1),
  .setAttr (.loc 0) Ky.many (.loc 2),
  .setAttr (.loc 0) Ky.came (.lst []),
  .setAttr (.loc 0) Ky.signs (.lst [])]⟩
/- 0 self, 1 figures, 2 came, 3 found, 4 fresh -/
noncomputable def D.Reader_take : FunDef := ⟨2, 10, [
  .ite (.not (.e (.call (.gbi Bi.isinstance) [(.loc 1), (.gty Ty.list)]))) [
    .raise Cl.BadFigures (Str.ofString "no list of figures")] [],
  .asg (.loc 2) (.bin .add (.attr (.loc 0) Ky.came) (.loc 1)),
  .asg (.loc 3) (.call (.gfn F.certain) [(.attr (.loc 0) Ky.plan), (.attr (.loc 0) Ky.many), (.loc 2)]),
  .asg (.loc 4) (.slc (.loc 3) (.call (.gbi Bi.len) [(.attr (.loc 0) Ky.signs)]) .cNone),
  .setAttr (.loc 0) Ky.came (.loc 2),
  .setAttr (.loc 0) Ky.signs (.loc 3),
  .ret (.loc 4)]⟩
/- 0 self -/
noncomputable def D.Reader_told : FunDef := ⟨1, 2, [
  .ret (.call (.gty Ty.list) [(.attr (.loc 0) Ky.signs)])]⟩
/- 0 self -/
noncomputable def D.Reader_lacking : FunDef := ⟨1, 2, [
  .ret (.bin .sub (.attr (.loc 0) Ky.many) (.call (.gbi Bi.len) [(.attr (.loc 0) Ky.signs)]))]⟩
/- 0 stretch, 1 found, 2 number, 3 parts, 4 going, 5 figure -/
noncomputable def D.figures_around : FunDef := ⟨1, 7, [
  .asg (.loc 1) (.lst []),
  .asg (.loc 2) (.cInt 0),
  .asg (.loc 3) (.cInt 1),
  .asg (.loc 4) (.cBool true),
  .while (.e (.loc 4)) [
    .asg (.loc 3) (.bin .mul (.cInt 2) (.loc 3)),
    .asg (.loc 4) (.cBool false),
    .for (.loc 5) (.tup [(.cInt 0), (.cInt 1)]) [
      .ite (.all [(.not (.e (.loc 4))), (.e (.call (.gfn F.within) [(.loc 0), (.tup [(.bin .add (.bin .mul (.cInt 2) (.loc 2)) (.loc 5)), (.cInt 1), (.loc 3)])]))]) [
        .asg (.loc 2) (.bin .add (.bin .mul (.cInt 2) (.loc 2)) (.loc 5)),
        .expr (.meth (.loc 1) Mt.append [(.loc 5)]),
        .asg (.loc 4) (.cBool true)] []]],
  .ret (.loc 1)]⟩
/- 0 self, 1 plan -/
noncomputable def D.Writer_init : FunDef := ⟨2, 3, [
  .expr (.call (.gfn F.need_plan) [(.loc 1)]),
  .setAttr (.loc 0) Ky.plan (.loc 1),
  .setAttr (.loc 0) Ky.came (.lst []),
  .setAttr (.loc 0) Ky.given (.lst []),
  .setAttr (.loc 0) Ky.has_ended (.cBool false)]⟩
/- 0 self -/
noncomputable def D.Writer_need_open : FunDef := ⟨1, 2, [
  .ite (.e (.attr (.loc 0) Ky.has_ended)) [
    .raise Cl.Ended (Str.ofString "the writer has ended")] []]⟩
/- 0 self, 1 figures, 2 found -/
noncomputable def D.Writer_fresh : FunDef := ⟨2, 5, [
  .asg (.loc 2) (.slc (.loc 1) (.call (.gbi Bi.len) [(.attr (.loc 0) Ky.given)]) .cNone),
  .setAttr (.loc 0) Ky.given (.call (.gty Ty.list) [(.loc 1)]),
  .ret (.loc 2)]⟩
/- 0 self, 1 signs, 2 came -/
noncomputable def D.Writer_take : FunDef := ⟨2, 9, [
  .expr (.meth (.loc 0) Mt.need_open []),
  .ite (.not (.e (.call (.gbi Bi.isinstance) [(.loc 1), (.gty Ty.list)]))) [
    .raise Cl.BadSign (Str.ofString "no list of signs")] [],
  .asg (.loc 2) (.bin .add (.attr (.loc 0) Ky.came) (.loc 1)),
  .expr (.call (.gfn F.need_signs) [(.attr (.loc 0) Ky.plan), (.loc 2)]),
  .setAttr (.loc 0) Ky.came (.loc 2),
  .ret (.meth (.loc 0) Mt.fresh [(.call (.gfn F.figures_around) [(.call (.gfn F.stretch_of) [(.attr (.loc 0) Ky.plan), (.loc 2)])])])]⟩
/- 0 self -/
noncomputable def D.Writer_end : FunDef := ⟨1, 2, [
  .expr (.meth (.loc 0) Mt.need_open []),
  .setAttr (.loc 0) Ky.has_ended (.cBool true),
  .ret (.meth (.loc 0) Mt.fresh [(.call (.gfn F.pressed) [(.attr (.loc 0) Ky.plan), (.attr (.loc 0) Ky.came)])])]⟩
/- 0 self -/
noncomputable def D.Writer_told : FunDef := ⟨1, 2, [
  .ret (.call (.gty Ty.list) [(.attr (.loc 0) Ky.given)])]⟩
/- 0 _law_stretch_here, 1 _law_low, 2 _law_wide, 3 _law_whole_here, 4 _law_last, 5 _law_size, 6 _law_many, 7 _law_number, 8 _law_figures, 9 _law_k -/
noncomputable def D.l_fewest09 : FunDef := ⟨1, 11, [
  .asg (.tupl [1, 2, 3]) (.loc 0),
  .asg (.loc 4) (.bin .add (.loc 1) (.loc 2)),
  .asg (.loc 5) (.cInt 1),
  .asg (.loc 6) (.cInt 0),
  .asg (.loc 7) (.bin .fdiv (.bin .sub (.bin .add (.loc 1) (.loc 3)) (.cInt 1)) (.loc 3)),
  .while (.e (.cmp .gt (.bin .mul (.bin .add (.loc 7) (.cInt 1)) (.loc 3)) (.bin .mul (.loc 4) (.loc 5)))) [
    .asg (.loc 5) (.bin .mul (.cInt 2) (.loc 5)),
    .asg (.loc 6) (.bin .add (.loc 6) (.cInt 1)),
    .asg (.loc 7) (.bin .fdiv (.bin .sub (.bin .add (.bin .mul (.loc 1) (.loc 5)) (.loc 3)) (.cInt 1)) (.loc 3))],
  .asg (.loc 8) (.lst []),
  .for (.loc 9) (.call (.gty Ty.range) [(.loc 6)]) [
    .asg (.loc 5) (.bin .fdiv (.loc 5) (.cInt 2)),
    .expr (.meth (.loc 8) Mt.append [(.bin .mod (.bin .fdiv (.loc 7) (.loc 5)) (.cInt 2))])],
  .ret (.loc 8)]⟩
/- 0 _law_plan_here, 1 _law_cell, 2 _law_e -/
noncomputable def D.l_refused09 : FunDef := ⟨2, 7, [
  .try [
    .expr (.call (.gcls Cl.Writer) [(.call (.gfn F.l_no_plan) [(.loc 0), (.loc 1)])])] Cl.PressError 2 [
    .ret (.cmp .eq (.call (.gfn F.l_word) [(.loc 2)]) (.lst [(.cStr (Str.ofString "plan"))]))],
  .ret (.cBool false)]⟩
/- 0 _law_plan_here, 1 _law_sign, 2 _law_writer, 3 _law_first, 4 _law_signs_here, 5 _law_e -/
noncomputable def D.l_edge09 : FunDef := ⟨2, 13, [
  .asg (.loc 2) (.call (.gcls Cl.Writer) [(.loc 0)]),
  .asg (.loc 3) (.bin .add (.meth (.loc 2) Mt.take [(.bin .mul (.lst [(.loc 1)]) (.cInt 30))]) (.meth (.loc 2) Mt.take [(.bin .mul (.lst [(.cInt 0)]) (.cInt 25))])),
  .for (.loc 4) (.tup [(.bin .mul (.lst [(.loc 1)]) (.cInt 6)), (.bin .mul (.lst [(.cInt 0)]) (.cInt 5)), (.lst [(.loc 1)]), (.lst [])]) [
    .try [
      .asg (.loc 3) (.bin .add (.loc 3) (.meth (.loc 2) Mt.take [(.call (.gty Ty.list) [(.loc 4)])])),
      .ite (.e (.cmp .inn (.call (.gbi Bi.len) [(.loc 4)]) (.tup [(.cInt 1), (.cInt 6)]))) [
        .ret (.cBool false)] []] Cl.PressError 5 [
      .ite (.any [(.e (.cmp .notin (.call (.gbi Bi.len) [(.loc 4)]) (.tup [(.cInt 1), (.cInt 6)]))), (.e (.cmp .ne (.call (.gfn F.l_word) [(.loc 5)]) (.lst [(.cStr (Str.ofString "sign"))])))]) [
        .ret (.cBool false)] []]],
  .ret (.cmp .eq (.bin .add (.loc 3) (.meth (.loc 2) Mt.end_ [])) (.call (.gfn F.l_fewest09) [(.call (.gfn F.l_stretch) [(.loc 0), (.bin .add (.bin .mul (.lst [(.loc 1)]) (.cInt 30)) (.bin .mul (.lst [(.cInt 0)]) (.cInt 30)))])]))]⟩
/- 0 _law_script, 1 _law_k, 2 _law_plan_here -/
noncomputable def D.l_made09 : FunDef := ⟨2, 6, [
  .asg (.loc 2) (.call (.gfn F.l_plan) [(.call (.gfn F.l_cell_at) [(.loc 0), (.loc 1)])]),
  .ret (.dict [Ky.writer, Ky.plan, Ky.signs, Ky.figures, Ky.over, Ky.shown] [(.call (.gcls Cl.Writer) [(.loc 2)]), (.loc 2), (.lst []), (.lst []), (.cBool false), (.lst [])])]⟩
/- 0 _law_one, 1 _law_cell, 2 _law_signs_here, 3 _law_handed, 4 _law_odd, 5 _law_bad, 6 _law_due, 7 _law_found, 8 _law_e, 9 _law_sure_here -/
noncomputable def D.l_take09 : FunDef := ⟨2, 20, [
  .asg (.loc 2) (.call (.gfn F.l_signs) [(.bin .fdiv (.loc 1) (.cInt 6)), (.key (.loc 0) Ky.plan), (.cInt 3)]),
  .asg (.loc 3) (.call (.gty Ty.list) [(.loc 2)]),
  .asg (.loc 4) (.cmp .eq (.bin .mod (.loc 1) (.cInt 6)) (.cInt 1)),
  .ite (.e (.loc 4)) [
    .asg (.loc 5) (.idx (.lst [(.call (.gbi Bi.len) [(.idx (.key (.loc 0) Ky.plan) (.cInt 0))]), (.neg (.cInt 1)), (.cBool true), .cNone, (.cStr (Str.ofString "0"))]) (.bin .mod (.bin .fdiv (.loc 1) (.cInt 6)) (.cInt 5))),
    .asg (.loc 3) (.idx (.lst [(.bin .add (.loc 2) (.lst [(.loc 5)])), (.bin .add (.lst [(.loc 5)]) (.loc 2)), (.call (.gty Ty.tuple) [(.loc 2)]), .cNone, (.cInt 5)]) (.bin .mod (.bin .fdiv (.loc 1) (.cInt 30)) (.cInt 5)))] [],
  .asg (.loc 6) (.bin .mul (.lst [(.cStr (Str.ofString "sign"))]) (.call (.gty Ty.int) [(.loc 4)])),
  .ite (.e (.key (.loc 0) Ky.over)) [
    .asg (.loc 6) (.lst [(.cStr (Str.ofString "ended"))])] [],
  .try [
    .asg (.loc 7) (.meth (.key (.loc 0) Ky.writer) Mt.take [(.loc 3)])] Cl.PressError 8 [
    .ret (.and [(.cmp .ne (.loc 6) (.lst [])), (.cmp .eq (.call (.gfn F.l_word) [(.loc 8)]) (.loc 6))])],
  .ite (.any [(.e (.cmp .ne (.loc 6) (.lst []))), (.e (.cmp .ne (.loc 3) (.loc 2)))]) [
    .ret (.cBool false)] [],
  .expr (.meth (.loc 3) Mt.append [(.cInt 0)]),
  .setKey (.loc 0) Ky.signs (.bin .add (.key (.loc 0) Ky.signs) (.loc 2)),
  .asg (.loc 9) (.call (.gfn F.l_sure) [(.key (.loc 0) Ky.plan), (.key (.loc 0) Ky.signs)]),
  .ite (.any [(.not (.e (.call (.gbi Bi.isinstance) [(.loc 7), (.gty Ty.list)]))), (.e (.cmp .ne (.loc 7) (.slc (.loc 9) (.call (.gbi Bi.len) [(.key (.loc 0) Ky.figures)]) .cNone)))]) [
    .ret (.cBool false)] [],
  .ite (.not (.e (.call (.gbi Bi.all) [(.comp 3 (.call (.gfn F.l_whole) [(.cv 1)]) (.cv 1) (.loc 7) [])]))) [
    .ret (.cBool false)] [],
  .expr (.meth (.loc 7) Mt.append [(.cInt 7)]),
  .expr (.meth (.key (.loc 0) Ky.shown) Mt.append [(.tup [(.loc 7), (.call (.gty Ty.list) [(.loc 7)])])]),
  .setKey (.loc 0) Ky.figures (.loc 9),
  .ret (.cBool true)]⟩
/- 0 _law_one, 1 _law_found, 2 _law_e, 3 _law_due -/
noncomputable def D.l_end : FunDef := ⟨1, 10, [
  .try [
    .asg (.loc 1) (.meth (.key (.loc 0) Ky.writer) Mt.end_ [])] Cl.PressError 2 [
    .ret (.and [(.key (.loc 0) Ky.over), (.cmp .eq (.call (.gfn F.l_word) [(.loc 2)]) (.lst [(.cStr (Str.ofString "ended"))]))])],
  .asg (.loc 3) (.call (.gfn F.l_fewest09) [(.call (.gfn F.l_stretch) [(.key (.loc 0) Ky.plan), (.key (.loc 0) Ky.signs)])]),
  .ite (.any [(.e (.key (.loc 0) Ky.over)), (.not (.e (.call (.gbi Bi.isinstance) [(.loc 1), (.gty Ty.list)]))), (.e (.cmp .ne (.bin .add (.key (.loc 0) Ky.figures) (.loc 1)) (.loc 3)))]) [
    .ret (.cBool false)] [],
  .expr (.meth (.loc 1) Mt.append [(.cInt 7)]),
  .expr (.meth (.key (.loc 0) Ky.shown) Mt.append [(.tup [(.loc 1), (.call (.gty Ty.list) [(.loc 1)])])]),
  .setKey (.loc 0) Ky.over (.cBool true),
  .setKey (.loc 0) Ky.figures (.loc 3),
  .ret (.cBool true)]⟩
/- 0 _law_one, 1 _law_shown, 2 _law_found -/
noncomputable def D.l_seen09 : FunDef := ⟨2, 6, [
  .asg (.loc 2) (.meth (.key (.loc 0) Ky.writer) Mt.told []),
  .ite (.any [(.not (.e (.call (.gbi Bi.isinstance) [(.loc 2), (.gty Ty.list)]))), (.e (.cmp .ne (.loc 2) (.key (.loc 0) Ky.figures)))]) [
    .ret (.cBool false)] [],
  .ite (.not (.e (.call (.gbi Bi.all) [(.comp 3 (.call (.gfn F.l_whole) [(.cv 1)]) (.cv 1) (.loc 2) [])]))) [
    .ret (.cBool false)] [],
  .expr (.meth (.loc 2) Mt.append [(.cInt 9)]),
  .expr (.meth (.loc 1) Mt.append [(.tup [(.loc 2), (.call (.gty Ty.list) [(.loc 2)])])]),
  .ret (.cBool true)]⟩
/- 0 _law_script, 1 _law_both, 2 _law_cell, 3 _law_shown, 4 _law_k, 5 _law_one, 6 _law_good -/
noncomputable def D.law09 : FunDef := ⟨1, 17, [
  .asg (.loc 1) (.lst [(.call (.gfn F.l_made09) [(.loc 0), (.cInt 0)]), (.call (.gfn F.l_made09) [(.loc 0), (.cInt 1)])]),
  .asg (.loc 2) (.call (.gfn F.l_cell_at) [(.loc 0), (.cInt 12)]),
  .ite (.not (.e (.call (.gfn F.l_refused09) [(.key (.idx (.loc 1) (.cInt 0)) Ky.plan), (.bin .fdiv (.loc 2) (.cInt 16))]))) [
    .ret (.cBool false)] [],
  .ite (.all [(.e (.cmp .eq (.bin .mod (.loc 2) (.cInt 16)) (.cInt 1))), (.not (.e (.call (.gfn F.l_edge09) [(.key (.idx (.loc 1) (.cInt 1)) Ky.plan), (.bin .mod (.bin .fdiv (.loc 2) (.cInt 16)) (.call (.gbi Bi.len) [(.idx (.key (.idx (.loc 1) (.cInt 1)) Ky.plan) (.cInt 0))]))])))]) [
    .ret (.cBool false)] [],
  .asg (.loc 3) (.lst []),
  .for (.loc 4) (.call (.gty Ty.range) [(.cInt 2), (.call (.gbi Bi.min) [(.call (.gbi Bi.len) [(.loc 0)]), (.cInt 12)])]) [
    .asg (.loc 2) (.call (.gfn F.l_cell_at) [(.loc 0), (.loc 4)]),
    .asg (.loc 5) (.idx (.loc 1) (.bin .mod (.loc 2) (.cInt 2))),
    .asg (.loc 6) (.cBool true),
    .ite (.e (.cmp .eq (.bin .mod (.bin .fdiv (.loc 2) (.cInt 2)) (.cInt 7)) (.cInt 3))) [
      .asg (.loc 6) (.call (.gfn F.l_end) [(.loc 5)])] [
      .asg (.loc 6) (.call (.gfn F.l_take09) [(.loc 5), (.bin .fdiv (.loc 2) (.cInt 14))])],
    .ite (.not (.e (.loc 6))) [
      .ret (.cBool false)] [],
    .ite (.any [(.not (.e (.call (.gfn F.l_seen09) [(.idx (.loc 1) (.cInt 0)), (.loc 3)]))), (.not (.e (.call (.gfn F.l_seen09) [(.idx (.loc 1) (.cInt 1)), (.loc 3)])))]) [
      .ret (.cBool false)] []],
  .asg (.loc 3) (.bin .add (.bin .add (.loc 3) (.key (.idx (.loc 1) (.cInt 0)) Ky.shown)) (.key (.idx (.loc 1) (.cInt 1)) Ky.shown)),
  .ret (.and [(.call (.gfn F.l_seen09) [(.idx (.loc 1) (.cInt 1)), (.lst [])]), (.cmp .eq (.comp 3 (.cInt 1) (.tupc [1, 2]) (.loc 3) [(.e (.cmp .ne (.cv 1) (.cv 2)))]) (.lst []))])]⟩
noncomputable def PI : Nat → Option FunDef
  | 0 => some D.is_among
  | 1 => some D.is_plan
  | 2 => some D.need_plan
  | 3 => some D.need_sign
  | 4 => some D.need_signs
  | 5 => some D.share
  | 6 => some D.behind
  | 7 => some D.l_cell_at
  | 8 => some D.l_mixed
  | 9 => some D.l_whole
  | 10 => some D.l_plan
  | 11 => some D.l_behind
  | 12 => some D.l_signs
  | 13 => some D.l_stretch
  | 14 => some D.l_within
  | 15 => some D.l_word
  | 17 => some D.l_no_plan
  | 20 => some D.parted
  | 21 => some D.within
  | 22 => some D.stretch_of
  | 35 => some D.spelled
  | 36 => some D.figures_in
  | 37 => some D.pressed
  | 47 => some D.l_sure
  | 64 => some D.figures_around
  | 65 => some D.Writer_init
  | 66 => some D.Writer_need_open
  | 67 => some D.Writer_fresh
  | 68 => some D.Writer_take
  | 69 => some D.Writer_end
  | 70 => some D.Writer_told
  | 71 => some D.l_fewest09
  | 72 => some D.l_refused09
  | 73 => some D.l_edge09
  | 74 => some D.l_made09
  | 75 => some D.l_take09
  | 76 => some D.l_end
  | 77 => some D.l_seen09
  | 78 => some D.law09
  | _ => none
noncomputable def TB : Tab := ⟨PI, fun c => match c with | 6 => some F.Reader_init | 7 => some F.Writer_init | _ => none, fun c m => match c, m with | 6, 3 => some F.Reader_take | 6, 4 => some F.Reader_told | 6, 5 => some F.Reader_lacking | 7, 3 => some F.Writer_take | 7, 4 => some F.Writer_told | 7, 6 => some F.Writer_end | 7, 7 => some F.Writer_need_open | 7, 8 => some F.Writer_fresh | _, _ => none⟩
end Mine
end
section
open PySem
namespace Mine
section
variable {T : Tab} {hk : Hook} {σ : AS} {Q : AV → AS → Prop} {X : Nat → AS → Prop} {QS : Out → AS → Prop} {QL : List AV → AS → Prop} {QB : Bool → AS → Prop}
theorem need_some {α : Type} (v : α) (k : α → Prop) : need (some v) k = k v := (rfl)
theorem e_cStr (b) : WE T hk (.cStr b) σ Q X = Q (.str b) σ := (rfl)
theorem e_bin (op l r) : WE T hk (.bin op l r) σ Q X = WE T hk l σ (fun a σ₁ => WE T hk r σ₁ (fun b σ₂ => binW op a b σ₂ Q) X) X := (rfl)
theorem e_lst (es) : WE T hk (.lst es) σ Q X = WEs T hk es σ (fun vs σ₁ => newL vs σ₁ Q) X := (rfl)
theorem e_meth (o m as) : WE T hk (.meth o m as) σ Q X = WE T hk o σ (fun ov σ₁ => ready T σ₁.H ov m = true ∧ WEs T hk as σ₁ (fun vs σ₂ => methW T hk ov m vs σ₂ Q X) X) X := (rfl)
theorem es_nil : WEs T hk [] σ QL X = QL [] σ := (rfl)
theorem es_cons (e es) : WEs T hk (e :: es) σ QL X = WE T hk e σ (fun v σ₁ => WEs T hk es σ₁ (fun vs σ₂ => QL (v :: vs) σ₂) X) X := (rfl)
theorem s_ret (e) : WS T hk (.ret e) σ QS X = WE T hk e σ (fun v σ₁ => QS (.ret v) σ₁) X := (rfl)
theorem s_asg (t e) : WS T hk (.asg t e) σ QS X = WE T hk e σ (fun v σ₁ => asgW t v σ₁ fun σ₂ => QS .next σ₂) X := (rfl)
theorem ss_cons (s ss) : WSs T hk (s :: ss) σ QS X = WS T hk s σ (fun o σ₁ => match o with
    | .next => WSs T hk ss σ₁ QS X
    | .ret v => QS (.ret v) σ₁) X := (rfl)
end
end Mine
end
section
open PySem
namespace Mine

/-! ## Whether a text of the small language is that of the program -/
structure Sc where
  f : List (Str × NameKind)
  c : Option (List (Str × NameKind))
structure GT where
  fns : List (Str × Nat)
  cls : List (Str × Nat)
  gints : List (Str × Int)
  gtups : List (Str × List Int)

noncomputable def tyTab : List (Str × Nat) := [("int", 0), ("bool", 1), ("tuple", 2), ("list", 3), ("range", 4), ("ValueError", 5)]
noncomputable def biTab : List (Str × Nat) := [("len", 0), ("sum", 1), ("min", 2), ("isinstance", 3), ("all", 4)]
noncomputable def mtTab : List (Str × Nat) := [("append", 0), ("extend", 1), ("join", 2), ("take", 3), ("told", 4), ("lacking", 5), ("end", 6), ("need_open", 7), ("fresh", 8)]
noncomputable def kyTab : List (Str × Nat) := [("plan", 0), ("many", 1), ("came", 2), ("signs", 3), ("given", 4), ("has_ended", 5), ("reader", 6), ("row", 7), ("taken", 8), ("shown", 9), ("writer", 10), ("figures", 11), ("over", 12)]

noncomputable def Sc.loc (S : Sc) (x : Str) (i : Nat) : Bool := match S.c with
  | none => (match S.f[i]? with
    | some (y, .local) => y == x
    | some (y, .cell) => y == x
    | _ => false)
  | some cn => cn.lookup x == some .cell && (match S.f[i]? with
    | some (y, .cell) => y == x
    | _ => false)
noncomputable def Sc.cv (S : Sc) (x : Str) (i : Nat) : Bool := match S.c with
  | none => false
  | some cn => (match cn[i]? with
    | some (y, .local) => y == x
    | _ => false)
noncomputable def Sc.glob (S : Sc) (x : Str) : Bool := (match S.c with | none => S.f.lookup x | some cn => cn.lookup x) == some .globalImplicit
noncomputable def noDebug (x : Str) : Bool := x != ("__debug__" : Str)

/-- a comprehension's names, as its block has them -/
noncomputable def cnames (f names : List (Str × NameKind)) : List (Str × NameKind) :=
  names.map fun (n, k) => if k == .free && f.lookup n == some .cell then (n, .cell) else (n, k)
noncomputable def nodupB : List Str → Bool
  | [] => true
  | x :: r => !r.contains x && nodupB r
noncomputable def namesOk (f names : List (Str × NameKind)) : Bool :=
  names.all (fun (n, k) => k == .local || k == .globalImplicit || (k == .free && f.lookup n == some .cell)) && nodupB (names.map (·.1))

noncomputable def bopOf : Operator → Option BOp
  | .Add => some .add | .Sub => some .sub | .Mult => some .mul | .FloorDiv => some .fdiv | .Mod => some .mod | .Pow => some .pow | _ => none
noncomputable def BOp.code : BOp → Nat
  | .add => 0 | .sub => 1 | .mul => 2 | .fdiv => 3 | .mod => 4 | .pow => 5
noncomputable def copOf : CmpOp → COp
  | .Eq => .eq | .NotEq => .ne | .Lt => .lt | .LtE => .le | .Gt => .gt | .GtE => .ge | .Is => .is | .IsNot => .isnot | .In => .inn | .NotIn => .notin
noncomputable def COp.code : COp → Nat
  | .eq => 0 | .ne => 1 | .lt => 2 | .le => 3 | .gt => 4 | .ge => 5 | .is => 6 | .isnot => 7 | .inn => 8 | .notin => 9
noncomputable def sameB (a : BOp) (b : Operator) : Bool := match bopOf b with
  | some c => a.code == c.code
  | none => false
noncomputable def sameC (a : COp) (b : CmpOp) : Bool := a.code == (copOf b).code

noncomputable def isCNone : ME → Bool
  | .cNone => true
  | _ => false
noncomputable def isNameE (e : Expr) : Bool := if h : e.ctorIdx = 23 then Expr.Name.elim (motive_1 := fun _ => Bool) e h (fun _ _ => true) else false
/-- what a method is asked of: a name, a constant, an item -/
noncomputable def headE : Expr → Bool
  | .Name .. | .Constant .. | .Subscript .. => true
  | _ => false
noncomputable def plainSlice : Expr → Bool
  | .Slice .. => false
  | _ => true

/-! heads of expressions and statements -/
noncomputable def onConst (e : Expr) (k : Const → Bool) : Bool := if h : e.ctorIdx = 19 then Expr.Constant.elim (motive_1 := fun _ => Bool) e h (fun c _ _ => k c) else false
noncomputable def onName (e : Expr) (k : Str → Bool) : Bool := if h : e.ctorIdx = 23 then Expr.Name.elim (motive_1 := fun _ => Bool) e h (fun x _ => k x) else false
noncomputable def onBin (e : Expr) (k : Expr → Operator → Expr → Bool) : Bool := if h : e.ctorIdx = 2 then Expr.BinOp.elim (motive_1 := fun _ => Bool) e h (fun l o r _ => k l o r) else false
noncomputable def onUn (e : Expr) (k : UnaryOp → Expr → Bool) : Bool := if h : e.ctorIdx = 3 then Expr.UnaryOp.elim (motive_1 := fun _ => Bool) e h (fun o x _ => k o x) else false
noncomputable def onBool (e : Expr) (k : BoolOp → List Expr → Bool) : Bool := if h : e.ctorIdx = 0 then Expr.BoolOp.elim (motive_1 := fun _ => Bool) e h (fun o es _ => k o es) else false
noncomputable def onCmp (e : Expr) (k : Expr → List CmpOp → List Expr → Bool) : Bool := if h : e.ctorIdx = 15 then Expr.Compare.elim (motive_1 := fun _ => Bool) e h (fun l os rs _ => k l os rs) else false
noncomputable def onTup (e : Expr) (k : List Expr → Bool) : Bool := if h : e.ctorIdx = 25 then Expr.Tuple.elim (motive_1 := fun _ => Bool) e h (fun es _ _ => k es) else false
noncomputable def onList (e : Expr) (k : List Expr → Bool) : Bool := if h : e.ctorIdx = 24 then Expr.List.elim (motive_1 := fun _ => Bool) e h (fun es _ => k es) else false
noncomputable def onSub (e : Expr) (k : Expr → Expr → Bool) : Bool := if h : e.ctorIdx = 21 then Expr.Subscript.elim (motive_1 := fun _ => Bool) e h (fun x i _ => k x i) else false
noncomputable def onSlice (e : Expr) (k : Option Expr → Option Expr → Option Expr → Bool) : Bool := if h : e.ctorIdx = 26 then Expr.Slice.elim (motive_1 := fun _ => Bool) e h (fun a b c _ => k a b c) else false
noncomputable def onCall (e : Expr) (k : Expr → List Expr → List Keyword → Pos → Bool) : Bool := if h : e.ctorIdx = 16 then Expr.Call.elim (motive_1 := fun _ => Bool) e h (fun f as kw p => k f as kw p) else false
noncomputable def onAttr (e : Expr) (k : Expr → Str → Pos → Bool) : Bool := if h : e.ctorIdx = 20 then Expr.Attribute.elim (motive_1 := fun _ => Bool) e h (fun x n p => k x n p) else false
noncomputable def onDict (e : Expr) (k : List (Option Expr) → List Expr → Bool) : Bool := if h : e.ctorIdx = 6 then Expr.Dict.elim (motive_1 := fun _ => Bool) e h (fun ks vs _ => k ks vs) else false
noncomputable def onComp (e : Expr) (k : Expr → List Comprehension → Scope → Bool) : Bool := if h : e.ctorIdx = 8 then Expr.ListComp.elim (motive_1 := fun _ => Bool) e h (fun x gs sc _ => k x gs sc) else false
noncomputable def nil? {α : Type} : List α → Bool
  | [] => true
  | _ :: _ => false
noncomputable def un1? {α : Type} (l : List α) (k : α → Bool) : Bool := match l with
  | [x] => k x
  | _ => false
noncomputable def un2? {α : Type} (l : List α) (k : α → α → Bool) : Bool := match l with
  | [x, y] => k x y
  | _ => false
noncomputable def some? {α : Type} (o : Option α) (k : α → Bool) : Bool := match o with
  | some x => k x
  | none => false
noncomputable def kNone : Const → Bool
  | .none => true
  | _ => false
noncomputable def kBool (b : Bool) : Const → Bool
  | .bool c => b == c
  | _ => false
noncomputable def kInt (i : Int) : Const → Bool
  | .int j => i == j
  | _ => false
noncomputable def kStr (s : Str) : Const → Bool
  | .str t => s == t
  | _ => false
/-- the name of a key -/
noncomputable def isKey (k : Nat) : Const → Bool
  | .str x => kyTab.lookup x == some k
  | _ => false
noncomputable def keysIn : List Nat → List (Option Expr) → Bool
  | [], [] => true
  | k :: ks, some e :: es => onConst e (isKey k) && keysIn ks es
  | _, _ => false
noncomputable def isSub : UnaryOp → Bool
  | .USub => true
  | _ => false
noncomputable def isNot : UnaryOp → Bool
  | .Not => true
  | _ => false
noncomputable def isAnd : BoolOp → Bool
  | .And => true
  | _ => false
noncomputable def isOr : BoolOp → Bool
  | .Or => true
  | _ => false

/-- names that stand at their places -/
noncomputable def namesIn (ok : Str → Nat → Bool) : List Nat → List Expr → Bool
  | [], [] => true
  | i :: is, e :: es => onName e (fun x => ok x i) && namesIn ok is es
  | [], _ :: _ => false
  | _ :: _, [] => false
noncomputable def tgtOk (S : Sc) (t : Tgt) (e : Expr) : Bool := match t with
  | .loc i => onName e fun x => S.c.isNone && S.loc x i
  | .cv i => onName e fun x => S.cv x i
  | .tupl is => onTup e fun es => S.c.isNone && namesIn S.loc is es
  | .tupc is => onTup e fun es => namesIn S.cv is es
noncomputable def plainTest : Expr → Bool
  | .UnaryOp .Not _ _ | .BoolOp .. | .IfExp .. | .Compare .. => false
  | _ => true
noncomputable def testOk (e : Expr) : Bool := onCmp e (fun _ _ _ => true) || plainTest e

mutual
noncomputable def chkE (G : GT) (S : Sc) : ME → Expr → Bool
  | .cNone, e => onConst e kNone
  | .cBool b, e => onConst e (kBool b)
  | .cInt i, e => onConst e (kInt i)
  | .cStr s, e => onConst e (kStr s)
  | .loc i, e => onName e fun x => noDebug x && S.loc x i
  | .cv i, e => onName e fun x => noDebug x && S.cv x i
  | .gfn f, e => onName e fun x => noDebug x && S.glob x && G.fns.lookup x == some f
  | .gcls c, e => onName e fun x => noDebug x && S.glob x && G.cls.lookup x == some c
  | .gty t, e => onName e fun x => noDebug x && S.glob x && tyTab.lookup x == some t
  | .gbi b, e => onName e fun x => noDebug x && S.glob x && biTab.lookup x == some b
  | .gint i, e => onName e fun x => noDebug x && S.glob x && G.gints.lookup x == some i
  | .gtup is, e => onName e fun x => noDebug x && S.glob x && G.gtups.lookup x == some is
  | .bin op l r, e => onBin e fun l' op' r' => sameB op op' && chkE G S l l' && chkE G S r r'
  | .neg m, e => onUn e fun o e' => isSub o && chkE G S m e'
  | .not m, e => onUn e fun o e' => isNot o && chkE G S m e'
  | .and es, e => onBool e fun o es' => isAnd o && (!es.isEmpty && chkEs G S es es')
  | .or es, e => onBool e fun o es' => isOr o && (!es.isEmpty && chkEs G S es es')
  | .cmp op l r, e => onCmp e fun l' os rs => un1? os fun op' => un1? rs fun r' => sameC op op' && chkE G S l l' && chkE G S r r'
  | .cmp2 o1 o2 l m r, e => onCmp e fun l' os rs => un2? os fun o1' o2' => un2? rs fun m' r' => sameC o1 o1' && sameC o2 o2' && chkE G S l l' && chkE G S m m' && chkE G S r r'
  | .tup es, e => onTup e fun es' => chkEs G S es es'
  | .lst es, e => onList e fun es' => chkEs G S es es'
  | .dict ks vs, e => onDict e fun keys vals => ks.length == vs.length && (Nat.ble ks.length 15 && (!ks.isEmpty && (keysIn ks keys && chkEs G S vs vals)))
  | .idx x i, e => onSub e fun e' i' => plainSlice i' && chkE G S x e' && chkE G S i i'
  | .slc x lo hi, e => onSub e fun e' i' => onSlice i' fun lo' hi' st => st.isNone && (chkE G S x e' && (match lo' with
      | none => isCNone lo
      | some y => chkE G S lo y) && (match hi' with
      | none => isCNone hi
      | some y => chkE G S hi y))
  | .rev x, e => onSub e fun e' i' => onSlice i' fun lo' hi' st => lo'.isNone && (hi'.isNone && (some? st fun y => onUn y fun o c => isSub o && (onConst c (kInt 1) && chkE G S x e')))
  | .call f as, e => onCall e fun f' as' kw _ => isNameE f' && (nil? kw && (chkE G S f f' && chkEs G S as as'))
  | .meth o m as, e => onCall e fun f' as' kw p => onAttr f' fun o' n ap => nil? kw && (ap.endLine == p.line && headE o' && mtTab.lookup n == some m && decide (as'.length < 20) && chkE G S o o' && chkEs G S as as')
  | .attr o k, e => onAttr e fun o' n _ => isNameE o' && (kyTab.lookup n == some k && chkE G S o o')
  | .key o k, e => onSub e fun e' i' => onConst i' (isKey k) && chkE G S o e'
  | .comp nc elt t it ifs, e => onComp e fun elt' gs sc => un1? gs fun g => g.is_async == 0 && (S.c.isNone && sc.kind == .function && sc.names.length == nc && namesOk S.f sc.names && chkE G S it g.iter &&
      tgtOk ⟨S.f, some (cnames S.f sc.names)⟩ t g.target && chkTs G ⟨S.f, some (cnames S.f sc.names)⟩ ifs g.ifs && chkE G ⟨S.f, some (cnames S.f sc.names)⟩ elt elt')
noncomputable def chkEs (G : GT) (S : Sc) : List ME → List Expr → Bool
  | [], [] => true
  | e :: es, e' :: es' => chkE G S e e' && chkEs G S es es'
  | _, _ => false
noncomputable def chkT (G : GT) (S : Sc) : MT → Expr → Bool
  | .not t, e => onUn e fun o e' => isNot o && chkT G S t e'
  | .all ts, e => onBool e fun o es => isAnd o && chkTs G S ts es
  | .any ts, e => onBool e fun o es => isOr o && chkTs G S ts es
  | .e m, e => testOk e && chkE G S m e
noncomputable def chkTs (G : GT) (S : Sc) : List MT → List Expr → Bool
  | [], [] => true
  | e :: es, e' :: es' => chkT G S e e' && chkTs G S es es'
  | _, _ => false
end

noncomputable def notComp : Expr → Bool
  | .ListComp .. | .SetComp .. | .DictComp .. => false
  | _ => true
/-- a tuple of names is given what is no display, or constants -/
noncomputable def valueOk : Expr → Bool
  | .Tuple es _ _ => es.all fun | .Constant .. => true | _ => false
  | _ => true
noncomputable def notSetE : Expr → Bool
  | .Set .. => false
  | _ => true
noncomputable def isTupT : Tgt → Bool
  | .tupl _ => true
  | _ => false

noncomputable def onPass (s : Stmt) : Bool := if h : s.ctorIdx = 25 then Stmt.Pass.elim (motive_2 := fun _ => Bool) s h (fun _ => true) else false
noncomputable def onExprS (s : Stmt) (k : Expr → Bool) : Bool := if h : s.ctorIdx = 24 then Stmt.Expr.elim (motive_2 := fun _ => Bool) s h (fun e _ => k e) else false
noncomputable def onRet (s : Stmt) (k : Option Expr → Bool) : Bool := if h : s.ctorIdx = 3 then Stmt.Return.elim (motive_2 := fun _ => Bool) s h (fun e _ => k e) else false
noncomputable def onAsg (s : Stmt) (k : List Expr → Expr → Bool) : Bool := if h : s.ctorIdx = 5 then Stmt.Assign.elim (motive_2 := fun _ => Bool) s h (fun ts e _ => k ts e) else false
noncomputable def onIf (s : Stmt) (k : Expr → List Stmt → List Stmt → Bool) : Bool := if h : s.ctorIdx = 12 then Stmt.If.elim (motive_2 := fun _ => Bool) s h (fun c b o _ => k c b o) else false
noncomputable def onFor (s : Stmt) (k : Expr → Expr → List Stmt → List Stmt → Bool) : Bool := if h : s.ctorIdx = 9 then Stmt.For.elim (motive_2 := fun _ => Bool) s h (fun t i b o _ => k t i b o) else false
noncomputable def onWhile (s : Stmt) (k : Expr → List Stmt → List Stmt → Bool) : Bool := if h : s.ctorIdx = 11 then Stmt.While.elim (motive_2 := fun _ => Bool) s h (fun c b o _ => k c b o) else false
noncomputable def onRaise (s : Stmt) (k : Option Expr → Option Expr → Bool) : Bool := if h : s.ctorIdx = 16 then Stmt.Raise.elim (motive_2 := fun _ => Bool) s h (fun x c _ => k x c) else false
noncomputable def onTry (s : Stmt) (k : List Stmt → List ExceptHandler → List Stmt → List Stmt → Bool) : Bool := if h : s.ctorIdx = 17 then Stmt.Try.elim (motive_2 := fun _ => Bool) s h (fun b hs oe fi _ => k b hs oe fi) else false
noncomputable def onHd (h : ExceptHandler) (k : Option Expr → Option Str → List Stmt → Bool) : Bool := match h with
  | .ExceptHandler ty nm b _ => k ty nm b

mutual
noncomputable def chkS (G : GT) (f : List (Str × NameKind)) : MS → Stmt → Bool
  | .pass, st => onPass st
  | .expr e, st => onExprS st fun e' => notComp e' && chkE G ⟨f, none⟩ e e'
  | .ret e, st => onRet st fun o => some? o fun e' => chkE G ⟨f, none⟩ e e'
  | .setIdx o i e, st => onAsg st fun ts e' => un1? ts fun t => onSub t fun o' i' => notComp e' && plainSlice i' && chkE G ⟨f, none⟩ o o' && chkE G ⟨f, none⟩ i i' && chkE G ⟨f, none⟩ e e'
  | .asg t e, st => onAsg st fun ts e' => un1? ts fun t' => tgtOk ⟨f, none⟩ t t' && (!isTupT t || (valueOk e' && notComp e')) && chkE G ⟨f, none⟩ e e'
  | .setKey o k e, st => onAsg st fun ts e' => un1? ts fun t => onSub t fun o' i' => notComp e' && (onConst i' (isKey k) && (chkE G ⟨f, none⟩ o o' && chkE G ⟨f, none⟩ e e'))
  | .setAttr o k e, st => onAsg st fun ts e' => un1? ts fun t => onAttr t fun o' n _ => notComp e' && (kyTab.lookup n == some k && (chkE G ⟨f, none⟩ o o' && chkE G ⟨f, none⟩ e e'))
  | .ite c b o, st => onIf st fun c' b' o' => chkT G ⟨f, none⟩ c c' && chkSs G f b b' && chkSs G f o o'
  | .for t it b, st => onFor st fun t' it' b' o' => nil? o' && (tgtOk ⟨f, none⟩ t t' && notSetE it' && chkE G ⟨f, none⟩ it it' && chkSs G f b b')
  | .while c b, st => onWhile st fun c' b' o' => nil? o' && (chkT G ⟨f, none⟩ c c' && chkSs G f b b')
  | .raise c s, st => onRaise st fun ex ca => ca.isNone && (some? ex fun ex => onCall ex fun fe as kw _ => nil? kw && (onName fe fun x => un1? as fun a => onConst a fun t => noDebug x && f.lookup x == some .globalImplicit && G.cls.lookup x == some c && kStr s t && Nat.ble c 5))
  | .try b c n h, st => onTry st fun b' hs oe fi => nil? oe && (nil? fi && (un1? hs fun hd => onHd hd fun ty nm h' => some? ty fun ty => onName ty fun x => some? nm fun y => noDebug x && f.lookup x == some .globalImplicit && G.cls.lookup x == some c && c == 0 && (f[n]? == some (y, .local)) &&
      chkSs G f b b' && chkSs G f h h' && !h.isEmpty))
noncomputable def chkSs (G : GT) (f : List (Str × NameKind)) : List MS → List Stmt → Bool
  | [], [] => true
  | s :: ss, s' :: ss' => chkS G f s s' && chkSs G f ss ss'
  | _, _ => false
end

/-- a function of the program is that of the table -/
noncomputable def chkF (G : GT) (d : FunDef) (params : Arguments) (body : List Stmt) (sc : Scope) : Bool :=
  params.posonlyargs.isEmpty && params.vararg.isNone && params.kwonlyargs.isEmpty && params.kwarg.isNone && params.defaults.isEmpty && params.kw_defaults.isEmpty &&
  params.args.length == d.args && sc.names.length == d.locs && (sc.names.take d.args).map (·.1) == params.args.map (·.arg) && (sc.names.take d.args).all (fun x => x.2 == .local || x.2 == .cell) &&
  sc.kind == .function && !sc.isGenerator && !sc.isCoroutine && nodupB (sc.names.map (·.1)) && sc.names.all (fun x => x.2 != .free) && chkSs G sc.names d.body body

theorem dit_of {c : Prop} [Decidable c] {f : c → Bool} (h : (if h : c then f h else false) = true) : ∃ c', f c' = true := by
  by_cases c' : c
  · rw [dif_pos c'] at h; exact ⟨c', h⟩
  · rw [dif_neg c'] at h; exact absurd h Bool.false_ne_true
theorem onConst_ind {e : Expr} {k : _} {P : Expr → Prop} (h : onConst e k = true) (ih : ∀ c i p, k c = true → P (.Constant c i p)) : P e := (dit_of h).elim fun c h =>
  Expr.Constant.elim (motive_1 := fun e => ∀ c : e.ctorIdx = 19, Expr.Constant.elim (motive_1 := fun _ => Bool) e c (fun c _ _ => k c) = true → P e) e c (fun c q1 q2 _ h => ih c q1 q2 h) c h
theorem onDict_ind {e : Expr} {k : _} {P : Expr → Prop} (h : onDict e k = true) (ih : ∀ ks vs p, k ks vs = true → P (.Dict ks vs p)) : P e := (dit_of h).elim fun c h =>
  Expr.Dict.elim (motive_1 := fun e => ∀ c : e.ctorIdx = 6, Expr.Dict.elim (motive_1 := fun _ => Bool) e c (fun ks vs _ => k ks vs) = true → P e) e c (fun ks vs p _ h => ih ks vs p h) c h
theorem onName_ind {e : Expr} {k : _} {P : Expr → Prop} (h : onName e k = true) (ih : ∀ x p, k x = true → P (.Name x p)) : P e := (dit_of h).elim fun c h =>
  Expr.Name.elim (motive_1 := fun e => ∀ c : e.ctorIdx = 23, Expr.Name.elim (motive_1 := fun _ => Bool) e c (fun x _ => k x) = true → P e) e c (fun x q1 _ h => ih x q1 h) c h
theorem onBin_ind {e : Expr} {k : _} {P : Expr → Prop} (h : onBin e k = true) (ih : ∀ l o r p, k l o r = true → P (.BinOp l o r p)) : P e := (dit_of h).elim fun c h =>
  Expr.BinOp.elim (motive_1 := fun e => ∀ c : e.ctorIdx = 2, Expr.BinOp.elim (motive_1 := fun _ => Bool) e c (fun l o r _ => k l o r) = true → P e) e c (fun l o r q3 _ h => ih l o r q3 h) c h
theorem onUn_ind {e : Expr} {k : _} {P : Expr → Prop} (h : onUn e k = true) (ih : ∀ o x p, k o x = true → P (.UnaryOp o x p)) : P e := (dit_of h).elim fun c h =>
  Expr.UnaryOp.elim (motive_1 := fun e => ∀ c : e.ctorIdx = 3, Expr.UnaryOp.elim (motive_1 := fun _ => Bool) e c (fun o x _ => k o x) = true → P e) e c (fun o x q2 _ h => ih o x q2 h) c h
theorem onBool_ind {e : Expr} {k : _} {P : Expr → Prop} (h : onBool e k = true) (ih : ∀ o es p, k o es = true → P (.BoolOp o es p)) : P e := (dit_of h).elim fun c h =>
  Expr.BoolOp.elim (motive_1 := fun e => ∀ c : e.ctorIdx = 0, Expr.BoolOp.elim (motive_1 := fun _ => Bool) e c (fun o es _ => k o es) = true → P e) e c (fun o es q2 _ h => ih o es q2 h) c h
theorem onCmp_ind {e : Expr} {k : _} {P : Expr → Prop} (h : onCmp e k = true) (ih : ∀ l os rs p, k l os rs = true → P (.Compare l os rs p)) : P e := (dit_of h).elim fun c h =>
  Expr.Compare.elim (motive_1 := fun e => ∀ c : e.ctorIdx = 15, Expr.Compare.elim (motive_1 := fun _ => Bool) e c (fun l os rs _ => k l os rs) = true → P e) e c (fun l os rs q3 _ h => ih l os rs q3 h) c h
theorem onTup_ind {e : Expr} {k : _} {P : Expr → Prop} (h : onTup e k = true) (ih : ∀ es i p, k es = true → P (.Tuple es i p)) : P e := (dit_of h).elim fun c h =>
  Expr.Tuple.elim (motive_1 := fun e => ∀ c : e.ctorIdx = 25, Expr.Tuple.elim (motive_1 := fun _ => Bool) e c (fun es _ _ => k es) = true → P e) e c (fun es q1 q2 _ h => ih es q1 q2 h) c h
theorem onList_ind {e : Expr} {k : _} {P : Expr → Prop} (h : onList e k = true) (ih : ∀ es p, k es = true → P (.List es p)) : P e := (dit_of h).elim fun c h =>
  Expr.List.elim (motive_1 := fun e => ∀ c : e.ctorIdx = 24, Expr.List.elim (motive_1 := fun _ => Bool) e c (fun es _ => k es) = true → P e) e c (fun es q1 _ h => ih es q1 h) c h
theorem onSub_ind {e : Expr} {k : _} {P : Expr → Prop} (h : onSub e k = true) (ih : ∀ x i p, k x i = true → P (.Subscript x i p)) : P e := (dit_of h).elim fun c h =>
  Expr.Subscript.elim (motive_1 := fun e => ∀ c : e.ctorIdx = 21, Expr.Subscript.elim (motive_1 := fun _ => Bool) e c (fun x i _ => k x i) = true → P e) e c (fun x i q2 _ h => ih x i q2 h) c h
theorem onSlice_ind {e : Expr} {k : _} {P : Expr → Prop} (h : onSlice e k = true) (ih : ∀ a b c p, k a b c = true → P (.Slice a b c p)) : P e := (dit_of h).elim fun c h =>
  Expr.Slice.elim (motive_1 := fun e => ∀ c : e.ctorIdx = 26, Expr.Slice.elim (motive_1 := fun _ => Bool) e c (fun a b c _ => k a b c) = true → P e) e c (fun a b c q3 _ h => ih a b c q3 h) c h
theorem onCall_ind {e : Expr} {k : _} {P : Expr → Prop} (h : onCall e k = true) (ih : ∀ f as kw p, k f as kw p = true → P (.Call f as kw p)) : P e := (dit_of h).elim fun c h =>
  Expr.Call.elim (motive_1 := fun e => ∀ c : e.ctorIdx = 16, Expr.Call.elim (motive_1 := fun _ => Bool) e c (fun f as kw p => k f as kw p) = true → P e) e c (fun f as kw p _ h => ih f as kw p h) c h
theorem onAttr_ind {e : Expr} {k : _} {P : Expr → Prop} (h : onAttr e k = true) (ih : ∀ x n p, k x n p = true → P (.Attribute x n p)) : P e := (dit_of h).elim fun c h =>
  Expr.Attribute.elim (motive_1 := fun e => ∀ c : e.ctorIdx = 20, Expr.Attribute.elim (motive_1 := fun _ => Bool) e c (fun x n p => k x n p) = true → P e) e c (fun x n p _ h => ih x n p h) c h
theorem onComp_ind {e : Expr} {k : _} {P : Expr → Prop} (h : onComp e k = true) (ih : ∀ x gs sc p, k x gs sc = true → P (.ListComp x gs sc p)) : P e := (dit_of h).elim fun c h =>
  Expr.ListComp.elim (motive_1 := fun e => ∀ c : e.ctorIdx = 8, Expr.ListComp.elim (motive_1 := fun _ => Bool) e c (fun x gs sc _ => k x gs sc) = true → P e) e c (fun x gs sc q3 _ h => ih x gs sc q3 h) c h
theorem onExprS_ind {e : Stmt} {k : _} {P : Stmt → Prop} (h : onExprS e k = true) (ih : ∀ x p, k x = true → P (.Expr x p)) : P e := (dit_of h).elim fun c h =>
  Stmt.Expr.elim (motive_2 := fun e => ∀ c : e.ctorIdx = 24, Stmt.Expr.elim (motive_2 := fun _ => Bool) e c (fun e _ => k e) = true → P e) e c (fun e q1 _ h => ih e q1 h) c h
theorem onRet_ind {e : Stmt} {k : _} {P : Stmt → Prop} (h : onRet e k = true) (ih : ∀ x p, k x = true → P (.Return x p)) : P e := (dit_of h).elim fun c h =>
  Stmt.Return.elim (motive_2 := fun e => ∀ c : e.ctorIdx = 3, Stmt.Return.elim (motive_2 := fun _ => Bool) e c (fun e _ => k e) = true → P e) e c (fun e q1 _ h => ih e q1 h) c h
theorem onAsg_ind {e : Stmt} {k : _} {P : Stmt → Prop} (h : onAsg e k = true) (ih : ∀ ts x p, k ts x = true → P (.Assign ts x p)) : P e := (dit_of h).elim fun c h =>
  Stmt.Assign.elim (motive_2 := fun e => ∀ c : e.ctorIdx = 5, Stmt.Assign.elim (motive_2 := fun _ => Bool) e c (fun ts e _ => k ts e) = true → P e) e c (fun ts e q2 _ h => ih ts e q2 h) c h
theorem onIf_ind {e : Stmt} {k : _} {P : Stmt → Prop} (h : onIf e k = true) (ih : ∀ c b o p, k c b o = true → P (.If c b o p)) : P e := (dit_of h).elim fun c h =>
  Stmt.If.elim (motive_2 := fun e => ∀ c : e.ctorIdx = 12, Stmt.If.elim (motive_2 := fun _ => Bool) e c (fun c b o _ => k c b o) = true → P e) e c (fun c b o q3 _ h => ih c b o q3 h) c h
theorem onFor_ind {e : Stmt} {k : _} {P : Stmt → Prop} (h : onFor e k = true) (ih : ∀ t i b o p, k t i b o = true → P (.For t i b o p)) : P e := (dit_of h).elim fun c h =>
  Stmt.For.elim (motive_2 := fun e => ∀ c : e.ctorIdx = 9, Stmt.For.elim (motive_2 := fun _ => Bool) e c (fun t i b o _ => k t i b o) = true → P e) e c (fun t i b o q4 _ h => ih t i b o q4 h) c h
theorem onWhile_ind {e : Stmt} {k : _} {P : Stmt → Prop} (h : onWhile e k = true) (ih : ∀ c b o p, k c b o = true → P (.While c b o p)) : P e := (dit_of h).elim fun c h =>
  Stmt.While.elim (motive_2 := fun e => ∀ c : e.ctorIdx = 11, Stmt.While.elim (motive_2 := fun _ => Bool) e c (fun c b o _ => k c b o) = true → P e) e c (fun c b o q3 _ h => ih c b o q3 h) c h
theorem onRaise_ind {e : Stmt} {k : _} {P : Stmt → Prop} (h : onRaise e k = true) (ih : ∀ x c p, k x c = true → P (.Raise x c p)) : P e := (dit_of h).elim fun c h =>
  Stmt.Raise.elim (motive_2 := fun e => ∀ c : e.ctorIdx = 16, Stmt.Raise.elim (motive_2 := fun _ => Bool) e c (fun x c _ => k x c) = true → P e) e c (fun x c q2 _ h => ih x c q2 h) c h
theorem onTry_ind {e : Stmt} {k : _} {P : Stmt → Prop} (h : onTry e k = true) (ih : ∀ b hs oe fi p, k b hs oe fi = true → P (.Try b hs oe fi p)) : P e := (dit_of h).elim fun c h =>
  Stmt.Try.elim (motive_2 := fun e => ∀ c : e.ctorIdx = 17, Stmt.Try.elim (motive_2 := fun _ => Bool) e c (fun b hs oe fi _ => k b hs oe fi) = true → P e) e c (fun b hs oe fi q4 _ h => ih b hs oe fi q4 h) c h
theorem onPass_ind {e : Stmt} {P : Stmt → Prop} (h : onPass e = true) (ih : ∀ p, P (.Pass p)) : P e := (dit_of h).elim fun c h =>
  Stmt.Pass.elim (motive_2 := fun e => ∀ c : e.ctorIdx = 25, Stmt.Pass.elim (motive_2 := fun _ => Bool) e c (fun _ => true) = true → P e) e c (fun q0 _ _ => ih q0) c h
theorem nil_ind {α : Type} {l : List α} {P : List α → Prop} (h : nil? l = true) (ih : P []) : P l := by
  cases l with
  | nil => exact ih
  | cons => exact absurd h Bool.false_ne_true
theorem un1_ind {α : Type} {l : List α} {k : α → Bool} {P : List α → Prop} (h : un1? l k = true) (ih : ∀ x, k x = true → P [x]) : P l := by
  rcases l with _ | ⟨x, _ | ⟨_, _⟩⟩ <;> first | (exact absurd h Bool.false_ne_true) | exact ih _ h
theorem un2_ind {α : Type} {l : List α} {k : α → α → Bool} {P : List α → Prop} (h : un2? l k = true) (ih : ∀ x y, k x y = true → P [x, y]) : P l := by
  rcases l with _ | ⟨x, _ | ⟨y, _ | ⟨_, _⟩⟩⟩ <;> first | (exact absurd h Bool.false_ne_true) | exact ih _ _ h
theorem some_ind {α : Type} {o : Option α} {k : α → Bool} {P : Option α → Prop} (h : some? o k = true) (ih : ∀ x, k x = true → P (some x)) : P o := by
  cases o with
  | none => exact absurd h Bool.false_ne_true
  | some x => exact ih x h
theorem isN_ind {α : Type} {o : Option α} {P : Option α → Prop} (h : o.isNone = true) (ih : P none) : P o := by
  cases o with
  | none => exact ih
  | some x => exact absurd h Bool.false_ne_true
theorem eq_ind {α : Type} {a b : α} {P : α → Prop} (h : b = a) (ih : P a) : P b := h ▸ ih
theorem kNone_of {c : Const} (h : kNone c = true) : c = .none := by cases c <;> first | (exact absurd h Bool.false_ne_true) | rfl
theorem kBool_of {b : Bool} {c : Const} (h : kBool b c = true) : c = .bool b := by cases c <;> first | (exact absurd h Bool.false_ne_true) | (rw [beq_iff_eq.mp h])
theorem kInt_of {b : Int} {c : Const} (h : kInt b c = true) : c = .int b := by cases c <;> first | (exact absurd h Bool.false_ne_true) | (rw [beq_iff_eq.mp h])
theorem kStr_of {b : Str} {c : Const} (h : kStr b c = true) : c = .str b := by cases c <;> first | (exact absurd h Bool.false_ne_true) | (rw [beq_iff_eq.mp h])
theorem isSub_of {o : UnaryOp} (h : isSub o = true) : o = .USub := by cases o <;> first | (exact absurd h Bool.false_ne_true) | rfl
theorem isNot_of {o : UnaryOp} (h : isNot o = true) : o = .Not := by cases o <;> first | (exact absurd h Bool.false_ne_true) | rfl
theorem isAnd_of {o : BoolOp} (h : isAnd o = true) : o = .And := by cases o <;> first | (exact absurd h Bool.false_ne_true) | rfl
theorem isOr_of {o : BoolOp} (h : isOr o = true) : o = .Or := by cases o <;> first | (exact absurd h Bool.false_ne_true) | rfl
theorem isNameE_ind {e : Expr} {P : Expr → Prop} (h : isNameE e = true) (ih : ∀ x p, P (.Name x p)) : P e := onName_ind (k := fun _ => true) h fun x p _ => ih x p
theorem onName_of {e : Expr} {k : _} (h : onName e k = true) : ∃ x p, e = .Name x p ∧ k x = true := onName_ind (P := fun e => ∃ x p, e = .Name x p ∧ k x = true) h fun x p h => ⟨x, p, rfl, h⟩
theorem onTup_of {e : Expr} {k : _} (h : onTup e k = true) : ∃ es i p, e = .Tuple es i p ∧ k es = true := onTup_ind (P := fun e => ∃ es i p, e = .Tuple es i p ∧ k es = true) h fun es i p h => ⟨es, i, p, rfl, h⟩
theorem ands {a b : Bool} (h : (a && b) = true) : a = true ∧ b = true := Bool.and_eq_true_iff.mp h
end Mine
end
section
open PySem
open PyProof.Rows
namespace Mine
/-! ## What is looked at in the heap that the top leaves: definitions alone -/
/-- the names of keys and attributes -/
noncomputable def kyName : Nat → Str
  | 0 => "plan"
  | 1 => "many"
  | 2 => "came"
  | 3 => "signs"
  | 4 => "given"
  | 5 => "has_ended"
  | 6 => "reader"
  | 7 => "row"
  | 8 => "taken"
  | 9 => "shown"
  | 10 => "writer"
  | 11 => "figures"
  | _ => "over"
noncomputable abbrev Fg := List (Addr × Obj)

noncomputable def findL (es : List DictEntry) (x : Str) : Option Value := (es.find? (·.key.isStr x)).map (·.val)
structure RT where
  fns : List (Str × Nat × Addr)
  cls : List (Str × Nat × Addr)
  gi : List (Str × Int)
  gu : List (Str × List Int)
  ms : List (Str × Nat × Addr)
/-- functions and methods -/
noncomputable def RT.fs (R : RT) : List (Str × Nat × Addr) := R.fns ++ R.ms
noncomputable def RT.gt (R : RT) : GT := ⟨R.fns.map fun p => (p.1, p.2.1), R.cls.map fun p => (p.1, p.2.1), R.gi, R.gu⟩
noncomputable def at2 (l : List (Str × Nat × Addr)) (f : Nat) : Addr := match l.find? (fun p => p.2.1 == f) with
  | some p => p.2.2
  | none => 0

noncomputable def isRefTo (a : Addr) : Option Value → Bool
  | some (.ref b) => a == b
  | _ => false
noncomputable def isIntOf (i : Int) : Option Value → Bool
  | some (.int j _) => i == j
  | _ => false
noncomputable def isNoneV : Value → Bool
  | .none => true
  | _ => false
noncomputable def intsB : List Value → List Int → Bool
  | [], [] => true
  | .int j _ :: vs, i :: is => i == j && intsB vs is
  | _, _ => false
noncomputable def isTyp (s : String) : Value → Bool
  | .type t => t == s
  | _ => false
noncomputable def tupIn (K : Fg) (is : List Int) : Option Value → Bool
  | some (.ref a) => (match K.lookup a with
    | some ⟨c, none, .seq items _, sl⟩ => isTyp "tuple" c && sl.isEmpty && intsB items.toList is && decide (is.length ≤ 1000000)
    | _ => false)
  | _ => false
noncomputable def funIn (K : Fg) (G : GT) (pi : Nat → Option FunDef) (f : Nat) (a : Addr) : Bool := match K.lookup a, pi f with
  | some ⟨_, _, .func fd, _⟩, some d => (match fd.body with
    | .stmts b => chkF G d fd.params b fd.scope
    | _ => false) && fd.closure.isEmpty && fd.globals == 3 && fd.builtins == 0 && isNoneV fd.defaults && isNoneV fd.kwdefaults && PySem.W.codeIn K fd.code fd.qualname
  | _, _ => false
noncomputable def globs (K : Fg) : Option (List DictEntry) := match K.lookup 3 with
  | some ⟨_, _, .dict es _, _⟩ => some es.toList
  | _ => none
/-- all but the classes' own shape -/
noncomputable def rowOk (K : Fg) (R : RT) (pi : Nat → Option FunDef) : Bool := match globs K with
  | some es => R.fns.all (fun p => at2 R.fs p.2.1 == p.2.2 && isRefTo p.2.2 (findL es p.1) && funIn K R.gt pi p.2.1 p.2.2) && R.ms.all (fun p => at2 R.fs p.2.1 == p.2.2 && funIn K R.gt pi p.2.1 p.2.2) &&
      R.cls.all (fun p => at2 R.cls p.2.1 == p.2.2 && isRefTo p.2.2 (findL es p.1)) && R.gi.all (fun p => isIntOf p.2 (findL es p.1)) && R.gu.all (fun p => tupIn K p.2 (findL es p.1)) &&
      tyTab.all (fun p => (findL es p.1).isNone) && biTab.all (fun p => (findL es p.1).isNone)
  | none => false

noncomputable def VE : List Value := [.type "ValueError", .type "Exception", .type "BaseException", .type "object"]
noncomputable def hushed : List Str := ["__init__", "__getattribute__", "__getattr__", "args", "__class__"]
noncomputable def strKey : Value → Bool
  | .str _ _ => true
  | _ => false
noncomputable def quietB (es : List DictEntry) : Bool := es.all (fun e => strKey e.key) && hushed.all (fun x => (findL es x).isNone)

noncomputable def refB (a : Addr) : Option (Option Value) → Bool
  | some (some (.ref b)) => a == b
  | _ => false
noncomputable def bltB (i : String) : Option (Option Value) → Bool
  | some (some (.builtin j)) => i == j
  | _ => false
noncomputable def nonB : Option (Option Value) → Bool
  | some none => true
  | _ => false
noncomputable def fnB : Option Value → Bool
  | some (.type t) => t == "function"
  | _ => false
/-- a class whose instances bear attributes, as the heap has it -/
noncomputable def objB (K : Fg) (R : RT) (c : Nat) (a : Addr) : Bool :=
  PySem.W.hasDictIn K a && (PySem.W.makesIn K a && (PySem.W.keepIn K (.ref a) && (bltB "object.__getattribute__" (PySem.W.findIn K (.ref a) "__getattribute__") && (nonB (PySem.W.findIn K (.ref a) "__getattr__") &&
  (bltB "object.__setattr__" (PySem.W.findIn K (.ref a) "__setattr__") && (PySem.W.plainOver K a && ((List.range 13).all (fun k => nonB (PySem.W.findIn K (.ref a) (kyName k))) &&
  ((match TB.init c with
    | some f => R.fs.any (fun p => p.2.1 == f) && (refB (at2 R.fs f) (PySem.W.findIn K (.ref a) "__init__") && fnB (PySem.W.typeIn K (.ref (at2 R.fs f))))
    | none => true) &&
  mtTab.all fun p => match TB.meth c p.2 with
    | some f => R.fs.any (fun p => p.2.1 == f) && (fnB (PySem.W.typeIn K (.ref (at2 R.fs f))) && refB (at2 R.fs f) (PySem.W.findIn K (.ref a) p.1))
    | none => true))))))))
noncomputable def fragOf (h : Heap) : Fg := (List.range h.objs.size).filterMap fun a => (h.get? a).map fun o => (a, o)
noncomputable def typsB : List Value → List String → Bool
  | [], [] => true
  | .type t :: vs, s :: ss => t == s && typsB vs ss
  | _, _ => false
noncomputable def veN : List String := ["ValueError", "Exception", "BaseException", "object"]
noncomputable def mroB (a a0 : Addr) : List Value → Bool
  | .ref c :: bm => c == a && ((a == a0 && typsB bm veN) || (match bm with
    | .ref b :: r => b == a0 && typsB r veN
    | _ => false))
  | _ => false
noncomputable def newB (l : List (Option Value)) : Bool := l.length == 6 && (match l[4]? with
  | some (some (Value.builtin n)) => n == "ValueError.__new__"
  | _ => false)
noncomputable def excB (K : Fg) (a a0 : Addr) : Bool := match K.lookup a with
  | some ⟨.type ty, _, .cls cd, sl⟩ => ty == "type" && !cd.hasDel && mroB a a0 cd.mro && newB sl.toList && (match K.lookup cd.ns with
    | some ⟨_, _, .dict es _, _⟩ => quietB es.toList
    | _ => false)
  | _ => false
noncomputable def rowB (R : RT) (K : Fg) : Bool := rowOk K R PI && R.cls.all (fun p => if p.2.1 ≤ 5 then excB K p.2.2 (at2 R.cls 0) else objB K R p.2.1 p.2.2) && excB K (at2 R.cls 0) (at2 R.cls 0)
noncomputable def seenB (R : RT) (s : Shared) : Bool := rowB R (fragOf s.heap)
/-! the same in parts: less memory at a time -/
noncomputable def partF (R : RT) (l : List (Str × Nat × Addr)) (s : Shared) : Bool := match globs (fragOf s.heap) with
  | some es => l.all fun p => at2 R.fs p.2.1 == p.2.2 && isRefTo p.2.2 (findL es p.1) && funIn (fragOf s.heap) R.gt PI p.2.1 p.2.2
  | none => false
noncomputable def partM (R : RT) (s : Shared) : Bool := R.ms.all fun p => at2 R.fs p.2.1 == p.2.2 && funIn (fragOf s.heap) R.gt PI p.2.1 p.2.2
noncomputable def partG (R : RT) (s : Shared) : Bool := match globs (fragOf s.heap) with
  | some es => R.cls.all (fun p => at2 R.cls p.2.1 == p.2.2 && isRefTo p.2.2 (findL es p.1)) && R.gi.all (fun p => isIntOf p.2 (findL es p.1)) && R.gu.all (fun p => tupIn (fragOf s.heap) p.2 (findL es p.1)) &&
      tyTab.all (fun p => (findL es p.1).isNone) && biTab.all (fun p => (findL es p.1).isNone)
  | none => false
noncomputable def partC (R : RT) (s : Shared) : Bool := R.cls.all (fun p => if p.2.1 ≤ 5 then excB (fragOf s.heap) p.2.2 (at2 R.cls 0) else objB (fragOf s.heap) R p.2.1 p.2.2) && excB (fragOf s.heap) (at2 R.cls 0) (at2 R.cls 0)
noncomputable def dropAt (is : List Nat) (l : List Stmt) : List Stmt := (l.zipIdx.filter fun x => !is.contains x.2).map (·.1)
noncomputable def viewAt (p : Program) (is : List Nat) : Program := { p with main := { p.main with body := dropAt is p.main.body } }
end Mine
end
section
open PySem PySem.W PyProof.Rows
set_option maxRecDepth 100000
set_option maxHeartbeats 8000000
namespace Mine
noncomputable abbrev r09 : RowW := OpenRow.toRowW (OpenLaw.row PySem.Challenge.rw_uf050004_09)
noncomputable def v09 : Program := viewAt PySem.Challenge.pw_uf050004_09 [0, 1, 2, 3, 4, 5, 6, 7, 8, 9, 10, 11, 12, 13, 14, 15, 16, 17, 18, 19, 20, 21, 22, 23, 24, 25, 26, 27, 28, 29, 30, 31, 32, 33, 34, 35, 36, 37, 38, 39, 40, 41, 42, 43, 44, 45, 46, 47, 48, 49, 50]
noncomputable def loose09 : List Str := (["PressError", "BadPlan", "BadSign", "BadCount", "BadFigures", "Ended", "MOST_COUNT", "FEWEST_SIGNS", "MOST_SIGNS", "MOST_TEXT", "is_among", "is_plan", "need_plan", "need_sign", "need_signs", "share", "behind", "WHOLE", "parted", "within", "stretch_of", "spelled", "figures_in", "figures_around", "pressed", "Writer", "_law_cell_at", "_law_mixed", "_law_whole", "_law_plan", "_law_behind", "_law_signs", "_law_stretch", "_law_within", "_law_figured", "_law_word", "_law_sure", "_law_fewest", "_law_no_plan", "_law_refused", "_law_edge", "_law_made", "_law_take", "_law_end", "_law_seen"] : List String).map Str.ofString
noncomputable def rt09 : RT := ⟨([("is_among", F.is_among, 94), ("is_plan", F.is_plan, 101), ("need_plan", F.need_plan, 108), ("need_sign", F.need_sign, 115), ("need_signs", F.need_signs, 122), ("share", F.share, 129), ("behind", F.behind, 136), ("parted", F.parted, 144), ("within", F.within, 151), ("stretch_of", F.stretch_of, 158), ("spelled", F.spelled, 165), ("figures_in", F.figures_in, 172), ("figures_around", F.figures_around, 179), ("pressed", F.pressed, 186), ("_law_cell_at", F.l_cell_at, 249), ("_law_mixed", F.l_mixed, 256), ("_law_whole", F.l_whole, 263), ("_law_plan", F.l_plan, 268)] : List (Str × Nat × Addr)) ++ ([("_law_behind", F.l_behind, 275), ("_law_signs", F.l_signs, 282), ("_law_stretch", F.l_stretch, 289), ("_law_within", F.l_within, 296), ("_law_word", F.l_word, 310), ("_law_sure", F.l_sure, 317), ("_law_fewest", F.l_fewest09, 324), ("_law_no_plan", F.l_no_plan, 329), ("_law_refused", F.l_refused09, 336), ("_law_edge", F.l_edge09, 343), ("_law_made", F.l_made09, 350), ("_law_take", F.l_take09, 355), ("_law_end", F.l_end, 362), ("_law_seen", F.l_seen09, 367), ("law", F.law09, 372)] : List (Str × Nat × Addr)), [("PressError", 0, 24), ("BadPlan", 1, 37), ("BadSign", 2, 49), ("BadCount", 3, 61), ("BadFigures", 4, 73), ("Ended", 5, 85), ("Writer", 7, 238)], [("MOST_COUNT", 1000000), ("FEWEST_SIGNS", 2), ("MOST_SIGNS", 8), ("MOST_TEXT", 60)], [("WHOLE", [0, 1, 1])], [("Writer.__init__", F.Writer_init, 200), ("need_open", F.Writer_need_open, 207), ("fresh", F.Writer_fresh, 214), ("take", F.Writer_take, 221), ("end", F.Writer_end, 228), ("told", F.Writer_told, 235)]⟩
theorem left09a (w : World) : Option.map (openSeen v09 loose09 (importedModules (Program.main PySem.Challenge.pw_uf050004_09).body) (fun s => xlAt v09 [] s && recOk (RowW.records r09) s) true) (openEnds treeTable PySem.Challenge.pw_uf050004_09 w 3100) = some (openGood v09 loose09) := by kernel_rfl
theorem left09b (w : World) : Option.map (partF rt09 (rt09.fns.take 17)) (openEnds treeTable PySem.Challenge.pw_uf050004_09 w 3100) = some true := by kernel_rfl
theorem left09c (w : World) : Option.map (partF rt09 (rt09.fns.drop 17)) (openEnds treeTable PySem.Challenge.pw_uf050004_09 w 3100) = some true := by kernel_rfl
theorem left09d (w : World) : Option.map (fun s => partM rt09 s && partG rt09 s) (openEnds treeTable PySem.Challenge.pw_uf050004_09 w 3100) = some true := by kernel_rfl
theorem left09e (w : World) : Option.map (partC rt09) (openEnds treeTable PySem.Challenge.pw_uf050004_09 w 3100) = some true := by kernel_rfl
end Mine
end
section
open PySem
open PyProof.Rows
namespace Mine

/-! ## What the machine's state has to do with the abstract one -/
/-- a row's ground: the heap at the law's call, where its functions and classes stand -/
structure Cx where
  prog : Program
  w : World
  base : Heap
  os : OsState
  fa : Nat → Addr
  ca : Nat → Addr
  /-- which of them the row has -/
  hf : Nat → Prop
  hc : Nat → Prop

noncomputable def tyName : Nat → String
  | 0 => "int"
  | 1 => "bool"
  | 2 => "tuple"
  | 3 => "list"
  | 4 => "range"
  | _ => "ValueError"
noncomputable def biName : Nat → String
  | 0 => "len"
  | 1 => "sum"
  | 2 => "min"
  | 3 => "isinstance"
  | _ => "all"

mutual
noncomputable def RV (C : Cx) (h : Heap) : Value → AV → Prop
  | v, .none => v = .none
  | v, .bool b => v = .bool b
  | v, .int i => ∃ t, v = .int i t
  | v, .str s => ∃ t, v = .str s t
  | v, .tup vs => ∃ a ws k, v = .ref a ∧ IsT h a ws.toArray k ∧ RVs C h ws vs ∧ vs.length ≤ 1000000
  | v, .lst a => v = .ref a
  | v, .dct a => v = .ref a
  | v, .obj c a d => v = .ref a ∧ h.get? a = some ⟨.ref (C.ca c), some d, .plain, #[]⟩ ∧ C.hc c ∧ 6 ≤ c
  | v, .exc c a => v = .ref a ∧ C.hc c ∧ ∃ o vs, h.get? a = some o ∧ o.cls = .ref (C.ca c) ∧ o.data = .fields vs
  | v, .fn f => v = .ref (C.fa f) ∧ C.hf f
  | v, .cls c => v = .ref (C.ca c) ∧ C.hc c
  | v, .typ t => v = .type (tyName t)
  | v, .bi b => v = .builtin (biName b)
  | v, .frz a ns => v = .ref a ∧ ∃ ws k, IsL C.base a ws.toArray k ∧ IntsAre ws ns ∧ ns.length ≤ 1000000
  | v, .rng lo hi => ∃ a t u x, v = .ref a ∧ IsRange h a lo hi 1 t u x ∧ Place lo ∧ Place hi
noncomputable def RVs (C : Cx) (h : Heap) : List Value → List AV → Prop
  | [], [] => True
  | v :: vs, a :: as => RV C h v a ∧ RVs C h vs as
  | [], _ :: _ => False
  | _ :: _, [] => False
end

/-- what is never changed: tuples, ranges, instances' heads -/
noncomputable def Imm (o : Obj) : Prop := (o.cls = .type "tuple" ∨ o.cls = .type "range" ∨ ∃ c, o.cls = .ref c ∧ o.data = .plain) ∧ (∀ es n, o.data ≠ .dict es n) ∧ ∀ v, o.data ≠ .cell v
/-- an exception of an own class -/
noncomputable def Exo (o : Obj) : Prop := ∃ c vs, o.cls = .ref c ∧ o.data = .fields vs
theorem Imm.seq {o : Obj} {items : Array Value} {n : Nat} (hc : o.cls = .type "tuple") (hd : o.data = .seq items n) : Imm o := ⟨.inl hc, fun _ _ e => (by rw [hd] at e; cases e), fun _ e => (by rw [hd] at e; cases e)⟩
structure Im (h h' : Heap) : Prop where
  obj : ∀ b o, h.get? b = some o → Imm o → h'.get? b = some o
  exc : ∀ b o c vs, h.get? b = some o → o.cls = .ref c → o.data = .fields vs → ∃ o' vs', h'.get? b = some o' ∧ o'.cls = .ref c ∧ o'.data = .fields vs'

mutual
theorem RV.mono {C : Cx} {h h' : Heap} (k : Im h h') : ∀ {v : Value} (a : AV), RV C h v a → RV C h' v a
  | _, .none, x => x
  | _, .bool _, x => x
  | _, .int _, x => x
  | _, .str _, x => x
  | _, .tup vs, x => by
    obtain ⟨a, ws, n, e, ho, hv, hs⟩ := x
    exact ⟨a, ws, n, e, k.obj a _ ho (.seq rfl rfl), RVs.mono k vs hv, hs⟩
  | _, .lst _, x => x
  | _, .dct _, x => x
  | _, .obj _ _ _, x => by
    exact ⟨x.1, k.obj _ _ x.2.1 ⟨.inr (.inr ⟨_, rfl, rfl⟩), nofun, nofun⟩, x.2.2⟩
  | _, .exc _ _, x => by
    obtain ⟨e, hh, o, vs, ho, hc, hd⟩ := x
    exact ⟨e, hh, k.exc _ _ _ _ ho hc hd⟩
  | _, .fn _, x => x
  | _, .cls _, x => x
  | _, .typ _, x => x
  | _, .bi _, x => x
  | _, .frz _ _, x => x
  | _, .rng _ _, x => by
    obtain ⟨a, t, u, z, e, hr, hp⟩ := x
    exact ⟨a, t, u, z, e, k.obj _ _ hr ⟨.inr (.inl rfl), nofun, nofun⟩, hp⟩
theorem RVs.mono {C : Cx} {h h' : Heap} (k : Im h h') : ∀ {vs : List Value} (as : List AV), RVs C h vs as → RVs C h' vs as
  | [], [], x => x
  | _ :: _, a :: as, x => ⟨RV.mono k a x.1, RVs.mono k as x.2⟩
  | [], _ :: _, x => x.elim
  | _ :: _, [], x => x.elim
end

noncomputable def RPs (C : Cx) (h : Heap) : List (Str × Value) → List (Nat × AV) → Prop
  | [], [] => True
  | p :: ps, q :: qs => (p.1 = kyName q.1 ∧ q.1 ≤ 12 ∧ RV C h p.2 q.2) ∧ RPs C h ps qs
  | [], _ :: _ => False
  | _ :: _, [] => False
theorem RPs.mono {C : Cx} {h h' : Heap} (k : Im h h') : ∀ {ps : List (Str × Value)} (qs : List (Nat × AV)), RPs C h ps qs → RPs C h' ps qs
  | [], [], x => x
  | _ :: _, _ :: qs, x => ⟨⟨x.1.1, x.1.2.1, RV.mono k _ x.1.2.2⟩, RPs.mono k qs x.2⟩
  | [], _ :: _, x => x.elim
  | _ :: _, [], x => x.elim

/-- a list, a dict of the abstract heap in the machine's -/
inductive ROl (C : Cx) (h : Heap) (a : Addr) (vs : List AV) : Prop
  | mk (ws : List Value) (k : Nat) (hl : IsL h a ws.toArray k) (hr : RVs C h ws vs) (hs : vs.length ≤ 1000000) : ROl C h a vs
inductive ROd (C : Cx) (h : Heap) (a : Addr) (kvs : List (Nat × AV)) : Prop
  | mk (ps : List (Str × Value)) (hd : h.DictOf (strKind C.prog C.w) a ps) (hp : RPs C h ps kvs) (hs : kvs.length ≤ 30) : ROd C h a kvs
/-- an abstract object and the machine's -/
noncomputable def RO (C : Cx) (h : Heap) (a : Addr) : AO → Prop
  | .lst vs => ROl C h a vs
  | .dct kvs => ROd C h a kvs

structure Fm where
  env : Env
  outer : List Env
  ce : Option Env
noncomputable def Fm.cur (M : Fm) : Env := M.ce.getD M.env
noncomputable def Own (M : Fm) (b : Addr) : Prop := b = M.env.locals ∨ (∃ x, (x, b) ∈ M.env.cells) ∨ ∃ e, M.ce = some e ∧ b = e.locals
noncomputable def frs (M : Fm) : List Addr := M.outer.filterMap (·.frame)

structure FmOk (C : Cx) (M : Fm) : Prop where
  kind : M.env.scope.kind = .function
  glob : M.env.globals = mainGlobals
  bi : M.env.builtins = builtinsNs
  frame : M.env.frame = some M.env.locals
  above : C.base.objs.size ≤ M.env.locals
  nodup : (M.env.scope.names.map (·.1)).Nodup
  cellsN : (M.env.cells.map (·.1)).Nodup
  cellsA : M.env.cells.Pairwise fun x y => x.2 ≠ y.2
  cellsL : ∀ x c, (x, c) ∈ M.env.cells → c ≠ M.env.locals
  out : ∀ b ∈ frs M, ¬ Own M b
  cek : ∀ e, M.ce = some e → e.scope.kind = .function ∧ e.globals = mainGlobals ∧ e.builtins = builtinsNs ∧ e.frame = some M.env.locals ∧ (e.scope.names.map (·.1)).Nodup ∧ e.locals ≠ M.env.locals
  ceC : ∀ e, M.ce = some e → ∀ x c, (x, c) ∈ M.env.cells → c ≠ e.locals
  ceF : ∀ e, M.ce = some e → ∀ x, e.kindOf x = some .cell → ∃ c, e.cells.lookup x = some c ∧ M.env.cells.lookup x = some c

structure Rel (C : Cx) (M : Fm) (σ : AS) (s : Shared) : Prop where
  keep : ∀ b o, C.base.get? b = some o → s.heap.get? b = some o
  os : s.os = C.os
  gens : s.gens = #[]
  ns : ∃ m, s.heap.Ns M.env.locals m ∧ ∀ i x av, M.env.scope.names[i]? = some (x, .local) → lk σ.loc i = some av → ∃ v, m x = some v ∧ RV C s.heap v av
  cells : ∀ i x, M.env.scope.names[i]? = some (x, .cell) → ∃ c vo, M.env.cells.lookup x = some c ∧ s.heap.IsCell c vo ∧ ∀ av, lk σ.loc i = some av → ∃ v, vo = some v ∧ RV C s.heap v av
  cns : ∀ e, M.ce = some e → ∃ m, s.heap.Ns e.locals m ∧ ∀ i x av, e.scope.names[i]? = some (x, .local) → lk σ.cv i = some av → ∃ v, m x = some v ∧ RV C s.heap v av
  ho : ∀ a o, σ.H a = some o → RO C s.heap a o ∧ C.base.get? a = none
  own : ∀ b, Own M b → σ.H b = none ∧ C.base.get? b = none
  celld : ∀ x c, (x, c) ∈ M.env.cells → ∃ vo, s.heap.IsCell c vo
  frames : s.heap.FunFrames C.base (M.env :: M.outer)
  frsH : ∀ b ∈ frs M, σ.H b = none
  frD : ∀ b ∈ frs M, ∃ o es n, s.heap.get? b = some o ∧ o.data = .dict es n

structure Ext (M : Fm) (σ : AS) (s : Shared) (σ' : AS) (s' : Shared) : Prop where
  kept : ∀ b o, s.heap.get? b = some o → ¬ Own M b → σ.H b = none → (b ∉ frs M → s'.heap.get? b = some o) ∧ ∃ sl, s'.heap.get? b = some { o with slots := sl }
  stay : ∀ b o, s.heap.get? b = some o → ∃ o', s'.heap.get? b = some o'
  new : ∀ a, σ'.H a ≠ none → σ.H a ≠ none ∨ s.heap.get? a = none
  hd : σ'.hd = σ.hd

theorem Ext.refl (M : Fm) (σ : AS) (s : Shared) : Ext M σ s σ s :=
  ⟨fun _ o e _ _ => ⟨fun _ => e, o.slots, e⟩, fun _ o e => ⟨o, e⟩, fun _ h => .inl h, rfl⟩

theorem Ext.trans {M : Fm} {σ σ₁ σ₂ : AS} {s s₁ s₂ : Shared} (x : Ext M σ s σ₁ s₁) (y : Ext M σ₁ s₁ σ₂ s₂) : Ext M σ s σ₂ s₂ := by
  refine ⟨fun b o e no nH => ?_, fun b o e => ?_, fun a h => ?_, y.hd.trans x.hd⟩
  · have n1 : σ₁.H b = none := by
      cases q : σ₁.H b with
      | none => rfl
      | some v =>
        rcases x.new b (by rw [q]; simp) with z | z
        · exact absurd nH z
        · rw [z] at e; cases e
    obtain ⟨k1, sl, k2⟩ := x.kept b o e no nH
    obtain ⟨_, sl', k4⟩ := y.kept b _ k2 no n1
    exact ⟨fun hb => (y.kept b o (k1 hb) no n1).1 hb, sl', k4⟩
  · obtain ⟨o', e'⟩ := x.stay b o e
    exact y.stay b o' e'
  · rcases y.new a h with z | z
    · exact x.new a z
    · right
      cases q : s.heap.get? a with
      | none => rfl
      | some o =>
        obtain ⟨o', e'⟩ := x.stay a o q
        rw [z] at e'; cases e'

/-- everything stands as it stood -/
theorem Ext.keeps {M : Fm} {σ : AS} {s s' : Shared} (k : ∀ b o, s.heap.get? b = some o → s'.heap.get? b = some o) : Ext M σ s σ s' :=
  ⟨fun b o e _ _ => ⟨fun _ => k b o e, o.slots, k b o e⟩, fun b o e => ⟨o, k b o e⟩, fun _ h => .inl h, rfl⟩

theorem Im.keeps {h h' : Heap} (k : ∀ b o, h.get? b = some o → h'.get? b = some o) : Im h h' := ⟨fun b o e _ => k b o e, fun b o _ vs e hc hd => ⟨o, vs, k b o e, hc, hd⟩⟩
/-- neither of the two -/
noncomputable def Mut (o : Obj) : Prop := ¬ Imm o ∧ ¬ Exo o

theorem Mut.list {o : Obj} {items : Array Value} {n : Nat} (hc : o.cls = .type "list") (hd : o.data = .seq items n) : Mut o :=
  ⟨fun ⟨q, _⟩ => by rcases q with q | q | ⟨c, q, _⟩ <;> rw [hc] at q <;> simp at q, fun ⟨c, vs, q, _⟩ => by rw [hc] at q; cases q⟩
theorem Mut.dict {o : Obj} {es : Array DictEntry} {n : Nat} (hd : o.data = .dict es n) : Mut o :=
  ⟨fun q => q.2.1 _ _ hd, fun ⟨_, _, _, q⟩ => by rw [hd] at q; cases q⟩
theorem Mut.cell {o : Obj} {v : Option Value} (hd : o.data = .cell v) : Mut o :=
  ⟨fun q => q.2.2 _ hd, fun ⟨_, _, _, q⟩ => by rw [hd] at q; cases q⟩
theorem RO.mut {C : Cx} {h : Heap} {a : Addr} {ao : AO} (x : RO C h a ao) {o : Obj} (e : h.get? a = some o) : Mut o := by
  cases ao with
  | lst vs =>
    obtain ⟨ws, n, e', _⟩ := x
    rw [e'] at e; cases e
    exact .list (items := ws.toArray) (n := n) rfl rfl
  | dct _ =>
    obtain ⟨ps, ⟨o', es, ep, e', _, hd, _⟩, _⟩ := x
    rw [e'] at e; cases e
    exact .dict hd
theorem Ns.mut {h : Heap} {a : Addr} {m : Str → Option Value} (x : h.Ns a m) {o : Obj} (e : h.get? a = some o) : Mut o := by
  obtain ⟨o', es, ep, e', hd, _⟩ := x
  rw [e'] at e; cases e
  exact .dict hd
theorem IsCell.mut {h : Heap} {a : Addr} {v : Option Value} (x : h.IsCell a v) {o : Obj} (e : h.get? a = some o) : Mut o := by
  obtain ⟨o', e', hd⟩ := x
  rw [e'] at e; cases e
  exact .cell hd

section
variable {C : Cx} {M : Fm} {σ σ' : AS} {s s' : Shared}
theorem Rel.ownMut (R : Rel C M σ s) {b : Addr} (hb : Own M b) {o : Obj} (e : s.heap.get? b = some o) : Mut o := by
  rcases hb with rfl | ⟨x, hx⟩ | ⟨ce, hc, rfl⟩
  · obtain ⟨m, hn, _⟩ := R.ns; exact Ns.mut hn e
  · obtain ⟨vo, hv⟩ := R.celld _ _ hx; exact IsCell.mut hv e
  · obtain ⟨m, hn, _⟩ := R.cns _ hc; exact Ns.mut hn e
theorem Rel.frMut (R : Rel C M σ s) {b : Addr} (hb : b ∈ frs M) {o : Obj} (e : s.heap.get? b = some o) : Mut o := by
  obtain ⟨o', es, n, e', hd⟩ := R.frD b hb
  rw [e'] at e; cases e
  exact .dict hd
/-- what is never changed stays through a step -/
theorem Ext.im (R : Rel C M σ s) (x : Ext M σ s σ' s') : Im s.heap s'.heap := by
  have key : ∀ b o, s.heap.get? b = some o → ¬ Mut o → s'.heap.get? b = some o := fun b o e hi => by
    have nH : σ.H b = none := by
      cases q : σ.H b with
      | none => rfl
      | some ao => exact absurd ((R.ho b ao q).1.mut e) hi
    exact (x.kept b o e (fun q => hi (R.ownMut q e)) nH).1 fun q => hi (R.frMut q e)
  exact ⟨fun b o e hi => key b o e fun q => q.1 hi, fun b o c vs e hc hd => ⟨o, vs, key b o e fun q => q.2 ⟨c, vs, hc, hd⟩, hc, hd⟩⟩
end

end Mine
end
section
open PySem
open PyProof.Rows
namespace Mine

theorem Im.extBut {a : Addr} {h h' : Heap} (x : Heap.ExtBut a h h') (n : ∀ o, h.get? a = some o → Mut o) : Im h h' :=
  ⟨fun b o e hi => x b o (fun q => (n o (q ▸ e)).1 hi) e, fun b o c vs e hc hd => ⟨o, vs, x b o (fun q => (n o (q ▸ e)).2 ⟨c, vs, hc, hd⟩) e, hc, hd⟩⟩

theorem RO.keeps {C : Cx} {h h' : Heap} {a : Addr} {ao : AO} (x : RO C h a ao) (k : ∀ o, h.get? a = some o → h'.get? a = some o) (i : Im h h') : RO C h' a ao := by
  cases ao with
  | lst vs =>
    refine byc fun no => ?_
    obtain ⟨ws, n, ho, hv, hs⟩ := x
    refine no ?_; clear no
    exact ⟨ws, n, k _ ho, RVs.mono i vs hv, hs⟩
  | dct _ =>
    refine byc fun no => ?_
    obtain ⟨ps, ⟨o, es, ep, ho, r⟩, hp, hs⟩ := x
    refine no ?_; clear no
    exact ⟨ps, ⟨o, es, ep, k _ ho, r⟩, RPs.mono i _ hp, hs⟩

theorem IsCell.keeps1 {h h' : Heap} {c : Addr} {v : Option Value} (x : h.IsCell c v) (k : ∀ o, h.get? c = some o → h'.get? c = some o) : h'.IsCell c v :=
  let ⟨o, ho, hd⟩ := x; ⟨o, k o ho, hd⟩
theorem Ns.keeps1 {h h' : Heap} {a : Addr} {m : Str → Option Value} (x : h.Ns a m) (k : ∀ o, h.get? a = some o → h'.get? a = some o) : h'.Ns a m :=
  let ⟨o, es, ep, ho, r⟩ := x; ⟨o, es, ep, k o ho, r⟩

section
variable {C : Cx} {M : Fm} {σ σ' : AS} {s s' : Shared}

/-- everything stands as it stood -/
theorem Rel.keeps (R : Rel C M σ s) (k : ∀ b o, s.heap.get? b = some o → s'.heap.get? b = some o) (hos : s'.os = s.os := by rfl) (hg : s'.gens = s.gens := by rfl) : Rel C M σ s' where
  keep b o e := k b o (R.keep b o e)
  os := hos.trans R.os
  gens := hg.trans R.gens
  ns := let ⟨m, hn, h⟩ := R.ns; ⟨m, hn.keeps k, fun i x av e1 e2 => let ⟨v, hv, r⟩ := h i x av e1 e2; ⟨v, hv, r.mono (.keeps k)⟩⟩
  cells i x e := let ⟨c, vo, e1, e2, h⟩ := R.cells i x e; ⟨c, vo, e1, e2.keeps k, fun av e3 => let ⟨v, hv, r⟩ := h av e3; ⟨v, hv, r.mono (.keeps k)⟩⟩
  cns e he := let ⟨m, hn, h⟩ := R.cns e he; ⟨m, hn.keeps k, fun i x av e1 e2 => let ⟨v, hv, r⟩ := h i x av e1 e2; ⟨v, hv, r.mono (.keeps k)⟩⟩
  ho a o e := ⟨(R.ho a o e).1.keeps (fun ob q => k a ob q) (.keeps k), (R.ho a o e).2⟩
  own := R.own
  celld x c e := let ⟨vo, h⟩ := R.celld x c e; ⟨vo, h.keeps k⟩
  frames := R.frames.of_keeps fun b o e _ => ⟨o, k b o e, rfl⟩
  frsH := R.frsH
  frD b hb := let ⟨o, es, n, e, hd⟩ := R.frD b hb; ⟨o, es, n, k b o e, hd⟩

theorem Rel.toks (R : Rel C M σ s) (t : Nat) : Rel C M σ { s with toks := t } := R.keeps fun _ _ e => e

theorem Rel.notH (R : Rel C M σ s) : σ.H s.heap.objs.size = none := by
  cases q : σ.H s.heap.objs.size with
  | none => rfl
  | some ao =>
    have := (R.ho _ _ q).1
    cases ao with
    | lst vs => obtain ⟨ws, n, ho, _⟩ := this; exact absurd (Heap.lt_size ho) (Nat.lt_irrefl _)
    | dct _ => obtain ⟨ps, ⟨o, es, ep, ho, _⟩, _⟩ := this; exact absurd (Heap.lt_size ho) (Nat.lt_irrefl _)
theorem get_none_of_ge {h : Heap} {a : Addr} (ha : h.objs.size ≤ a) : h.get? a = none := by
  cases q : h.get? a with
  | none => rfl
  | some o => exact absurd (Heap.lt_size q) (Nat.not_lt.mpr ha)
theorem funFrames_of {h h' base : Heap} : ∀ {l : List Env}, h.FunFrames base l → (∀ env ∈ l, ∀ L, env.frame = some L → ∀ o, h.get? L = some o → ∃ sl, h'.get? L = some { o with slots := sl }) → h'.FunFrames base l
  | [], _, _ => trivial
  | env :: _, ⟨hk, ⟨L, o, hf, hn, ho, hd⟩, hr⟩, k => by
    obtain ⟨sl, e⟩ := k env (.head _) L hf o ho
    exact ⟨hk, ⟨L, _, hf, hn, e, hd⟩, funFrames_of hr fun e he => k e (.tail _ he)⟩

theorem mem_frs {M : Fm} {e : Env} {L : Addr} (he : e ∈ M.outer) (hL : e.frame = some L) : L ∈ frs M := List.mem_filterMap.mpr ⟨e, he, hL⟩

/-- one object of the abstract heap is new, or is changed -/
theorem Rel.change (R : Rel C M σ s) (hM : M.env.frame = some M.env.locals) {a : Addr} {ao : AO} {h' : Heap} (hx : Heap.ExtBut a s.heap h') (hro : RO C h' a ao) (hn : σ.H a ≠ none ∨ s.heap.get? a = none) (t : Nat) :
    Rel C M { σ with H := σ.H.upd a ao } { s with heap := h', toks := t } ∧ Ext M σ s { σ with H := σ.H.upd a ao } { s with heap := h', toks := t } := by
  have hnot : ∀ o, s.heap.get? a = some o → Mut o := fun o e => by
    rcases hn with q | q
    · obtain ⟨x, hx⟩ := Option.ne_none_iff_exists'.mp q
      exact (R.ho a _ hx).1.mut e
    · rw [q] at e; cases e
  have hb : C.base.get? a = none := by
    rcases hn with q | q
    · obtain ⟨x, hx⟩ := Option.ne_none_iff_exists'.mp q
      exact (R.ho a _ hx).2
    · cases z : C.base.get? a with
      | none => rfl
      | some o => rw [R.keep a o z] at q; cases q
  have i : Im s.heap h' := .extBut hx hnot
  have no : ∀ b, Own M b → b ≠ a := fun b ho q => by
    subst q
    rcases hn with q | q
    · exact q (R.own b ho).1
    · rcases ho with rfl | ⟨x, hx⟩ | ⟨e, he, rfl⟩
      · obtain ⟨m, ⟨o, _, _, e, _⟩, _⟩ := R.ns; rw [q] at e; cases e
      · obtain ⟨vo, o, e, _⟩ := R.celld _ _ hx; rw [q] at e; cases e
      · obtain ⟨m, ⟨o, _, _, e, _⟩, _⟩ := R.cns _ he; rw [q] at e; cases e
  have nf : ∀ b, b ∈ frs M → b ≠ a := fun b ho q => by
    subst q
    rcases hn with q | q
    · exact q (R.frsH b ho)
    · obtain ⟨o, _, _, e, _⟩ := R.frD b ho; rw [q] at e; cases e
  have hH : ∀ b, b ≠ a → (σ.H.upd a ao) b = σ.H b := fun b hb => by simp [AH.upd, hb]
  refine ⟨⟨fun b o e => hx b o (fun q => by rw [q, hb] at e; cases e) (R.keep b o e), R.os, R.gens, ?_, ?_, ?_, fun b o e => ?_, fun b hb => ⟨?_, (R.own b hb).2⟩, ?_, ?_, fun b hb => ?_, ?_⟩, ⟨fun b o e hno hnH => ?_, fun b o e => ?_, fun b h => ?_, rfl⟩⟩
  · obtain ⟨m, hn, h⟩ := R.ns
    exact ⟨m, Ns.keeps1 hn fun o e => hx _ _ (no _ (.inl rfl)) e, fun i' x av e1 e2 => let ⟨v, hv, r⟩ := h i' x av e1 e2; ⟨v, hv, r.mono i⟩⟩
  · intro j x e
    refine byc fun no => ?_
    obtain ⟨c, vo, e1, e2, h⟩ := R.cells j x e
    refine no ?_; clear no
    exact ⟨c, vo, e1, IsCell.keeps1 e2 fun o e => hx _ _ (no _ (.inr (.inl ⟨x, mem_of_lookup e1⟩))) e, fun av e3 => let ⟨v, hv, r⟩ := h av e3; ⟨v, hv, r.mono i⟩⟩
  · intro e he
    obtain ⟨m, hn, h⟩ := R.cns e he
    exact ⟨m, Ns.keeps1 hn fun o q => hx _ _ (no _ (.inr (.inr ⟨e, he, rfl⟩))) q, fun i' x av e1 e2 => let ⟨v, hv, r⟩ := h i' x av e1 e2; ⟨v, hv, r.mono i⟩⟩
  · change (σ.H.upd a ao) b = some o at e
    by_cases hba : b = a
    · subst hba
      simp only [AH.upd, if_true, Option.some.injEq] at e
      subst e
      exact ⟨hro, hb⟩
    · rw [hH b hba] at e
      exact ⟨(R.ho b o e).1.keeps (fun ob q => hx b ob hba q) i, (R.ho b o e).2⟩
  · show (σ.H.upd a ao) b = none
    rw [hH b (no b hb)]; exact (R.own b hb).1
  · intro x c e
    obtain ⟨vo, h⟩ := R.celld x c e
    exact ⟨vo, IsCell.keeps1 h fun o q => hx _ _ (no _ (.inr (.inl ⟨x, e⟩))) q⟩
  · refine funFrames_of R.frames fun e he L hL o ho => ⟨o.slots, hx L o ?_ ho⟩
    rcases List.mem_cons.mp he with rfl | he
    · rw [hM] at hL; cases hL; exact no _ (.inl rfl)
    · exact nf _ (mem_frs he hL)
  · show (σ.H.upd a ao) b = none
    rw [hH b (nf b hb)]; exact R.frsH b hb
  · intro b hb
    refine byc fun no => ?_
    obtain ⟨o, es, n, e, hd⟩ := R.frD b hb
    refine no ?_; clear no
    exact ⟨o, es, n, hx b o (nf b hb) e, hd⟩
  · have hba : b ≠ a := fun q => by
      subst q
      rcases hn with q | q
      · exact q hnH
      · rw [q] at e; cases e
    exact ⟨fun _ => hx b o hba e, o.slots, hx b o hba e⟩
  · by_cases hba : b = a
    · subst hba
      cases ao with
      | lst vs => obtain ⟨ws, n, ho', _⟩ := hro; exact ⟨_, ho'⟩
      | dct _ => obtain ⟨ps, ⟨o', _, _, ho', _⟩, _⟩ := hro; exact ⟨_, ho'⟩
    · exact ⟨o, hx b o hba e⟩
  · change (σ.H.upd a ao) b ≠ none at h
    by_cases hba : b = a
    · subst hba; exact hn
    · rw [hH b hba] at h; exact .inl h

/-- one of the frame's own objects is changed: its other ones, and all else, stand -/
theorem Rel.store (R : Rel C M σ s) {a : Addr} {h' : Heap} (ha : Own M a) (hx : Heap.ExtBut a s.heap h') {o' : Obj} (ho : h'.get? a = some o') (hfr : a ∉ frs M)
    (t : Nat) {loc cv : List (Option AV)}
    (ns : ∃ m, h'.Ns M.env.locals m ∧ ∀ i x av, M.env.scope.names[i]? = some (x, .local) → lk loc i = some av → ∃ v, m x = some v ∧ RV C h' v av)
    (cells : ∀ i x, M.env.scope.names[i]? = some (x, .cell) → ∃ c vo, M.env.cells.lookup x = some c ∧ h'.IsCell c vo ∧ ∀ av, lk loc i = some av → ∃ v, vo = some v ∧ RV C h' v av)
    (cns : ∀ e, M.ce = some e → ∃ m, h'.Ns e.locals m ∧ ∀ i x av, e.scope.names[i]? = some (x, .local) → lk cv i = some av → ∃ v, m x = some v ∧ RV C h' v av)
    (celld : ∀ x c, (x, c) ∈ M.env.cells → ∃ vo, h'.IsCell c vo) (hM : M.env.frame = some M.env.locals) (hk : M.env.scope.kind = .function) :
    Rel C M { σ with loc := loc, cv := cv } { s with heap := h', toks := t } ∧ Ext M σ s { σ with loc := loc, cv := cv } { s with heap := h', toks := t } := by
  have i : Im s.heap h' := .extBut hx fun o e => R.ownMut ha e
  refine ⟨⟨fun b o e => hx b o (fun q => ?_) (R.keep b o e), R.os, R.gens, ns, cells, cns, fun b o e => ?_, R.own, celld, ?_, R.frsH, ?_⟩, ⟨fun b o e hno hnH => ?_, fun b o e => ?_, fun b h => .inl h, rfl⟩⟩
  · rw [q, (R.own a ha).2] at e; cases e
  · have hba : b ≠ a := fun q => by have := (R.own a ha).1; rw [← q] at this; rw [show σ.H b = some o from e] at this; cases this
    exact ⟨(R.ho b o e).1.keeps (fun ob q => hx b ob hba q) i, (R.ho b o e).2⟩
  · obtain ⟨m, hn, _⟩ := ns
    exact Heap.FunFrames.cons (by rw [hk]; decide) hM hn (R.own _ (.inl rfl)).2 (funFrames_of R.frames.2.2 fun e he L hL o ho' => ⟨o.slots, hx _ _ (fun q => hfr (q ▸ mem_frs he hL)) ho'⟩)
  · intro b hb
    refine byc fun no => ?_
    obtain ⟨o, es, n, e, hd⟩ := R.frD b hb
    refine no ?_; clear no
    exact ⟨o, es, n, hx b o (fun q => hfr (q ▸ hb)) e, hd⟩
  · have hba : b ≠ a := fun q => hno (q ▸ ha)
    exact ⟨fun _ => hx b o hba e, o.slots, hx b o hba e⟩
  · by_cases hba : b = a
    · subst hba; exact ⟨o', ho⟩
    · exact ⟨o, hx b o hba e⟩

theorem lk_set : ∀ (l : List (Option AV)) (i j : Nat) (x : Option AV) (a : AV), lk (l.set i x) j = some a → (j = i ∧ x = some a) ∨ (j ≠ i ∧ lk l j = some a)
  | [], i, j, x, a, h => by simp [lk] at h
  | y :: r, 0, 0, x, a, h => .inl ⟨rfl, h⟩
  | y :: r, 0, j + 1, x, a, h => .inr ⟨by omega, h⟩
  | y :: r, i + 1, 0, x, a, h => .inr ⟨by omega, h⟩
  | y :: r, i + 1, j + 1, x, a, h => by
    rcases lk_set r i j x a h with ⟨h1, h2⟩ | ⟨h1, h2⟩
    · exact .inl ⟨by omega, h2⟩
    · exact .inr ⟨by omega, h2⟩

theorem nodup_idx {α : Type} : ∀ {l : List (Str × α)} (_ : (l.map (·.1)).Nodup) {i j : Nat} {x : Str} {a b : α}, l[i]? = some (x, a) → l[j]? = some (x, b) → i = j
  | [], _, i, j, x, a, b, h, _ => by simp at h
  | y :: r, hn, 0, 0, x, a, b, _, _ => rfl
  | y :: r, hn, 0, j + 1, x, a, b, h, h' => by
    simp only [List.getElem?_cons_zero, Option.some.injEq, List.getElem?_cons_succ] at h h'
    subst h
    exact absurd (List.mem_map_of_mem (f := (·.1)) (List.mem_of_getElem? h')) (List.nodup_cons.mp hn).1
  | y :: r, hn, i + 1, 0, x, a, b, h, h' => by
    simp only [List.getElem?_cons_zero, Option.some.injEq, List.getElem?_cons_succ] at h h'
    subst h'
    exact absurd (List.mem_map_of_mem (f := (·.1)) (List.mem_of_getElem? h)) (List.nodup_cons.mp hn).1
  | y :: r, hn, i + 1, j + 1, x, a, b, h, h' => by
    simp only [List.getElem?_cons_succ] at h h'
    exact congrArg (· + 1) (nodup_idx (List.nodup_cons.mp hn).2 h h')

theorem lookup_of_idx {α : Type} : ∀ {l : List (Str × α)} (_ : (l.map (·.1)).Nodup) {i : Nat} {x : Str} {a : α}, l[i]? = some (x, a) → l.lookup x = some a
  | [], _, i, x, a, h => by simp at h
  | y :: r, hn, 0, x, a, h => by
    simp only [List.getElem?_cons_zero, Option.some.injEq] at h
    subst h; simp
  | y :: r, hn, i + 1, x, a, h => by
    simp only [List.getElem?_cons_succ] at h
    have hm := List.mem_map_of_mem (f := (·.1)) (List.mem_of_getElem? h)
    have hne : x ≠ y.1 := fun q => (List.nodup_cons.mp hn).1 (by show y.1 ∈ _; rw [← q]; exact hm)
    have hb : (x == y.1) = false := beq_eq_false_iff_ne.mpr hne
    rw [List.lookup_cons, hb]
    exact lookup_of_idx (List.nodup_cons.mp hn).2 h


/-- a local is stored -/
theorem Rel.storeL (F : FmOk C M) (R : Rel C M σ s) {i : Nat} {x : Str} {v : Value} {av : AV} (hi : M.env.scope.names[i]? = some (x, .local)) (hv : RV C s.heap v av) {m : Str → Option Value} {h' : Heap}
    (hm : ∀ i x av, M.env.scope.names[i]? = some (x, .local) → lk σ.loc i = some av → ∃ v, m x = some v ∧ RV C s.heap v av)
    (hn : h'.Ns M.env.locals (fun y => if y = x then some v else m y)) (hx : Heap.SameBut M.env.locals s.heap h') (t : Nat) :
    Rel C M { σ with loc := σ.loc.set i (some av) } { s with heap := h', toks := t } ∧ Ext M σ s { σ with loc := σ.loc.set i (some av) } { s with heap := h', toks := t } := by
  have own : Own M M.env.locals := .inl rfl
  have im : Im s.heap h' := .extBut hx.extBut fun o e => R.ownMut own e
  have k : ∀ b, b ≠ M.env.locals → h'.get? b = s.heap.get? b := hx.2
  refine byc fun no => ?_
  obtain ⟨o', _, _, ho', _⟩ := id hn
  refine no ?_; clear no
  refine R.store own hx.extBut ho' (fun q => F.out _ q own) t ⟨_, hn, fun j y a e1 e2 => ?_⟩ (fun j y e => ?_) (fun e he => ?_) (fun y c e => ?_) F.frame F.kind
  · rcases lk_set _ _ _ _ _ e2 with ⟨q, e⟩ | ⟨q, e⟩
    · subst q
      rw [hi] at e1; cases e1
      cases e
      exact ⟨v, by simp, hv.mono im⟩
    · obtain ⟨v', h1, h2⟩ := hm j y a e1 e
      have : y ≠ x := fun z => q (nodup_idx F.nodup (z ▸ e1) hi)
      exact ⟨v', by simp [this, h1], h2.mono im⟩
  · refine byc fun no => ?_
    obtain ⟨c, vo, e1, e2, h⟩ := R.cells j y e
    refine no ?_; clear no
    refine ⟨c, vo, e1, IsCell.keeps1 e2 fun o q => (k c (F.cellsL _ _ (mem_of_lookup e1))).trans q, fun a e3 => ?_⟩
    rcases lk_set _ _ _ _ _ e3 with ⟨q, e'⟩ | ⟨q, e'⟩
    · subst q; rw [hi] at e; cases e
    · obtain ⟨v', h1, h2⟩ := h a e'
      exact ⟨v', h1, h2.mono im⟩
  · obtain ⟨m', hn', h⟩ := R.cns e he
    exact ⟨m', Ns.keeps1 hn' fun o q => (k _ (F.cek e he).2.2.2.2.2).trans q, fun j y a e1 e2 => let ⟨v', h1, h2⟩ := h j y a e1 e2; ⟨v', h1, h2.mono im⟩⟩
  · obtain ⟨vo, h⟩ := R.celld y c e
    exact ⟨vo, IsCell.keeps1 h fun o q => (k c (F.cellsL _ _ e)).trans q⟩

/-- a local that a comprehension looks at is stored -/
theorem Rel.storeC (F : FmOk C M) (R : Rel C M σ s) {i : Nat} {x : Str} {c : Addr} {v : Value} {av : AV} (hi : M.env.scope.names[i]? = some (x, .cell)) (hc : M.env.cells.lookup x = some c) (hv : RV C s.heap v av) {h' : Heap}
    (hn : h'.IsCell c (some v)) (hx : Heap.SameBut c s.heap h') (t : Nat) :
    Rel C M { σ with loc := σ.loc.set i (some av) } { s with heap := h', toks := t } ∧ Ext M σ s { σ with loc := σ.loc.set i (some av) } { s with heap := h', toks := t } := by
  have own : Own M c := .inr (.inl ⟨x, mem_of_lookup hc⟩)
  have im : Im s.heap h' := .extBut hx.extBut fun o e => R.ownMut own e
  have k : ∀ b, b ≠ c → h'.get? b = s.heap.get? b := hx.2
  obtain ⟨o', ho', _⟩ := id hn
  refine R.store own hx.extBut ho' (fun q => F.out _ q own) t ?_ (fun j y e => ?_) (fun e he => ?_) (fun y d e => ?_) F.frame F.kind
  · obtain ⟨m, hm, h⟩ := R.ns
    refine ⟨m, Ns.keeps1 hm fun o q => (k _ (F.cellsL _ _ (mem_of_lookup hc)).symm).trans q, fun j y a e1 e2 => ?_⟩
    rcases lk_set _ _ _ _ _ e2 with ⟨q, e'⟩ | ⟨q, e'⟩
    · subst q; rw [hi] at e1; cases e1
    · obtain ⟨v', h1, h2⟩ := h j y a e1 e'
      exact ⟨v', h1, h2.mono im⟩
  · refine byc fun no => ?_
    obtain ⟨d, vo, e1, e2, h⟩ := R.cells j y e
    refine no ?_; clear no
    by_cases hj : j = i
    · subst hj
      rw [hi] at e; cases e
      rw [hc] at e1; cases e1
      refine ⟨c, some v, hc, hn, fun a e3 => ?_⟩
      rcases lk_set _ _ _ _ _ e3 with ⟨_, e'⟩ | ⟨q, _⟩
      · cases e'; exact ⟨v, rfl, hv.mono im⟩
      · exact absurd rfl q
    · have hd : d ≠ c := fun z => by
        subst z
        have := name_of_addr F.cellsA (mem_of_lookup e1) (mem_of_lookup hc)
        subst this
        exact hj (nodup_idx F.nodup e hi)
      refine ⟨d, vo, e1, IsCell.keeps1 e2 fun o q => (k d hd).trans q, fun a e3 => ?_⟩
      rcases lk_set _ _ _ _ _ e3 with ⟨q, _⟩ | ⟨_, e'⟩
      · exact absurd q hj
      · obtain ⟨v', h1, h2⟩ := h a e'
        exact ⟨v', h1, h2.mono im⟩
  · obtain ⟨m', hn', h⟩ := R.cns e he
    exact ⟨m', Ns.keeps1 hn' fun o q => (k _ (F.ceC e he _ _ (mem_of_lookup hc)).symm).trans q, fun j y a e1 e2 => let ⟨v', h1, h2⟩ := h j y a e1 e2; ⟨v', h1, h2.mono im⟩⟩
  · by_cases hd : d = c
    · subst hd; exact ⟨_, hn⟩
    · obtain ⟨vo, h⟩ := R.celld y d e
      exact ⟨vo, IsCell.keeps1 h fun o q => (k d hd).trans q⟩

/-- a comprehension's own name is stored -/
theorem Rel.storeV (F : FmOk C M) (R : Rel C M σ s) {e : Env} (he : M.ce = some e) {i : Nat} {x : Str} {v : Value} {av : AV} (hi : e.scope.names[i]? = some (x, .local)) (hv : RV C s.heap v av) {m : Str → Option Value} {h' : Heap}
    (hm : ∀ i x av, e.scope.names[i]? = some (x, .local) → lk σ.cv i = some av → ∃ v, m x = some v ∧ RV C s.heap v av)
    (hn : h'.Ns e.locals (fun y => if y = x then some v else m y)) (hx : Heap.SameBut e.locals s.heap h') (t : Nat) :
    Rel C M { σ with cv := σ.cv.set i (some av) } { s with heap := h', toks := t } ∧ Ext M σ s { σ with cv := σ.cv.set i (some av) } { s with heap := h', toks := t } := by
  have own : Own M e.locals := .inr (.inr ⟨e, he, rfl⟩)
  have im : Im s.heap h' := .extBut hx.extBut fun o q => R.ownMut own q
  have k : ∀ b, b ≠ e.locals → h'.get? b = s.heap.get? b := hx.2
  refine byc fun no => ?_
  obtain ⟨o', _, _, ho', _⟩ := id hn
  refine no ?_; clear no
  refine R.store own hx.extBut ho' (fun q => F.out _ q own) t ?_ (fun j y q => ?_) (fun e' he' => ?_) (fun y c q => ?_) F.frame F.kind
  · obtain ⟨m', hm', h⟩ := R.ns
    exact ⟨m', Ns.keeps1 hm' fun o q => (k _ (F.cek e he).2.2.2.2.2.symm).trans q, fun j y a e1 e2 => let ⟨v', h1, h2⟩ := h j y a e1 e2; ⟨v', h1, h2.mono im⟩⟩
  · refine byc fun no => ?_
    obtain ⟨c, vo, e1, e2, h⟩ := R.cells j y q
    refine no ?_; clear no
    exact ⟨c, vo, e1, IsCell.keeps1 e2 fun o z => (k c (F.ceC e he _ _ (mem_of_lookup e1))).trans z, fun a e3 => let ⟨v', h1, h2⟩ := h a e3; ⟨v', h1, h2.mono im⟩⟩
  · rw [he] at he'; cases he'
    refine ⟨_, hn, fun j y a e1 e2 => ?_⟩
    rcases lk_set _ _ _ _ _ e2 with ⟨q, e'⟩ | ⟨q, e'⟩
    · subst q
      rw [hi] at e1; cases e1
      cases e'
      exact ⟨v, by simp, hv.mono im⟩
    · obtain ⟨v', h1, h2⟩ := hm j y a e1 e'
      have : y ≠ x := fun z => q (nodup_idx (F.cek e he).2.2.2.2.1 (z ▸ e1) hi)
      exact ⟨v', by simp [this, h1], h2.mono im⟩
  · obtain ⟨vo, h⟩ := R.celld y c q
    exact ⟨vo, IsCell.keeps1 h fun o z => (k c (F.ceC e he _ _ q)).trans z⟩

/-- an object that was made becomes one of the abstract heap -/
theorem Rel.adopt {s₀ : Shared} (R₀ : Rel C M σ s₀) (R : Rel C M σ s) (E : Ext M σ s₀ σ s) {a : Addr} {ao : AO} (hro : RO C s.heap a ao) (hn : s₀.heap.get? a = none) :
    Rel C M { σ with H := σ.H.upd a ao } s ∧ Ext M σ s₀ { σ with H := σ.H.upd a ao } s := by
  have hH : ∀ b, b ≠ a → (σ.H.upd a ao) b = σ.H b := fun b hb => by simp [AH.upd, hb]
  have hb : C.base.get? a = none := by
    cases z : C.base.get? a with
    | none => rfl
    | some o => rw [R₀.keep a o z] at hn; cases hn
  have no : ∀ b, Own M b → b ≠ a := fun b ho q => by
    subst q
    rcases ho with rfl | ⟨x, hx⟩ | ⟨e, he, rfl⟩
    · obtain ⟨m, ⟨o, _, _, e, _⟩, _⟩ := R₀.ns; rw [hn] at e; cases e
    · obtain ⟨vo, o, e, _⟩ := R₀.celld _ _ hx; rw [hn] at e; cases e
    · obtain ⟨m, ⟨o, _, _, e, _⟩, _⟩ := R₀.cns _ he; rw [hn] at e; cases e
  have nf : ∀ b, b ∈ frs M → b ≠ a := fun b ho q => by
    subst q
    obtain ⟨o, _, _, e, _⟩ := R₀.frD b ho; rw [hn] at e; cases e
  refine ⟨⟨R.keep, R.os, R.gens, R.ns, R.cells, R.cns, fun b o e => ?_, fun b hb => ⟨?_, (R.own b hb).2⟩, R.celld, R.frames, fun b hb => ?_, R.frD⟩, ⟨E.kept, E.stay, fun b h => ?_, rfl⟩⟩
  · change (σ.H.upd a ao) b = some o at e
    by_cases hba : b = a
    · subst hba
      simp only [AH.upd, if_true, Option.some.injEq] at e
      subst e
      exact ⟨hro, hb⟩
    · rw [hH b hba] at e; exact R.ho b o e
  · show (σ.H.upd a ao) b = none
    rw [hH b (no b hb)]; exact (R.own b hb).1
  · show (σ.H.upd a ao) b = none
    rw [hH b (nf b hb)]; exact R.frsH b hb
  · change (σ.H.upd a ao) b ≠ none at h
    by_cases hba : b = a
    · subst hba; exact .inr hn
    · rw [hH b hba] at h; exact .inl h

/-! ### the library's ledger -/
noncomputable def ledger (base h : Heap) (L : Addr) : List (Addr × Obj) :=
  (List.range h.objs.size).filterMap fun a => match h.get? a with
    | some o => if a = L ∨ (base.get? a).isSome = true then none else some (a, o)
    | none => none
theorem mem_ledger {base h : Heap} {L a : Addr} {o : Obj} : (a, o) ∈ ledger base h L ↔ h.get? a = some o ∧ a ≠ L ∧ base.get? a = none := by
  unfold ledger
  rw [List.mem_filterMap]
  constructor
  · rintro ⟨b, _, hb⟩
    split at hb
    · rename_i o' e
      split at hb
      · cases hb
      · rename_i hn
        simp only [Option.some.injEq, Prod.mk.injEq] at hb
        obtain ⟨rfl, rfl⟩ := hb
        exact ⟨e, fun q => hn (.inl q), by cases z : base.get? b with | none => rfl | some _ => exact absurd (.inr (by rw [z]; rfl)) hn⟩
    · cases hb
  · rintro ⟨e, h1, h2⟩
    refine ⟨a, List.mem_range.mpr (Heap.lt_size e), ?_⟩
    simp only [e, h2, h1, Option.isSome_none, Bool.false_eq_true, or_self, if_false]
theorem Rel.led (R : Rel C M σ s) : News C.base M.env.locals s.heap (ledger C.base s.heap M.env.locals) := fun p hp => mem_ledger.mp hp
theorem Rel.fr (F : FmOk C M) (R : Rel C M σ s) : ∃ m, Fr C.base M.env.locals s.heap m ∧ ∀ i x av, M.env.scope.names[i]? = some (x, .local) → lk σ.loc i = some av → ∃ v, m x = some v ∧ RV C s.heap v av := by
  obtain ⟨m, hn, hm⟩ := R.ns
  exact ⟨m, ⟨hn, R.keep, F.above⟩, hm⟩
theorem Rel.back (F : FmOk C M) (R : Rel C M σ s) {m : Str → Option Value} {h' : Heap} {new : List (Addr × Obj)} (hm : ∀ i x av, M.env.scope.names[i]? = some (x, .local) → lk σ.loc i = some av → ∃ v, m x = some v ∧ RV C s.heap v av)
    (F' : Fr C.base M.env.locals h' m) (N' : News C.base M.env.locals h' (new ++ ledger C.base s.heap M.env.locals)) (t : Nat) :
    Heap.ExtBut M.env.locals s.heap h' ∧ Rel C M σ { s with heap := h', toks := t } ∧ Ext M σ s σ { s with heap := h', toks := t } := by
  have hx : Heap.ExtBut M.env.locals s.heap h' := fun b o hb e => by
    cases q : C.base.get? b with
    | some o' =>
      have := R.keep b o' q
      rw [e] at this; cases this
      exact F'.keep b _ q
    | none => exact (N' (b, o) (List.mem_append_right _ (mem_ledger.mpr ⟨e, hb, q⟩))).1
  have own : Own M M.env.locals := .inl rfl
  have im : Im s.heap h' := .extBut hx fun o e => R.ownMut own e
  refine byc fun no => ?_
  obtain ⟨o', _, _, ho', _⟩ := id F'.ns
  refine no ?_; clear no
  refine ⟨hx, R.store (loc := σ.loc) (cv := σ.cv) own hx ho' (fun q => F.out _ q own) t ⟨m, F'.ns, fun j y a e1 e2 => ?_⟩ (fun j y e => ?_) (fun e he => ?_) (fun y c e => ?_) F.frame F.kind⟩
  · obtain ⟨v', h1, h2⟩ := hm j y a e1 e2
    exact ⟨v', h1, h2.mono im⟩
  · refine byc fun no => ?_
    obtain ⟨c, vo, e1, e2, h⟩ := R.cells j y e
    refine no ?_; clear no
    exact ⟨c, vo, e1, IsCell.keeps1 e2 fun o q => hx c o (F.cellsL _ _ (mem_of_lookup e1)) q, fun a e3 => let ⟨v', h1, h2⟩ := h a e3; ⟨v', h1, h2.mono im⟩⟩
  · obtain ⟨m', hn', h⟩ := R.cns e he
    exact ⟨m', Ns.keeps1 hn' fun o q => hx _ o (F.cek e he).2.2.2.2.2 q, fun j y a e1 e2 => let ⟨v', h1, h2⟩ := h j y a e1 e2; ⟨v', h1, h2.mono im⟩⟩
  · obtain ⟨vo, h⟩ := R.celld y c e
    exact ⟨vo, IsCell.keeps1 h fun o q => hx c o (F.cellsL _ _ e) q⟩
end
end Mine
end
section
open PySem
open PyProof.Rows
namespace Mine

/-! ## What it means that a text does what its abstract reading says -/
structure AOk (M : Fm) (A : Around) (k : Nat) (hd : Bool) : Prop where
  frames : A.frames = some (M.env :: M.outer)
  depth : A.depth + 3 * k + 20 < recursionLimit
  units : A.units + 20 * k + 200 < cLine
  handled : hd = false → A.handled = none

inductive Good (C : Cx) (M : Fm) (σ : AS) (s : Shared) (Q : AV → AS → Prop) (v : Value) (s' : Shared) : Prop
  | mk (av : AV) (σ' : AS) (r : Rel C M σ' s') (e : Ext M σ s σ' s') (x : RV C s'.heap v av) (q : Q av σ') : Good C M σ s Q v s'
/-- several values, a truth value -/
inductive GoodL (C : Cx) (M : Fm) (σ : AS) (s : Shared) (Q : List AV → AS → Prop) (vs : List Value) (s' : Shared) : Prop
  | mk (as : List AV) (σ' : AS) (r : Rel C M σ' s') (e : Ext M σ s σ' s') (x : RVs C s'.heap vs as) (q : Q as σ') : GoodL C M σ s Q vs s'
inductive GoodB (C : Cx) (M : Fm) (σ : AS) (s : Shared) (Q : Bool → AS → Prop) (b : Bool) (s' : Shared) : Prop
  | mk (σ' : AS) (r : Rel C M σ' s') (e : Ext M σ s σ' s') (q : Q b σ') : GoodB C M σ s Q b s'

structure Fly (C : Cx) (M : Fm) (σ : AS) (s : Shared) (c : Nat) (e : Addr) (σ' : AS) (s' : Shared) : Prop where
  rel : Rel C M σ' s'
  ext : Ext M σ s σ' s'
  le : C.hc c ∧ c ≤ 5
  new : s.heap.get? e = none
  notH : σ'.H e = none
  obj : ∃ oe vs, s'.heap.get? e = some oe ∧ oe.cls = .ref (C.ca c) ∧ oe.data = .fields vs ∧ (vs[1]? = some .none ∨ ∃ T oT ts, vs[1]? = some (.ref T) ∧ T ≠ e ∧ s.heap.get? T = none ∧ σ'.H T = none ∧
    s'.heap.get? T = some oT ∧ oT.cls = .type "traceback" ∧ oT.data = .fields ts ∧ 3 < ts.size)

inductive Bad (C : Cx) (M : Fm) (σ : AS) (s : Shared) (X : Nat → AS → Prop) (v : Value) (s' : Shared) : Prop
  | mk (c : Nat) (e : Addr) (σ' : AS) (h : v = .ref e) (f : Fly C M σ s c e σ' s') (x : X c σ') : Bad C M σ s X v s'

section
variable {C : Cx} {M : Fm} {σ σ₁ : AS} {s s₁ : Shared} {Q : AV → AS → Prop} {X : Nat → AS → Prop} {v : Value} {s' : Shared}
theorem Good.after (E : Ext M σ s σ₁ s₁) (g : Good C M σ₁ s₁ Q v s') : Good C M σ s Q v s' :=
  let ⟨av, σ', r, e, x, q⟩ := g; ⟨av, σ', r, E.trans e, x, q⟩
theorem Ext.none_of (E : Ext M σ s σ₁ s₁) {a : Addr} (h : s₁.heap.get? a = none) : s.heap.get? a = none := by
  cases q : s.heap.get? a with
  | none => rfl
  | some o => obtain ⟨o', e⟩ := E.stay a o q; rw [h] at e; cases e
theorem Fly.after (E : Ext M σ s σ₁ s₁) {c : Nat} {e : Addr} {σ' : AS} (f : Fly C M σ₁ s₁ c e σ' s') : Fly C M σ s c e σ' s' := by
  obtain ⟨oe, vs, h1, h2, h3, h4⟩ := f.obj
  refine ⟨f.rel, E.trans f.ext, f.le, E.none_of f.new, f.notH, oe, vs, h1, h2, h3, h4.imp id fun h => ?_⟩
  obtain ⟨T, oT, ts, a1, a2, a3, a4⟩ := h
  exact ⟨T, oT, ts, a1, a2, E.none_of a3, a4⟩
theorem Bad.after (E : Ext M σ s σ₁ s₁) (g : Bad C M σ₁ s₁ X v s') : Bad C M σ s X v s' :=
  let ⟨c, e, σ', h1, f, x⟩ := g; ⟨c, e, σ', h1, f.after E, x⟩
theorem Bad.mono {X' : Nat → AS → Prop} (g : Bad C M σ s X v s') (h : ∀ c σ', X c σ' → X' c σ') : Bad C M σ s X' v s' :=
  let ⟨c, e, σ', h1, f, x⟩ := g; ⟨c, e, σ', h1, f, h c σ' x⟩
/-- a value, nothing changed -/
theorem Good.here (R : Rel C M σ s) {av : AV} (x : RV C s.heap v av) (q : Q av σ) : Good C M σ s Q v s := ⟨av, σ, R, .refl .., x, q⟩
/-- a value, something was made -/
theorem Good.keeps (R : Rel C M σ s) (k : ∀ b o, s.heap.get? b = some o → s'.heap.get? b = some o) {av : AV} (x : RV C s'.heap v av) (q : Q av σ) (hos : s'.os = s.os := by rfl) (hg : s'.gens = s.gens := by rfl) : Good C M σ s Q v s' :=
  ⟨av, σ, R.keeps k hos hg, .keeps k, x, q⟩
end

/-- an expression of the program does what that of the small language does -/
noncomputable def SE (C : Cx) (T : Tab) (hk : Hook) (n : Nat) (M : Fm) (m : ME) (e : Expr) : Prop :=
  ∀ (A : Around) (σ : AS) (s : Shared) (Q : AV → AS → Prop) (X : Nat → AS → Prop), AOk M A n σ.hd → Rel C M σ s → WE T hk m σ Q X →
    wpAny (model C.prog C.w) A (eval e M.cur) (Good C M σ s Q) (Bad C M σ s X) s

section
variable {C : Cx} {T : Tab} {hk : Hook} {n : Nat} {M : Fm} {A : Around} {σ : AS} {s : Shared} {Q : AV → AS → Prop} {X : Nat → AS → Prop}

/-- go on behind an expression -/
theorem SE.then {m : ME} {e : Expr} (h : SE C T hk n M m e) {Q₁ : AV → AS → Prop} (hA : AOk M A n σ.hd) (R : Rel C M σ s) (w : WE T hk m σ Q₁ X) {P : Value → Shared → Prop}
    (k : ∀ v av σ₁ s₁, Rel C M σ₁ s₁ → Ext M σ s σ₁ s₁ → RV C s₁.heap v av → Q₁ av σ₁ → AOk M A n σ₁.hd → P v s₁) :
    wpAny (model C.prog C.w) A (eval e M.cur) P (Bad C M σ s X) s :=
  wpAny_mono (h A σ s Q₁ X hA R w) (fun v s₁ g => let ⟨av, σ₁, r, e, x, q⟩ := g; k v av σ₁ s₁ r e x q (by rw [e.hd]; exact hA)) fun _ _ b => b

theorem se_cNone {k : Nat} {pos : Pos} : SE C T hk n M .cNone (.Constant .none k pos) := fun _ _ _ _ _ _ R w => wpAny_pure (.here R (av := .none) rfl w)
theorem se_cBool {b : Bool} {k : Nat} {pos : Pos} : SE C T hk n M (.cBool b) (.Constant (.bool b) k pos) := fun _ _ _ _ _ _ R w => wpAny_pure (.here R (av := .bool b) rfl w)
theorem se_cInt {i : Int} {k : Nat} {pos : Pos} : SE C T hk n M (.cInt i) (.Constant (.int i) k pos) := fun _ _ _ _ _ _ R w =>
  wpAny_Constant_int (.keeps R (fun _ _ e => e) (av := .int i) ⟨_, rfl⟩ w)
theorem se_cStr {x : Str} {k : Nat} {pos : Pos} : SE C T hk n M (.cStr x) (.Constant (.str x) k pos) := fun _ _ _ _ _ _ R w =>
  Calls.Constant_str (.keeps R (fun _ _ e => e) (av := .str x) ⟨_, rfl⟩ w)

inductive Got {α : Type} (o : Option α) (k : α → Prop) : Prop
  | mk (v : α) (h : o = some v) (q : k v) : Got o k
theorem need_of {α : Type} {o : Option α} {k : α → Prop} (h : need o k) : Got o k := by
  cases o with
  | none => exact h.elim
  | some v => exact ⟨v, rfl, h⟩

theorem noDebug_of {x : Str} (h : noDebug x = true) : (x == ("__debug__" : Str)) = false := by
  unfold noDebug at h
  simpa [bne] using h

theorem cur_none (h : M.ce = none) : M.cur = M.env := by unfold Fm.cur; rw [h]; rfl
theorem cur_some {e : Env} (h : M.ce = some e) : M.cur = e := by unfold Fm.cur; rw [h]; rfl
theorem cur_kind (F : FmOk C M) : M.cur.scope.kind = .function := by
  cases h : M.ce with
  | none => rw [cur_none h]; exact F.kind
  | some e => rw [cur_some h]; exact (F.cek e h).1
theorem cur_glob (F : FmOk C M) : M.cur.globals = mainGlobals := by
  cases h : M.ce with
  | none => rw [cur_none h]; exact F.glob
  | some e => rw [cur_some h]; exact (F.cek e h).2.1
theorem cur_bi (F : FmOk C M) : M.cur.builtins = builtinsNs := by
  cases h : M.ce with
  | none => rw [cur_none h]; exact F.bi
  | some e => rw [cur_some h]; exact (F.cek e h).2.2.1

/-- the names that the checker looks at are those of the frame -/
noncomputable def ScOk (S : Sc) (M : Fm) : Prop := S.f = M.env.scope.names ∧ S.c = M.ce.map fun e => e.scope.names

theorem kindOf_eq (e : Env) (x : Str) : e.kindOf x = e.scope.names.lookup x := rfl

theorem se_loc {S : Sc} {i : Nat} {x : Str} {pos : Pos} (F : FmOk C M) (hS : ScOk S M) (h : S.loc x i = true) (hd : noDebug x = true) : SE C T hk n M (.loc i) (.Name x pos) := by
  intro A σ s Q X _ R w
  obtain ⟨av, hav, q⟩ := need_of w
  refine wpAny_Name ?_ (noDebug_of hd)
  obtain ⟨hf, hc⟩ := hS
  unfold Sc.loc at h
  cases hce : M.ce with
  | none =>
    rw [hce, Option.map_none] at hc
    rw [hc] at h
    rw [cur_none hce]
    dsimp only at h
    split at h
    · rename_i y hy
      obtain rfl : y = x := beq_iff_eq.mp h
      rw [hf] at hy
      obtain ⟨m, hn, hm⟩ := R.ns
      obtain ⟨v, hv, r⟩ := hm i y av hy hav
      exact wpAny_loadName_local F.kind (lookup_of_idx F.nodup hy) hn hv (.here R r q)
    · rename_i y hy
      obtain rfl : y = x := beq_iff_eq.mp h
      rw [hf] at hy
      obtain ⟨c, vo, e1, e2, hm⟩ := R.cells i y hy
      obtain ⟨v, rfl, r⟩ := hm av hav
      exact wpAny_loadName_cell F.kind (lookup_of_idx F.nodup hy) e1 e2 (.here R r q)
    · cases h
  | some e =>
    rw [hce, Option.map_some] at hc
    rw [hc] at h
    rw [cur_some hce]
    dsimp only at h
    obtain ⟨h1, h2⟩ := Bool.and_eq_true_iff.mp h
    split at h2
    · rename_i y hy
      obtain rfl : y = x := beq_iff_eq.mp h2
      rw [hf] at hy
      obtain ⟨c, vo, e1, e2, hm⟩ := R.cells i y hy
      obtain ⟨v, rfl, r⟩ := hm av hav
      have hk : e.kindOf y = some .cell := beq_iff_eq.mp h1
      obtain ⟨c', e3, e4⟩ := F.ceF e hce y hk
      rw [e1] at e4; cases e4
      exact wpAny_loadName_cell (F.cek e hce).1 hk e3 e2 (.here R r q)
    · cases h2

theorem se_cv {S : Sc} {i : Nat} {x : Str} {pos : Pos} (F : FmOk C M) (hS : ScOk S M) (h : S.cv x i = true) (hd : noDebug x = true) : SE C T hk n M (.cv i) (.Name x pos) := by
  intro A σ s Q X _ R w
  obtain ⟨av, hav, q⟩ := need_of w
  refine wpAny_Name ?_ (noDebug_of hd)
  obtain ⟨hf, hc⟩ := hS
  unfold Sc.cv at h
  cases hce : M.ce with
  | none =>
    rw [hce, Option.map_none] at hc
    rw [hc] at h
    cases h
  | some e =>
    rw [hce, Option.map_some] at hc
    rw [hc] at h
    rw [cur_some hce]
    dsimp only at h
    split at h
    · rename_i y hy
      obtain rfl : y = x := beq_iff_eq.mp h
      obtain ⟨m, hn, hm⟩ := R.cns e hce
      obtain ⟨v, hv, r⟩ := hm i y av hy hav
      exact wpAny_loadName_local (F.cek e hce).1 (lookup_of_idx (F.cek e hce).2.2.2.2.1 hy) hn hv (.here R r q)
    · cases h

theorem glob_kind {S : Sc} {x : Str} (hS : ScOk S M) (h : S.glob x = true) : M.cur.kindOf x = some .globalImplicit := by
  obtain ⟨hf, hc⟩ := hS
  unfold Sc.glob at h
  cases hce : M.ce with
  | none =>
    rw [hce, Option.map_none] at hc
    rw [hc] at h
    rw [cur_none hce, kindOf_eq, ← hf]
    exact beq_iff_eq.mp h
  | some e =>
    rw [hce, Option.map_some] at hc
    rw [hc] at h
    rw [cur_some hce, kindOf_eq]
    exact beq_iff_eq.mp h
end

/-- what the program's top names -/
inductive GNs (C : Cx) (G : GT) : Prop
  | mk (mg mb : Str → Option Value) (h1 : C.base.Ns mainGlobals mg) (h2 : C.base.Ns builtinsNs mb)
    (h3 : ∀ x f, G.fns.lookup x = some f → mg x = some (.ref (C.fa f)) ∧ C.hf f)
    (h4 : ∀ x c, G.cls.lookup x = some c → mg x = some (.ref (C.ca c)) ∧ C.hc c)
    (h5 : ∀ x i, G.gints.lookup x = some i → ∃ t, mg x = some (.int i t))
    (h6 : ∀ x is, G.gtups.lookup x = some is → ∃ a ws k, mg x = some (.ref a) ∧ IsT C.base a ws.toArray k ∧ IntsAre ws is ∧ is.length ≤ 1000000)
    (h7 : ∀ x t, tyTab.lookup x = some t → mg x = none ∧ mb x = some (.type (tyName t)))
    (h8 : ∀ x b, biTab.lookup x = some b → mg x = none ∧ mb x = some (.builtin (biName b)))
structure GOk (C : Cx) (G : GT) : Prop where
  ns : GNs C G

section
variable {C : Cx} {T : Tab} {hk : Hook} {n : Nat} {M : Fm} {S : Sc} {G : GT} {x : Str} {pos : Pos}
theorem se_gname {m : ME} {av : AV} (F : FmOk C M) (hS : ScOk S M) (h : S.glob x = true) (hd : noDebug x = true)
    (hm : ∀ σ Q X, WE T hk m σ Q X → Q av σ) {mg mb : Str → Option Value} (hg : C.base.Ns mainGlobals mg) (hb : C.base.Ns builtinsNs mb) {v : Value} (hv : mg x = some v ∨ (mg x = none ∧ mb x = some v))
    (r : ∀ h', (∀ b o, C.base.get? b = some o → h'.get? b = some o) → RV C h' v av) : SE C T hk n M m (.Name x pos) := by
  intro A σ s Q X _ R w
  refine Calls.Name_function_global (cur_kind F) (glob_kind hS h) ?_ (noDebug_of hd)
  have g := Good.here R (r s.heap R.keep) (hm _ _ _ w)
  rcases hv with hv | ⟨h1, h2⟩
  · exact Calls.loadGlobal_global (by rw [cur_glob F]; exact hg.keeps R.keep) hv g
  · exact Calls.loadGlobal_builtin (by rw [cur_glob F]; exact hg.keeps R.keep) h1 (by rw [cur_bi F]; exact hb.keeps R.keep) h2 g

theorem se_gfn {f : Nat} (F : FmOk C M) (hS : ScOk S M) (hG : GOk C G) (h : (noDebug x && S.glob x && G.fns.lookup x == some f) = true) : SE C T hk n M (.gfn f) (.Name x pos) := by
  simp only [Bool.and_eq_true, beq_iff_eq] at h
  obtain ⟨mg, mb, hg, hb, k1, _⟩ := hG.ns
  exact se_gname F hS h.1.2 h.1.1 (fun _ _ _ w => w) hg hb (.inl (k1 x f h.2).1) fun _ _ => ⟨rfl, (k1 x f h.2).2⟩
theorem se_gcls {f : Nat} (F : FmOk C M) (hS : ScOk S M) (hG : GOk C G) (h : (noDebug x && S.glob x && G.cls.lookup x == some f) = true) : SE C T hk n M (.gcls f) (.Name x pos) := by
  simp only [Bool.and_eq_true, beq_iff_eq] at h
  obtain ⟨mg, mb, hg, hb, _, k1, _⟩ := hG.ns
  exact se_gname F hS h.1.2 h.1.1 (fun _ _ _ w => w) hg hb (.inl (k1 x f h.2).1) fun _ _ => ⟨rfl, (k1 x f h.2).2⟩
theorem se_gint {i : Int} (F : FmOk C M) (hS : ScOk S M) (hG : GOk C G) (h : (noDebug x && S.glob x && G.gints.lookup x == some i) = true) : SE C T hk n M (.gint i) (.Name x pos) := by
  simp only [Bool.and_eq_true, beq_iff_eq] at h
  obtain ⟨mg, mb, hg, hb, _, _, k1, _⟩ := hG.ns
  obtain ⟨t, ht⟩ := k1 x i h.2
  exact se_gname F hS h.1.2 h.1.1 (fun _ _ _ w => w) hg hb (.inl ht) fun _ _ => ⟨t, rfl⟩
theorem rvs_ints {h : Heap} : ∀ {ws : List Value} {is : List Int}, IntsAre ws is → RVs C h ws (is.map .int)
  | _, _, .nil => trivial
  | _, _, .cons _ _ r => ⟨⟨_, rfl⟩, rvs_ints r⟩
theorem se_gtup {is : List Int} (F : FmOk C M) (hS : ScOk S M) (hG : GOk C G) (h : (noDebug x && S.glob x && G.gtups.lookup x == some is) = true) : SE C T hk n M (.gtup is) (.Name x pos) := by
  simp only [Bool.and_eq_true, beq_iff_eq] at h
  obtain ⟨mg, mb, hg, hb, _, _, _, k1, _⟩ := hG.ns
  obtain ⟨a, ws, n, h1, h2, h3, h4⟩ := k1 x is h.2
  exact se_gname F hS h.1.2 h.1.1 (fun _ _ _ w => w) hg hb (.inl h1) fun h' k => ⟨a, ws, n, rfl, k _ _ h2, rvs_ints h3, by rw [List.length_map]; exact h4⟩
theorem se_gty {t : Nat} (F : FmOk C M) (hS : ScOk S M) (hG : GOk C G) (h : (noDebug x && S.glob x && tyTab.lookup x == some t) = true) : SE C T hk n M (.gty t) (.Name x pos) := by
  simp only [Bool.and_eq_true, beq_iff_eq] at h
  obtain ⟨mg, mb, hg, hb, _, _, _, _, k1, _⟩ := hG.ns
  exact se_gname F hS h.1.2 h.1.1 (fun _ _ _ w => w) hg hb (.inr (k1 x t h.2)) fun _ _ => rfl
theorem se_gbi {t : Nat} (F : FmOk C M) (hS : ScOk S M) (hG : GOk C G) (h : (noDebug x && S.glob x && biTab.lookup x == some t) = true) : SE C T hk n M (.gbi t) (.Name x pos) := by
  simp only [Bool.and_eq_true, beq_iff_eq] at h
  obtain ⟨mg, mb, hg, hb, _, _, _, _, _, k1⟩ := hG.ns
  exact se_gname F hS h.1.2 h.1.1 (fun _ _ _ w => w) hg hb (.inr (k1 x t h.2)) fun _ _ => rfl
end
end Mine
end
section
open PySem
open PyProof.Rows
namespace Mine

section
variable {C : Cx} {T : Tab} {hk : Hook} {n : Nat} {M : Fm} {A : Around} {σ : AS} {s : Shared} {Q : AV → AS → Prop} {E : Value → Shared → Prop} {va vb : Value}

theorem rvs_length {h : Heap} : ∀ {ws : List Value} {vs : List AV}, RVs C h ws vs → ws.length = vs.length
  | [], [], _ => rfl
  | _ :: _, _ :: _, x => by rw [List.length_cons, List.length_cons, rvs_length x.2]
  | [], _ :: _, x => x.elim
  | _ :: _, [], x => x.elim
theorem rvs_append {h : Heap} : ∀ {ws : List Value} {vs : List AV} {ws' : List Value} {vs' : List AV}, RVs C h ws vs → RVs C h ws' vs' → RVs C h (ws ++ ws') (vs ++ vs')
  | [], [], _, _, _, y => y
  | _ :: _, _ :: _, _, _, x, y => ⟨x.1, rvs_append x.2 y⟩
  | [], _ :: _, _, _, x, _ => x.elim
  | _ :: _, [], _, _, x, _ => x.elim
theorem rvs_flat {h : Heap} {ws : List Value} {vs : List AV} (x : RVs C h ws vs) : ∀ k : Nat, RVs C h (List.replicate k ws).flatten (List.replicate k vs).flatten
  | 0 => trivial
  | k + 1 => by
    rw [List.replicate_succ, List.replicate_succ, List.flatten_cons, List.flatten_cons]
    exact rvs_append x (rvs_flat x k)
theorem rvs_get {h : Heap} : ∀ {ws : List Value} {vs : List AV} {i : Nat} {a : AV}, RVs C h ws vs → vs[i]? = some a → ∃ v, ws[i]? = some v ∧ RV C h v a
  | [], [], i, a, _, e => by simp at e
  | v :: _, b :: _, 0, a, x, e => by
    simp only [List.getElem?_cons_zero, Option.some.injEq] at e
    subst e; exact ⟨v, rfl, x.1⟩
  | _ :: _, _ :: _, i + 1, a, x, e => by
    simp only [List.getElem?_cons_succ] at e ⊢
    exact rvs_get x.2 e
  | [], _ :: _, _, _, x, _ => x.elim
  | _ :: _, [], _, _, x, _ => x.elim
theorem rvs_take {h : Heap} : ∀ {ws : List Value} {vs : List AV} (k : Nat), RVs C h ws vs → RVs C h (ws.take k) (vs.take k)
  | [], [], k, _ => by simp [RVs]
  | _ :: _, _ :: _, 0, _ => trivial
  | _ :: _, _ :: _, k + 1, x => ⟨x.1, rvs_take k x.2⟩
  | [], _ :: _, _, x => x.elim
  | _ :: _, [], _, x => x.elim
theorem rvs_drop {h : Heap} : ∀ {ws : List Value} {vs : List AV} (k : Nat), RVs C h ws vs → RVs C h (ws.drop k) (vs.drop k)
  | [], [], k, _ => by simp [RVs]
  | _ :: _, _ :: _, 0, x => x
  | _ :: _, _ :: _, k + 1, x => rvs_drop k x.2
  | [], _ :: _, _, x => x.elim
  | _ :: _, [], _, x => x.elim
theorem rvs_reverse {h : Heap} : ∀ {ws : List Value} {vs : List AV}, RVs C h ws vs → RVs C h ws.reverse vs.reverse
  | [], [], _ => trivial
  | _ :: _, _ :: _, x => by
    rw [List.reverse_cons, List.reverse_cons]
    exact rvs_append (rvs_reverse x.2) ⟨x.1, trivial⟩
  | [], _ :: _, x => x.elim
  | _ :: _, [], x => x.elim
theorem rvs_set {h : Heap} {v : Value} {a : AV} (r : RV C h v a) : ∀ {ws : List Value} {vs : List AV} (k : Nat), RVs C h ws vs → RVs C h (ws.set k v) (vs.set k a)
  | [], [], _, x => x
  | _ :: _, _ :: _, 0, x => ⟨r, x.2⟩
  | _ :: _, _ :: _, k + 1, x => ⟨x.1, rvs_set r k x.2⟩
  | [], _ :: _, _, x => x.elim
  | _ :: _, [], _, x => x.elim

theorem getL_of {H : AH} {a : Addr} {vs : List AV} (h : getL H a = some vs) : H a = some (.lst vs) := by
  unfold getL at h
  split at h
  · rename_i e; cases h; exact e
  · cases h
/-- a list of the abstract heap, in the machine's -/
theorem Rel.list (R : Rel C M σ s) {a : Addr} {vs : List AV} (h : getL σ.H a = some vs) : ROl C s.heap a vs := (R.ho a _ (getL_of h)).1

/-- a new list is handed back -/
theorem new_list (F : FmOk C M) (R : Rel C M σ s) {ws : List Value} {vs : List AV} (hv : RVs C s.heap ws vs) (w : newL vs σ Q) :
    Good C M σ s Q (.ref s.heap.objs.size) { s with heap := s.heap.push { cls := .type "list", data := .seq ws.toArray } } := by
  have k : ∀ b o, s.heap.get? b = some o → (s.heap.push { cls := .type "list", data := .seq ws.toArray }).get? b = some o := fun b o e => Heap.get?_push_of_some _ e
  obtain ⟨h1, h2⟩ := R.change F.frame (a := s.heap.objs.size) (ao := .lst vs) (h' := s.heap.push { cls := .type "list", data := .seq ws.toArray }) (fun b o _ e => k b o e)
    ⟨ws, 0, Heap.get?_push_size _ rfl, RVs.mono (.keeps k) vs hv, w.1⟩ (.inr (get_none_of_ge (Nat.le_refl _))) s.toks
  exact ⟨.lst s.heap.objs.size, _, h1, h2, rfl, w.2 _ R.notH⟩
/-- a new tuple is handed back -/
theorem new_tup (R : Rel C M σ s) {ws : List Value} {vs : List AV} (hv : RVs C s.heap ws vs) (hs : vs.length ≤ 1000000) (q : Q (.tup vs) σ) :
    Good C M σ s Q (.ref s.heap.objs.size) { s with heap := s.heap.push { cls := .type "tuple", data := .seq ws.toArray } } := by
  have k : ∀ b o, s.heap.get? b = some o → (s.heap.push { cls := .type "tuple", data := .seq ws.toArray }).get? b = some o := fun b o e => Heap.get?_push_of_some _ e
  exact .keeps R k (av := .tup vs) ⟨_, ws, 0, rfl, Heap.get?_push_size _ rfl, RVs.mono (.keeps k) vs hv, hs⟩ q

theorem intBits_le {x : Int} {k : Nat} (h : x.natAbs < 2 ^ k) : Builtin.Int.intBits x ≤ k := by
  unfold Builtin.Int.intBits
  split
  · exact Nat.zero_le _
  · rename_i hx
    have hne : x.natAbs ≠ 0 := by
      intro q; apply hx; simp [Int.natAbs_eq_zero.mp q]
    have := (Nat.log2_lt hne).mpr h
    (clear h hne; omega)
theorem mulOk_of {x y : Int} (h : MulOk x y) : IntMulOk x y := by
  rcases h with h | h | ⟨a, b, h1, h2, h3⟩
  · exact .of_left (intBits_le h)
  · exact .of_right (intBits_le h)
  · have e1 := intBits_le h1
    have e2 := intBits_le h2
    have hb : bitsLine = 134217728 := by decide
    unfold IntMulOk
    have h4 : Builtin.Int.intBits x + Builtin.Int.intBits y ≤ bitsLine := by rw [hb]; (clear h1 h2 hb; omega)
    have : Builtin.Int.intTooBig (Builtin.Int.intBits x + Builtin.Int.intBits y) = false := by
      unfold Builtin.Int.intTooBig
      exact decide_eq_false (by (clear h1 h2 h3 e1 e2; omega))
    rw [this]; simp
theorem divOk_of {x y : Int} (h : DivOk y) : Builtin.divisionGoesByPylong x y = false := by
  obtain ⟨hy, k, hk, hk2⟩ := h
  unfold Builtin.divisionGoesByPylong
  have hne : y.natAbs ≠ 0 := by (clear hk hk2; omega)
  have hlog : y.natAbs.log2 < k := (Nat.log2_lt hne).mpr hk
  have hy0 : (y == 0) = false := by simp; (clear hk hk2 hne hlog; omega)
  simp only [hy0, Bool.false_eq_true, if_false]
  have : ¬ (y.natAbs.log2 / 30 + 1 > 300) := by (clear hy hk hne; omega)
  simp [this]
end
end Mine
end
section
open PySem
open PyProof.Rows
namespace Mine

theorem foldl_append_eq {α : Type} (l : List (Array α)) : ∀ acc : Array α, l.foldl (fun x1 x2 => x1 ++ x2) acc = acc ++ (l.map (·.toList)).flatten.toArray := by
  induction l with
  | nil => intro acc; simp
  | cons x r ih =>
    intro acc
    rw [List.foldl_cons, ih, List.map_cons, List.flatten_cons, Array.append_assoc]
    congr 1
    apply Array.ext'
    simp
theorem foldl_rep (ws : List Value) (k : Nat) : (List.replicate k ws.toArray).foldl (fun x1 x2 => x1 ++ x2) #[] = (List.replicate k ws).flatten.toArray := by
  rw [foldl_append_eq]; simp
theorem rep_empty (ws : List Value) (k : Nat) : (List.replicate (if ws.toArray.isEmpty = true then 0 else k) ws).flatten = (List.replicate k ws).flatten := by
  cases ws with
  | nil => simp
  | cons x r => simp

section
open PySem Builtin
set_option maxRecDepth 100000
theorem noFill_tuple_mul : fillsNumberSlot (.type "tuple") "mul" = pure false :=
  PySem.fillsNumberSlot_seq (id := "tuple.__mul__") (r := some (.builtin "tuple.__rmul__")) PySem.F.slot_tuple_mul.lookup (by decide +kernel) PySem.F.slot_tuple_rmul.lookup (by decide +kernel)
theorem repeat_tuple : seqRepeat? (.type "tuple") = pure (some (.builtin "tuple.__mul__")) := by
  unfold seqRepeat?
  rw [PySem.seqSlot_of (T := "tuple") (name := "__mul__") (id := "tuple.__mul__") PySem.F.slot_tuple_mul.lookup (by decide +kernel), PySem.seqSlot_of (T := "tuple") (name := "__rmul__") (id := "tuple.__rmul__") PySem.F.slot_tuple_rmul.lookup (by decide +kernel)]
  rfl
theorem rmul_int_tuple (a : Int) (t : Tok) (l : Addr) (items : Array Value) (n : Nat) :
    Meets (Builtin.«int.__rmul__» ⟨[.int a t, .ref l], []⟩) (fun _ R s => s.heap.get? l = some { cls := .type "tuple", dict := none, data := .seq items n, slots := #[] } ∧ R (.ok (.ret Value.notImplemented)) s) :=
  .of_wp fun prog w A R s h => by obtain ⟨hp, g, d, tk, os⟩ := s; obtain ⟨hl, h⟩ := h; wp_walk; exact ⟨_, rfl, h⟩
theorem mul_tuple_meets (l : Addr) (items : Array Value) (n : Nat) (x : Int) (u : Tok) (h2 : 2 ≤ x) (h3 : x ≤ 1000) (he : items.isEmpty = false) (hs : items.size ≤ 1000) :
    Meets (Builtin.«tuple.__mul__» ⟨[.ref l, .int x u], []⟩) (fun _ R s => s.heap.get? l = some { cls := .type "tuple", dict := none, data := .seq items n, slots := #[] } ∧
      R (.ok (.ret (Value.ref s.heap.objs.size))) { s with heap := s.heap.push { cls := Value.type "tuple", data := Data.seq (List.foldl (fun x1 x2 => x1 ++ x2) #[] (List.replicate x.toNat items)) } }) :=
  .of_wp fun prog w A R s h => by
    refine byc fun no => ?_
    obtain ⟨hp, g, d, tk, os⟩ := s; obtain ⟨hl, h⟩ := h
    refine no ?_; clear no
    have hm : (items.size : Int) * x ≤ 1000000 := by
      have h1 : (items.size : Int) ≤ 1000 := by (clear h2 h3; omega)
      calc (items.size : Int) * x ≤ 1000 * x := Int.mul_le_mul_of_nonneg_right h1 (by (clear hs h1; omega))
        _ ≤ 1000 * 1000 := Int.mul_le_mul_of_nonneg_left h3 (by (clear h2 h3 hs h1; omega))
        _ = 1000000 := by decide
    have hb : ∀ c : Bool, ¬ c = true → c = false := fun c => by cases c <;> simp
    have e1 : (decide (x < -2 ^ 63) || decide (x ≥ 2 ^ 63)) = false := hb _ (by simp; (clear hs hm; omega))
    have e2 : (items.isEmpty || x == 1) = false := hb _ (by simp [he]; (clear hs hm; omega))
    have e3 : (decide (x ≤ 0) || items.isEmpty) = false := hb _ (by simp [he]; (clear hs hm; omega))
    have e4 : ¬ ((items.size : Int) * x > (2 ^ 63 - 1) / 8) := by (clear h2 h3 hs; omega)
    have e5 : Builtin.Tuple.tupleTooMany ((items.size : Int) * x) = false := by
      unfold Builtin.Tuple.tupleTooMany
      rw [sizeLine_eq]
      exact decide_eq_false (by (clear h2 h3 hs e4; omega))
    have e6 : (List.foldl (fun x1 x2 => x1 ++ x2) #[] (List.replicate x.toNat items)).size ≤ sizeLine := by
      rw [foldl_append_eq]
      simp only [Array.size_append, List.size_toArray, List.map_replicate, Array.size_empty, Nat.zero_add, List.length_flatten, List.sum_replicate_nat, Array.length_toList, List.length_nil]
      rw [sizeLine_eq]
      have : ((x.toNat * items.size : Nat) : Int) ≤ 1000000 := by
        rw [Int.natCast_mul, Int.toNat_of_nonneg (by (clear hs hm e4; omega)), Int.mul_comm]; exact hm
      (clear h2 h3 hs hm e4; omega)
    wp_walk
    rw [e1]
    wp_walk
    rw [e2]
    wp_walk
    rw [e3]
    wp_walk
    rw [if_neg e4]
    wp_walk
    exact ⟨_, rfl, h⟩
end

section
variable {C : Cx} {T : Tab} {hk : Hook} {n : Nat} {M : Fm} {A : Around} {σ : AS} {s : Shared} {Q : AV → AS → Prop} {E : Value → Shared → Prop} {va vb : Value}

theorem mul_tuple {t : Addr} {items : Array Value} {k : Nat} {x : Int} {u : Tok} {P : Value → Shared → Prop} (hl : IsT s.heap t items k) (h2 : 2 ≤ x) (h3 : x ≤ 1000) (he : items.isEmpty = false) (hs : items.size ≤ 1000)
    (h : P (.ref s.heap.objs.size) { s with heap := s.heap.push { cls := Value.type "tuple", data := Data.seq (List.foldl (fun x1 x2 => x1 ++ x2) #[] (List.replicate x.toNat items)) } }) :
    wpAny (model C.prog C.w) A (binaryOp .Mult (.ref t) (.int x u)) P E s :=
  wpAny_binaryOp_repeat_ref (T := "tuple") (U := "int") (by decide) ⟨_, hl, rfl⟩ (fun s' => typeIs_int s' x u) noFill_tuple_mul PySem.F.fills_int_mul PySem.F.slot_int_rmul repeat_tuple PySem.F.slot_int_index.lookup
    (call_meets PySem.F.slot_int_rmul (typeIs_int s x u) PySem.F.entry_int_rmul (PySem.F.args_int_rmul_2 _ _) (rmul_int_tuple x u t items k)
      ⟨hl, rfl, ⟨_, hl, rfl⟩, call_meets PySem.F.slot_tuple_mul ⟨_, hl, rfl⟩ PySem.F.entry_tuple_mul (PySem.F.args_tuple_mul_2 _ _) (mul_tuple_meets t items k x u h2 h3 he hs) ⟨hl, h⟩⟩)

noncomputable def opF : BOp → Operator
  | .add => .Add
  | .sub => .Sub
  | .mul => .Mult
  | .fdiv => .FloorDiv
  | .mod => .Mod
  | .pow => .Pow
theorem sameB_op {op : BOp} {op' : Operator} (h : sameB op op' = true) : op' = opF op := by
  cases op' <;> cases op <;> first | rfl | (exact absurd h Bool.false_ne_true)
theorem bin_ok {op : BOp} {op' : Operator} (ho : sameB op op' = true) {a b : AV} (F : FmOk C M) (R : Rel C M σ s) (ra : RV C s.heap va a) (rb : RV C s.heap vb b) (w : binW op a b σ Q) :
    wpAny (model C.prog C.w) A (binaryOp op' va vb) (Good C M σ s Q) E s := by
  obtain rfl := sameB_op ho
  refine byc fun no => ?_
  cases op with
  | add => cases a with
    | int x => cases b with
      | int y =>
        refine no ?_; clear no
        obtain ⟨t, rfl⟩ := ra; obtain ⟨u, rfl⟩ := rb
        exact PySem.P.add_int (.keeps R (fun _ _ e => e) (av := .int _) ⟨_, rfl⟩ w)
      | _ => exact False.elim w
    | tup xs => cases b with
      | tup ys =>
        refine no ?_; clear no
        refine byc fun no => ?_
        obtain ⟨p, ws, k, rfl, hp, hv, hsz⟩ := ra; obtain ⟨q, ws', k', rfl, hq, hv', hsz'⟩ := rb
        obtain ⟨m, Fm, hm⟩ := R.fr F
        refine no ?_; clear no
        have hlen : ws.length + ws'.length ≤ 1000000 := by
          have := w.1; rw [List.length_append] at this; rw [rvs_length hv, rvs_length hv']; exact this
        have hlz : sizeLine = 16777216 := sizeLine_eq
        refine PyProof.Rows.add_tuples (vs := ws) (ws := ws') Fm R.led ⟨_, hp, rfl, _, rfl⟩ ⟨_, hq, rfl, _, rfl⟩ (fun e => ?_) (fun e1 e2 => ?_) (fun _ _ h' F' N' => ?_) (by (clear hsz hsz'; omega))
        · subst e
          cases xs with
          | cons _ _ => exact False.elim hv
          | nil => exact .here R (av := .tup ys) ⟨q, ws', k', rfl, hq, hv', hsz'⟩ w.2
        · subst e2
          cases ys with
          | cons _ _ => cases ws with | nil => exact False.elim hv' | cons _ _ => exact False.elim hv'
          | nil => have w' : Small (xs ++ []).length ∧ Q (.tup (xs ++ [])) σ := w; rw [List.append_nil] at w'; exact .here R (av := .tup xs) ⟨p, ws, k, rfl, hp, hv, hsz⟩ w'.2
        · obtain ⟨hx, h1, h2⟩ := R.back F (new := [(s.heap.objs.size, _)]) hm F' N' s.toks
          have im : Im s.heap h' := h2.im R
          exact ⟨.tup (xs ++ ys), σ, h1, h2, ⟨_, ws ++ ws', 0, rfl, (N' _ (List.Mem.head _)).1, rvs_append (hv.mono im) (hv'.mono im), w.1⟩, w.2⟩
      | _ => exact False.elim w
    | lst p₀ => cases b with
      | lst q₀ =>
        refine no ?_; clear no
        subst ra; subst rb
        refine byc fun no => ?_
        obtain ⟨xs, hx, w⟩ := need_of w
        obtain ⟨ys, hy, w⟩ := need_of w
        obtain ⟨ws, k, hp, hv, hs⟩ := R.list hx
        obtain ⟨ws', k', hq, hv', hs'⟩ := R.list hy
        refine no ?_; clear no
        have hlz : sizeLine = 16777216 := sizeLine_eq
        have hl := rvs_length hv
        have hl' := rvs_length hv'
        refine PySem.P.add_list hp hq ?_ (by simp only [List.size_toArray]; omega)
        have := new_list F R (rvs_append hv hv') w
        rw [show (ws ++ ws').toArray = ws.toArray ++ ws'.toArray by simp] at this
        exact this
      | _ => exact False.elim w
    | _ => exact False.elim w
  | sub => cases a with
    | int x => cases b with
      | int y =>
        refine no ?_; clear no
        obtain ⟨t, rfl⟩ := ra; obtain ⟨u, rfl⟩ := rb
        exact PySem.P.sub_int (.keeps R (fun _ _ e => e) (av := .int _) ⟨_, rfl⟩ w)
      | _ => exact False.elim w
    | _ => exact False.elim w
  | mul => cases a with
    | int x => cases b with
      | int y =>
        refine no ?_; clear no
        obtain ⟨t, rfl⟩ := ra; obtain ⟨u, rfl⟩ := rb
        exact PySem.P.mul_int (.keeps R (fun _ _ e => e) (av := .int _) ⟨_, rfl⟩ w.2) (mulOk_of w.1)
      | _ => exact False.elim w
    | tup xs => cases b with
      | int x =>
        refine no ?_; clear no
        refine byc fun no => ?_
        obtain ⟨p, ws, k, rfl, hp, hv, hsz⟩ := ra; obtain ⟨u, rfl⟩ := rb
        obtain ⟨h2, h3, hne, hs, w⟩ := w
        refine no ?_; clear no
        have hl := rvs_length hv
        refine mul_tuple hp h2 h3 ?_ (by simp only [List.size_toArray]; (clear h2 h3; omega)) ?_
        · cases ws with
          | nil => cases xs with
            | nil => exact absurd rfl hne
            | cons _ _ => exact False.elim hv
          | cons _ _ => simp
        · rw [foldl_rep]
          exact new_tup R (rvs_flat hv _) (by simp only [List.length_flatten, List.map_replicate, List.sum_replicate_nat]; exact Nat.le_trans (Nat.mul_le_mul (show x.toNat ≤ 1000 by (clear hsz hs hl; omega)) hs) (by decide)) w
      | _ => exact False.elim w
    | lst p => cases b with
      | int x =>
        refine no ?_; clear no
        subst ra; obtain ⟨u, rfl⟩ := rb
        refine byc fun no => ?_
        obtain ⟨h0, h1, w⟩ := w
        obtain ⟨xs, hx, w⟩ := need_of w
        obtain ⟨ws, k, hp, hv, hs⟩ := R.list hx
        obtain ⟨m, Fm, hm⟩ := R.fr F
        refine no ?_; clear no
        have hl := rvs_length hv
        have hsz : ws.toArray.size * x.toNat ≤ 2 ^ 24 := by
          have := w.1
          simp only [List.length_flatten, List.map_replicate, List.sum_replicate_nat] at this
          rw [List.size_toArray, Nat.mul_comm, hl]
          (clear h0 h1 hs hl; omega)
        refine PyProof.Rows.mul_list Fm R.led hp (by (clear hs hl hsz; omega)) (by (clear hs hl hsz; omega)) hsz fun h' F' N' => ?_
        refine byc fun no => ?_
        obtain ⟨hx', h3, h4⟩ := R.back F (new := [(s.heap.objs.size, _)]) hm F' N' s.toks
        have im : Im s.heap h' := h4.im R
        have hnew := (N' _ (List.Mem.head _)).1
        dsimp only at hnew
        rw [foldl_rep, rep_empty] at hnew
        obtain ⟨h5, h6⟩ := R.adopt h3 h4 (a := s.heap.objs.size) (ao := .lst (List.replicate x.toNat xs).flatten) ⟨_, 0, hnew, rvs_flat (hv.mono im) _, w.1⟩ (get_none_of_ge (Nat.le_refl _))
        refine no ?_; clear no
        exact ⟨.lst s.heap.objs.size, _, h5, h6, rfl, w.2 _ R.notH⟩
      | _ => exact False.elim w
    | str x => cases b with
      | int k =>
        refine no ?_; clear no
        obtain ⟨t, rfl⟩ := ra; obtain ⟨u, rfl⟩ := rb
        rcases w with ⟨rfl, w⟩ | ⟨rfl, w⟩
        · refine PySem.SB.mul (x := x) ⟨by decide, by simp, by simp⟩ fun t' k => ?_
          rw [show PySem.Txt.mul x 1 = x from by simp [PySem.Txt.mul]]
          exact .keeps R (fun _ _ e => e) (av := .str x) ⟨_, rfl⟩ w
        · refine PySem.SB.mul (x := x) ⟨by decide, by simp, by simp⟩ fun t' k => ?_
          rw [show PySem.Txt.mul x 0 = Str.empty from by simp [PySem.Txt.mul]]
          exact .keeps R (fun _ _ e => e) (av := .str Str.empty) ⟨_, rfl⟩ w
      | _ => exact False.elim w
    | _ => exact False.elim w
  | fdiv => cases a with
    | int x => cases b with
      | int y =>
        refine no ?_; clear no
        obtain ⟨t, rfl⟩ := ra; obtain ⟨u, rfl⟩ := rb
        refine PyProof.Rows.floordiv_int (by have := w.1.1; omega) (.keeps R (fun _ _ e => e) (av := .int _) ⟨_, rfl⟩ ?_) (.inl (divOk_of w.1))
        rw [fdiv_eq x w.1.1]; exact w.2
      | _ => exact False.elim w
    | _ => exact False.elim w
  | mod => cases a with
    | int x => cases b with
      | int y =>
        refine no ?_; clear no
        obtain ⟨t, rfl⟩ := ra; obtain ⟨u, rfl⟩ := rb
        refine PyProof.Rows.mod_int (by have := w.1; omega) (.keeps R (fun _ _ e => e) (av := .int _) ⟨_, rfl⟩ ?_)
        rw [Int.fmod_eq_emod_of_nonneg _ (by have := w.1; omega)]; exact w.2
      | _ => exact False.elim w
    | _ => exact False.elim w
  | pow => cases a with
    | int x => cases b with
      | int y =>
        refine no ?_; clear no
        refine byc fun no => ?_
        obtain ⟨t, rfl⟩ := ra; obtain ⟨u, rfl⟩ := rb
        obtain ⟨rfl, rfl, w⟩ := w
        refine no ?_; clear no
        exact pow_int_small (by decide) (by decide) (by decide) (.keeps R (fun _ _ e => e) (av := .int _) ⟨_, rfl⟩ w)
      | _ => exact False.elim w
    | _ => exact False.elim w
end
end Mine
end
section
open PySem
open PyProof.Rows
namespace Mine

section
variable {C : Cx} {T : Tab} {hk : Hook} {n : Nat} {M : Fm} {A : Around} {σ : AS} {s : Shared} {Q : AV → AS → Prop} {E : Value → Shared → Prop} {va vb : Value}

theorem isTup_of {h : Heap} {a : Addr} {items : Array Value} {k : Nat} (x : IsT h a items k) : IsTup h a items := ⟨_, x, rfl, k, rfl⟩
theorem isList_of {h : Heap} {a : Addr} {items : Array Value} {k : Nat} (x : IsL h a items k) : h.IsList a items := ⟨_, x, rfl, k, rfl⟩
theorem isEmpty_rvs {h : Heap} {ws : List Value} {vs : List AV} (x : RVs C h ws vs) : ws.toArray.isEmpty = vs.isEmpty := by
  cases ws with
  | nil => cases vs with
    | nil => rfl
    | cons _ _ => exact False.elim x
  | cons _ _ => cases vs with
    | nil => exact False.elim x
    | cons _ _ => simp

/-- the truth of a value -/
theorem truth_ok {a : AV} {b : Bool} (R : Rel C M σ s) (ra : RV C s.heap va a) (h : truth σ.H a = some b) {P : Bool → Shared → Prop} (k : ∀ t, P b { s with toks := t }) :
    wpAny (model C.prog C.w) A (truthy va) P E s := by
  unfold truth at h
  split at h
  · cases h; obtain rfl : va = .none := ra; exact truthy_none (k s.toks)
  · cases h; obtain rfl : va = .bool _ := ra; exact wpAny_truthy_bool (k s.toks)
  · cases h
    obtain ⟨t, rfl⟩ := ra
    refine PySem.P.truthy_int ?_
    have := k s.toks
    rename_i i
    rw [show (i != 0) = decide (i ≠ 0) from by by_cases h : i = 0 <;> simp [h]]
    exact this
  · cases h
    refine byc fun no => ?_
    obtain ⟨p, ws, j, rfl, hp, hv, hs⟩ := ra
    refine no ?_; clear no
    have hl := rvs_length hv
    refine PyProof.Rows.truthy_tuple (isTup_of hp) (by simp only [List.size_toArray]; omega) ?_
    rw [isEmpty_rvs hv]; exact k _
  · obtain rfl : va = .ref _ := ra
    rename_i p
    cases hg : getL σ.H p with
    | none => rw [hg] at h; cases h
    | some vs =>
      rw [hg] at h; cases h
      refine byc fun no => ?_
      obtain ⟨ws, j, hp, hv, hs⟩ := R.list hg
      refine no ?_; clear no
      have hl := rvs_length hv
      refine wpAny_truthy_list (isList_of hp) (by simp only [List.size_toArray]; omega) ?_
      rw [isEmpty_rvs hv]; exact k _
  · cases h

/-- a list or tuple that lies in the machine's heap -/
theorem seq_obj {o : AV} {vs : List AV} (R : Rel C M σ s) (ro : RV C s.heap va o) (h : seqOf σ.H o = some vs) :
    ∃ p ws k, va = .ref p ∧ (IsT s.heap p ws.toArray k ∨ IsL s.heap p ws.toArray k) ∧ RVs C s.heap ws vs ∧ vs.length ≤ 1000000 := by
  unfold seqOf at h
  split at h
  · cases h
    refine byc fun no => ?_
    obtain ⟨p, ws, j, rfl, hp, hv, hs⟩ := ro
    refine no ?_; clear no
    exact ⟨p, ws, j, rfl, .inl hp, hv, hs⟩
  · refine byc fun no => ?_
    obtain ⟨ws, j, hp, hv, hs⟩ := R.list h
    refine no ?_; clear no
    exact ⟨_, ws, j, ro, .inr hp, hv, hs⟩
  · cases h
    refine byc fun no => ?_
    obtain ⟨rfl, ws, j, hp, hi, hs⟩ := ro
    refine no ?_; clear no
    exact ⟨_, ws, j, rfl, .inr (R.keep _ _ hp), rvs_ints hi, by rw [List.length_map]; exact hs⟩
  · cases h

theorem idx_ok {o i : AV} {value slice : Expr} (hsl : plainSlice slice = true) (R : Rel C M σ s) (ro : RV C s.heap va o) (ri : RV C s.heap vb i) (w : idxW o i σ Q) :
    wpAny (model C.prog C.w) A (subscriptTail value slice va vb) (Good C M σ s Q) E s := by
  unfold idxW at w
  split at w
  · rename_i k
    refine byc fun no => ?_
    obtain ⟨t, rfl⟩ := ri
    obtain ⟨⟨h1, h2⟩, w⟩ := w
    obtain ⟨vs, hv, w⟩ := need_of w
    obtain ⟨x, hx, w⟩ := need_of w
    obtain ⟨p, ws, j, rfl, hp, hr, hs⟩ := seq_obj R ro hv
    refine no ?_; clear no
    have hl := rvs_length hr
    have hsub : subscripted slice false (.ref p) (.int k t) = operate [.ref p, .int k t] (getItem (.ref p) (.int k t)) := by
      cases slice <;> first | rfl | (exact absurd hsl Bool.false_ne_true)
    unfold pick at hx
    rcases hp with hp | hp
    · refine tail_any (isTup_of hp).typeIs slot_tuple_getitem.lookup ?_ hsub
      split at hx
      · rename_i hk
        split at hx
        · cases hx
        · obtain ⟨v, e, r⟩ := rvs_get hr hx
          have hlt := (List.getElem?_eq_some_iff.mp hx).1
          refine PyProof.Rows.getItem_tuple (j := (k + vs.length).toNat) (isTup_of hp) (by (clear hs hl hlt; omega)) (by (clear hs hl hlt; omega)) ?_ ?_ (.here R r w)
          · unfold seqIndex?
            simp only [List.size_toArray, hl, hk, if_true]
            rw [if_pos (by simp; (clear hs hlt; omega))]
          · rw [List.getElem?_toArray]; exact e
      · rename_i hk
        obtain ⟨v, e, r⟩ := rvs_get hr hx
        have hlt := (List.getElem?_eq_some_iff.mp hx).1
        refine PyProof.Rows.getItem_tuple (j := k.toNat) (isTup_of hp) (by (clear hs hl hlt; omega)) (by (clear hs hl hlt; omega)) ?_ ?_ (.here R r w)
        · unfold seqIndex?
          simp only [List.size_toArray, hl, hk, if_false]
          rw [if_pos (by simp; omega)]
        · rw [List.getElem?_toArray]; exact e
    · refine tail_any (isList_of hp).typeIs slot_list_getitem.lookup ?_ hsub
      split at hx
      · rename_i hk
        split at hx
        · cases hx
        · obtain ⟨v, e, r⟩ := rvs_get hr hx
          refine wpAny_getItem_list_neg (isList_of hp) hk (by rw [List.size_toArray]; (clear h1 h2 hs hk; omega)) (by (clear hs hl; omega)) ?_ (.here R r w)
          rw [List.getElem?_toArray, List.size_toArray, hl]; exact e
      · rename_i hk
        obtain ⟨v, e, r⟩ := rvs_get hr hx
        refine wpAny_getItem_list (isList_of hp) (by (clear hs hl; omega)) (by (clear hs hl; omega)) ?_ (.here R r w)
        rw [List.getElem?_toArray]; exact e
  · exact w.elim

/-! ### slices -/
noncomputable def optI : AV → Option Int
  | .int i => some i
  | _ => none
noncomputable def isPartV : AV → Bool
  | .int _ | .none => true
  | _ => false
theorem part_of {h : Heap} {v : Value} {a : AV} (r : RV C h v a) (hp : isPartV a = true) : IsPart v (optI a) := by
  unfold isPartV at hp
  split at hp
  · obtain ⟨t, rfl⟩ := r; exact .int _ _
  · obtain rfl : v = .none := r; exact .none
  · cases hp
theorem cut_eq {vs : List AV} {lo hi : AV} {r : List AV} (h : cut vs lo hi = some r) :
    isPartV lo = true ∧ isPartV hi = true ∧ r = (vs.drop (PySem.W.kms_lo (optI lo) vs.length)).take (PySem.W.kms_hi (optI hi) vs.length - PySem.W.kms_lo (optI lo) vs.length) := by
  have nrm : ∀ (i : Int) (n : Nat), normI i n = PySem.W.kms_lo (some i) n := fun i n => by
    unfold normI PySem.W.kms_lo
    dsimp only
    split <;> omega
  have nrm' : ∀ (i : Int) (n : Nat), normI i n = PySem.W.kms_hi (some i) n := fun i n => by
    unfold normI PySem.W.kms_hi
    dsimp only
    split <;> omega
  have td : ∀ (l : List AV) (a b : Nat), (l.take b).drop a = (l.drop a).take (b - a) := fun l a b => by rw [List.drop_take]
  unfold cut at h
  split at h
  · cases h
    refine ⟨rfl, rfl, ?_⟩
    show vs = (vs.drop 0).take (vs.length - 0)
    simp
  · cases h
    refine ⟨rfl, rfl, ?_⟩
    show vs.take (normI _ vs.length) = (vs.drop 0).take (PySem.W.kms_hi (some _) vs.length - 0)
    rw [nrm']; simp
  · cases h
    refine ⟨rfl, rfl, ?_⟩
    rename_i i
    show vs.drop (normI _ vs.length) = (vs.drop (PySem.W.kms_lo (some i) vs.length)).take (vs.length - PySem.W.kms_lo (some i) vs.length)
    rw [nrm, List.take_of_length_le (by simp)]
  · cases h
    refine ⟨rfl, rfl, ?_⟩
    rename_i i j
    show (vs.take (normI _ vs.length)).drop (normI _ vs.length) = (vs.drop (PySem.W.kms_lo (some i) vs.length)).take (PySem.W.kms_hi (some j) vs.length - PySem.W.kms_lo (some i) vs.length)
    rw [td, nrm i, nrm' j]
  · cases h
theorem rvs_pick {h : Heap} {ws : List Value} {vs : List AV} {lo hi : AV} {r : List AV} (x : RVs C h ws vs) (e : cut vs lo hi = some r) : RVs C h (PySem.W.kms_pick ws (optI lo) (optI hi)) r := by
  obtain ⟨_, _, rfl⟩ := cut_eq e
  unfold PySem.W.kms_pick
  rw [rvs_length x]
  exact rvs_take _ (rvs_drop _ x)
theorem cut_len {vs : List AV} {lo hi : AV} {r : List AV} (e : cut vs lo hi = some r) : r.length ≤ vs.length := by
  obtain ⟨_, _, rfl⟩ := cut_eq e
  simp only [List.length_take, List.length_drop]
  omega

theorem slicePart_of {v : Value} {o : Option Int} {P : Option Int → Shared → Prop} (h : IsPart v o) (q : P o s) : wpAny (model C.prog C.w) A (Builtin.Slice.slicePartIndex v) P E s := by
  cases h with
  | none => exact slicePart_none q
  | int i t => exact slicePart_int q
theorem adjust_kms (lo hi : Option Int) (n : Nat) : Builtin.Slice.sliceAdjust lo hi 1 (n : Int) = (((PySem.W.kms_lo lo n : Nat) : Int), ((PySem.W.kms_hi hi n : Nat) : Int)) := by
  unfold Builtin.Slice.sliceAdjust
  have h1 : ¬ ((1 : Int) < 0) := by omega
  simp only [h1, if_false]
  refine Prod.ext ?_ ?_
  · cases lo with
    | none => rfl
    | some x =>
      show (if x < 0 then max (x + n) 0 else min x n) = _
      unfold PySem.W.kms_lo
      dsimp only
      split <;> (clear h1; omega)
  · cases hi with
    | none => rfl
    | some x =>
      show (if x < 0 then max (x + n) 0 else min x n) = _
      unfold PySem.W.kms_hi
      dsimp only
      split <;> (clear h1; omega)
theorem places_kms (a b : Nat) : Builtin.Slice.slicePlaces (a : Int) (b : Int) 1 = b - a := by
  unfold Builtin.Slice.slicePlaces
  have h1 : (1 : Int) > 0 := by omega
  simp only [h1, if_true, Int.ediv_one]
  split <;> (clear h1; omega)
theorem sliceApplied_of {sl : Addr} {vl vu : Value} {lo hi : Option Int} {k : Nat} {P : Int × Int × Nat → Shared → Prop} (hs : s.heap.IsSliceOf sl vl vu .none) (pl : IsPart vl lo) (pu : IsPart vu hi)
    (h : P (((PySem.W.kms_lo lo k : Nat) : Int), 1, PySem.W.kms_hi hi k - PySem.W.kms_lo lo k) s) : wpAny (model C.prog C.w) A (Builtin.Slice.sliceApplied (.ref sl) (pure (k : Int))) P E s := by
  refine byc fun no => ?_
  obtain ⟨os, hos, hcs, hds⟩ := id hs
  refine no ?_; clear no
  unfold Builtin.Slice.sliceApplied Builtin.Slice.sliceFields
  refine wpAny_bind (wpAny_bind (wpAny_field hos hds (x := vl) rfl (wpAny_bind (wpAny_field hos hds (x := vu) rfl (wpAny_bind (wpAny_field hos hds (x := .none) rfl (wpAny_pure ?_)))))))
  refine wpAny_bind (slicePart_none ?_)
  show wpAny _ _ (if ((1 : Int) == 0) = true then _ else _) _ _ s
  rw [if_neg (by decide)]
  refine wpAny_bind (slicePart_of pl (wpAny_bind (slicePart_of pu (wpAny_bind (wpAny_pure ?_)))))
  show wpAny _ _ (match Builtin.Slice.sliceAdjust lo hi 1 (k : Int) with | (lo, hi) => pure (lo, (1 : Int), Builtin.Slice.slicePlaces lo hi 1)) _ _ s
  rw [adjust_kms]
  show wpAny _ _ (pure (((PySem.W.kms_lo lo k : Nat) : Int), (1 : Int), Builtin.Slice.slicePlaces ((PySem.W.kms_lo lo k : Nat) : Int) ((PySem.W.kms_hi hi k : Nat) : Int) 1)) _ _ s
  rw [places_kms]
  exact wpAny_pure h
theorem pick_kms (ws : List Value) (a n : Nat) : ((List.range n).filterMap fun (k : Nat) => ws.toArray[((a : Int) + (k : Int) * 1).toNat]?).toArray = ((ws.drop a).take n).toArray := by
  have e : (fun (k : Nat) => ws.toArray[((a : Int) + (k : Int) * 1).toNat]?) = fun k => ws.toArray[a + k]? := by
    funext k
    have : ((a : Int) + (k : Int) * 1).toNat = a + k := by omega
    rw [this]
  rw [e]
  have := pick_run ws.toArray a n
  rw [List.filterMap_map] at this
  have e2 : ((fun x => ws.toArray[x]?) ∘ fun x => a + x) = fun k => ws.toArray[a + k]? := rfl
  rw [e2] at this
  rw [this]
theorem getItem_tup_slice {t sl : Addr} {ws : List Value} {vl vu : Value} {lo hi : Option Int} {P : Value → Shared → Prop} (ht : IsTup s.heap t ws.toArray) (hs : s.heap.IsSliceOf sl vl vu .none) (pl : IsPart vl lo) (pu : IsPart vu hi)
    (h0 : PySem.W.kms_pick ws lo hi = ws → P (.ref t) s)
    (h : P (.ref s.heap.objs.size) { s with heap := s.heap.push { cls := .type "tuple", data := .seq (PySem.W.kms_pick ws lo hi).toArray } })
    (hsz : ws.length ≤ sizeLine) : wpAny (model C.prog C.w) A (getItem (.ref t) (.ref sl)) P E s := by
  have hdrop : sizeOk (.seq (PySem.W.kms_pick ws lo hi).toArray) := by
    show (PySem.W.kms_pick ws lo hi).toArray.size ≤ sizeLine
    unfold PySem.W.kms_pick
    rw [List.size_toArray, List.length_take, List.length_drop]
    omega
  refine byc fun no => ?_
  obtain ⟨os, hos, hcs, hds⟩ := id hs
  refine no ?_; clear no
  have hTs : s.TypeIs (.ref sl) "slice" := ⟨os, hos, hcs⟩
  unfold getItem
  try with_reducible refine wpAny_holding ?_
  first | refine wpAny_bind (wpAny_pure ?_) | skip
  refine wpAny_bind (wpAny_sequenceKey ht.typeIs (by decide) ?_)
  refine wpAny_bind (wpAny_callSpecial?_slot (name := Str.ofString "__getitem__") ht.typeIs slot_tuple_getitem
    (wpAny_call_entry slot_tuple_getitem ht.typeIs entry_tuple_getitem ?_ (args_tuple_getitem _ _)))
  show wpAny _ _ (Builtin.Tuple.tupleItemsOf (.ref t) >>= _) _ _ s
  refine wpAny_bind (tupleItemsOf_ ht ?_)
  refine wpAny_bind (wpAny_typeOf hTs ?_)
  rw [if_pos (by decide)]
  refine wpAny_bind (sliceApplied_of hs pl pu ?_)
  show wpAny _ _ (if (((PySem.W.kms_lo lo ws.toArray.size : Nat) : Int) == 0 && (1 : Int) == 1 && (PySem.W.kms_hi hi ws.toArray.size - PySem.W.kms_lo lo ws.toArray.size) == ws.toArray.size) = true then _ else _) _ _ s
  have hsize : ws.toArray.size = ws.length := List.size_toArray
  rw [hsize]
  split
  · rename_i hc
    simp only [Bool.and_eq_true, beq_iff_eq] at hc
    unfold Builtin.Tuple.tupleIsExact
    refine wpAny_bind (wpAny_bind (wpAny_typeOf ht.typeIs (wpAny_pure ?_)))
    rw [if_pos (by decide)]
    refine wpAny_bind (wpAny_rule (wpAny_pure ⟨_, rfl, wpAny_pure (h0 ?_)⟩))
    unfold PySem.W.kms_pick
    have e0 : PySem.W.kms_lo lo ws.length = 0 := by (clear hsz hsize; omega)
    rw [hc.2, e0]; simp
  · rw [pick_kms]
    have e : (ws.drop (PySem.W.kms_lo lo ws.length)).take (PySem.W.kms_hi hi ws.length - PySem.W.kms_lo lo ws.length) = PySem.W.kms_pick ws lo hi := rfl
    rw [e]
    first
      | exact wpAny_bind (m := Builtin.Tuple.tupleExact _) (wpAny_newObj_type (wpAny_pure ⟨_, rfl, wpAny_pure h⟩) hdrop)
      | exact wpAny_bind (m := Builtin.Tuple.tupleExact _) (wpAny_newObj_type (wpAny_bind (wpAny_pure (wpAny_pure ⟨_, rfl, wpAny_pure h⟩))) hdrop)
      | exact wpAny_bind (wpAny_bind (m := Builtin.Tuple.tupleExact _) (wpAny_newObj_type (wpAny_pure (wpAny_pure ⟨_, rfl, wpAny_pure h⟩)) hdrop))
      | exact wpAny_bind (wpAny_bind (m := Builtin.Tuple.tupleExact _) (wpAny_newObj_type (wpAny_pure ⟨_, rfl, wpAny_pure h⟩) hdrop))

theorem slc_ok {o lo hi : AV} {value : Expr} {l u : Option Expr} {p : Pos} {vl vu : Value} (F : FmOk C M) (R : Rel C M σ s) (ro : RV C s.heap va o) (rl : RV C s.heap vl lo) (ru : RV C s.heap vu hi) (w : slcW o lo hi σ Q) :
    wpAny (model C.prog C.w) A (subscriptTail value (.Slice l u none p) va (.ref s.heap.objs.size)) (Good C M σ s Q) E { s with heap := s.heap.push { cls := .type "slice", data := .fields #[vl, vu, .none] } } := by
  have k : ∀ b ob, s.heap.get? b = some ob → (s.heap.push { cls := .type "slice", data := .fields #[vl, vu, .none] }).get? b = some ob := fun b ob e => Heap.get?_push_of_some _ e
  have R' : Rel C M σ { s with heap := s.heap.push { cls := .type "slice", data := .fields #[vl, vu, .none] } } := R.keeps k
  have hz : sizeLine = 16777216 := sizeLine_eq
  unfold slcW at w
  obtain ⟨_, _, w⟩ := w
  split at w
  · rename_i vs
    refine byc fun no => ?_
    obtain ⟨r, hr, w⟩ := need_of w
    obtain ⟨q, ws, j, rfl, hp, hv, hs⟩ := ro
    have hp' := k _ _ hp
    have hv' := hv.mono (Im.keeps k)
    obtain ⟨c1, c2, _⟩ := cut_eq hr
    refine no ?_; clear no
    have hl := rvs_length hv
    refine tail_any (s := { s with heap := s.heap.push { cls := .type "slice", data := .fields #[vl, vu, .none] } }) (isTup_of hp').typeIs slot_tuple_getitem.lookup
      (getItem_tup_slice (isTup_of hp') (Heap.IsSliceOf.new ..) (part_of rl c1) (part_of ru c2) (fun e => ?_) ?_ (by omega)) (by with_unfolding_all rfl)
    · have := rvs_pick hv' hr
      rw [e] at this
      exact ⟨.tup r, σ, R', .keeps k, ⟨q, ws, j, rfl, hp', this, Nat.le_trans (cut_len hr) hs⟩, w⟩
    · exact (new_tup R' (rvs_pick hv' hr) (Nat.le_trans (cut_len hr) hs) w).after (.keeps k)
  · rename_i a
    refine byc fun no => ?_
    obtain rfl : va = .ref a := ro
    obtain ⟨vs, hg, w⟩ := need_of w
    obtain ⟨r, hr, w⟩ := need_of w
    obtain ⟨ws, j, hp, hv, hs⟩ := R.list hg
    have hp' := k _ _ hp
    have hv' := hv.mono (Im.keeps k)
    obtain ⟨c1, c2, _⟩ := cut_eq hr
    refine no ?_; clear no
    have hl := rvs_length hv
    refine tail_any (s := { s with heap := s.heap.push { cls := .type "slice", data := .fields #[vl, vu, .none] } }) (isList_of hp').typeIs slot_list_getitem.lookup
      (wpAny_getItem_list_slice (isList_of hp') (Heap.IsSliceOf.new ..) (part_of rl c1) (part_of ru c2) .none (by simp) ?_ (by rw [List.size_toArray]; omega)) (by with_unfolding_all rfl)
    rw [PySem.W.kms_pick_eq]
    exact (new_list F R' (rvs_pick hv' hr) w).after (.keeps k)
  · exact w.elim

theorem rev_ok {o : AV} {value : Expr} {l u e : Option Expr} {p : Pos} {t : Tok} (he : e.isSome = true) (F : FmOk C M) (R : Rel C M σ s) (ro : RV C s.heap va o) (w : revW o σ Q) :
    wpAny (model C.prog C.w) A (subscriptTail value (.Slice l u e p) va (.ref s.heap.objs.size)) (Good C M σ s Q) E { s with heap := s.heap.push { cls := .type "slice", data := .fields #[.none, .none, .int (-1) t] } } := by
  have k : ∀ b ob, s.heap.get? b = some ob → (s.heap.push { cls := .type "slice", data := .fields #[.none, .none, .int (-1) t] }).get? b = some ob := fun b ob e => Heap.get?_push_of_some _ e
  have R' : Rel C M σ { s with heap := s.heap.push { cls := .type "slice", data := .fields #[.none, .none, .int (-1) t] } } := R.keeps k
  have hz : sizeLine = 16777216 := sizeLine_eq
  unfold revW at w
  split at w
  · rename_i a
    refine byc fun no => ?_
    obtain rfl : va = .ref a := ro
    obtain ⟨vs, hg, w⟩ := need_of w
    obtain ⟨ws, j, hp, hv, hs⟩ := R.list hg
    have hp' := k _ _ hp
    have hv' := hv.mono (Im.keeps k)
    have hl := rvs_length hv
    obtain ⟨e', rfl⟩ := Option.isSome_iff_exists.mp he
    refine no ?_; clear no
    refine tail_any (s := { s with heap := s.heap.push { cls := .type "slice", data := .fields #[.none, .none, .int (-1) t] } }) (ops := [.ref a, .ref s.heap.objs.size]) (isList_of hp').typeIs slot_list_getitem.lookup
      (wpAny_getItem_list_slice (isList_of hp') (Heap.IsSliceOf.new ..) .none .none (.int (-1) t) (by simp) ?_ (by rw [List.size_toArray]; omega)) (by with_unfolding_all rfl)
    rw [PySem.W.krv_pick]
    exact (new_list F R' (rvs_reverse hv') w).after (.keeps k)
  · exact w.elim
end
end Mine
end
section
open PySem
open PyProof.Rows
namespace Mine
section
open PySem.AutoSeq1 (wpAny_loadPart')
open PySem.MeetsSeq PySem.MeetsSeq3
end
section
variable {C : Cx}
theorem ints_rvs {h : Heap} : ∀ {ws : List Value} {vs : List AV} {ns : List Int}, RVs C h ws vs → ints? vs = some ns → IntsAre ws ns
  | [], [], ns, _, e => by cases e; exact .nil
  | v :: ws, .int i :: vs, ns, r, e => by
    unfold ints? at e
    cases h' : ints? vs with
    | none => rw [h'] at e; cases e
    | some ms =>
      rw [h'] at e; cases e
      obtain ⟨t, rfl⟩ := r.1
      exact .cons i t (ints_rvs r.2 h')
  | [], _ :: _, _, r, _ => r.elim
  | _ :: _, [], _, r, _ => r.elim
  | _ :: _, .none :: _, _, _, e => by cases e
  | _ :: _, .bool _ :: _, _, _, e => by cases e
  | _ :: _, .str _ :: _, _, _, e => by cases e
  | _ :: _, .tup _ :: _, _, _, e => by cases e
  | _ :: _, .lst _ :: _, _, _, e => by cases e
  | _ :: _, .dct _ :: _, _, _, e => by cases e
  | _ :: _, .obj _ _ _ :: _, _, _, e => by cases e
  | _ :: _, .exc _ _ :: _, _, _, e => by cases e
  | _ :: _, .fn _ :: _, _, _, e => by cases e
  | _ :: _, .cls _ :: _, _, _, e => by cases e
  | _ :: _, .typ _ :: _, _, _, e => by cases e
  | _ :: _, .bi _ :: _, _, _, e => by cases e
  | _ :: _, .frz _ _ :: _, _, _, e => by cases e
  | _ :: _, .rng _ _ :: _, _, _, e => by cases e
end
end Mine
end
section
open PySem
open PyProof.Rows
namespace Mine

section
variable {C : Cx} {T : Tab} {hk : Hook} {n : Nat} {M : Fm} {A : Around} {σ : AS} {s : Shared} {Q : AV → AS → Prop} {E : Value → Shared → Prop} {va vb : Value}

mutual
theorem reads_of (R : Rel C M σ s) : ∀ {v : Value} {a : AV} (d : PyData), RV C s.heap v a → rd σ.H a d → ∃ as, Reads s.heap v d as
  | v, a, .none, r, h => by
    obtain rfl : a = .none := h
    obtain rfl : v = .none := r
    exact ⟨_, .none⟩
  | v, a, .bool b, r, h => by
    obtain rfl : a = .bool b := h
    obtain rfl : v = .bool b := r
    exact ⟨_, .bool b⟩
  | v, a, .int i, r, h => by
    obtain rfl : a = .int i := h
    obtain ⟨t, rfl⟩ := r
    exact ⟨_, .int i t⟩
  | v, a, .str x, r, h => by
    obtain rfl : a = .str x := h
    obtain ⟨t, rfl⟩ := r
    exact ⟨_, .str x t⟩
  | v, a, .tuple ds, r, h => by
    unfold rd at h
    refine byc fun no => ?_
    obtain ⟨vs, rfl, hd⟩ := h
    obtain ⟨p, ws, k, rfl, hp, hv, _⟩ := r
    obtain ⟨as, hr⟩ := readsAll_of R ds hv hd
    refine no ?_; clear no
    exact ⟨_, .tuple hp rfl rfl (by simpa using hr)⟩
  | v, a, .list ds, r, h => by
    unfold rd at h
    refine byc fun no => ?_
    obtain ⟨p, vs, rfl, hg, hd⟩ := h
    obtain rfl : v = .ref p := r
    obtain ⟨ws, k, hp, hv, _⟩ := R.list hg
    obtain ⟨as, hr⟩ := readsAll_of R ds hv hd
    refine no ?_; clear no
    exact ⟨_, .list hp rfl rfl (by simpa using hr)⟩
  | v, a, .dict _, r, h => by
    unfold rd at h
    exact h.elim
theorem readsAll_of (R : Rel C M σ s) : ∀ {ws : List Value} {vs : List AV} (ds : List PyData), RVs C s.heap ws vs → rds σ.H vs ds → ∃ as, ReadsAll s.heap ws ds as
  | [], [], [], _, _ => ⟨_, .nil⟩
  | _ :: _, _ :: _, d :: ds, r, h => by
    refine byc fun no => ?_
    obtain ⟨as, h1⟩ := reads_of R d r.1 h.1
    obtain ⟨bs, h2⟩ := readsAll_of R ds r.2 h.2
    refine no ?_; clear no
    exact ⟨_, .cons h1 h2⟩
  | [], _ :: _, _, r, _ => r.elim
  | _ :: _, [], _, r, _ => r.elim
  | [], [], _ :: _, _, h => h.elim
  | _ :: _, _ :: _, [], _, h => h.elim
end

theorem eq_ok {a b : AV} (hA : AOk M A n σ.hd) (R : Rel C M σ s) (ra : RV C s.heap va a) (rb : RV C s.heap vb b) {P : Bool → Prop} (w : eqW a b σ.H P) {O : Value → Shared → Prop} (k : ∀ r, P r → O (.bool r) s) :
    wpAny (model C.prog C.w) A (compareOp .Eq va vb) O E s := by
  unfold eqW at w
  split at w
  · obtain ⟨t, rfl⟩ := ra; obtain ⟨u, rfl⟩ := rb
    rename_i x y
    refine PySem.P.eq_int ?_
    have := k _ w
    rwa [show (x == y) = decide (x = y) from rfl]
  · obtain rfl : va = .bool _ := ra
    obtain rfl : vb = .bool _ := rb
    rename_i x y
    refine eq_dataS (.bool x) (.bool y) (by cases x <;> decide) (by cases y <;> decide) (by have := hA.units; omega) ?_
    have := k _ w
    rwa [show PyData.eqv (.bool x) (.bool y) = decide (x = y) from rfl]
  · refine byc fun no => ?_
    obtain ⟨d, e, h1, h2, h3, h4, w⟩ := w
    obtain ⟨as, r1⟩ := reads_of R d ra h1
    obtain ⟨bs, r2⟩ := reads_of R e rb h2
    refine no ?_; clear no
    exact eq_dataH r1 r2 h3 h4 (by have := hA.units; omega) (k _ w)
theorem ne_ok {a b : AV} (hA : AOk M A n σ.hd) (R : Rel C M σ s) (ra : RV C s.heap va a) (rb : RV C s.heap vb b) {P : Bool → Prop} (w : eqW a b σ.H P) {O : Value → Shared → Prop} (k : ∀ r, P r → O (.bool (!r)) s) :
    wpAny (model C.prog C.w) A (compareOp .NotEq va vb) O E s := by
  unfold eqW at w
  split at w
  · obtain ⟨t, rfl⟩ := ra; obtain ⟨u, rfl⟩ := rb
    rename_i x y
    refine PySem.P.ne_int ?_
    have := k _ w
    rwa [show (x != y) = !decide (x = y) from rfl]
  · obtain rfl : va = .bool _ := ra
    obtain rfl : vb = .bool _ := rb
    rename_i x y
    refine ne_dataS (.bool x) (.bool y) (by cases x <;> decide) (by cases y <;> decide) (by have := hA.units; omega) ?_
    have := k _ w
    rwa [show PyData.eqv (.bool x) (.bool y) = decide (x = y) from rfl]
  · refine byc fun no => ?_
    obtain ⟨d, e, h1, h2, h3, h4, w⟩ := w
    obtain ⟨as, r1⟩ := reads_of R d ra h1
    obtain ⟨bs, r2⟩ := reads_of R e rb h2
    refine no ?_; clear no
    exact ne_dataH r1 r2 h3 h4 (by have := hA.units; omega) (k _ w)

theorem isNone_val {h : Heap} {v : Value} {a : AV} (r : RV C h v a) : (v == .none) = isNone a := by
  cases a <;> first
    | (obtain rfl := r; rfl)
    | (obtain ⟨_, rfl⟩ := r; rfl)
    | (obtain ⟨_, _, _, rfl, _⟩ := r; rfl)
    | (obtain ⟨rfl, _⟩ := r; rfl)
    | (obtain ⟨_, _, _, _, rfl, _⟩ := r; rfl)
theorem none_val {h : Heap} {v : Value} {a : AV} (r : RV C h v a) (hn : isNone a = true) : v = .none := by
  have := isNone_val r
  rw [hn] at this
  exact eq_of_beq this

noncomputable def cF : COp → CmpOp
  | .eq => .Eq | .ne => .NotEq | .lt => .Lt | .le => .LtE | .gt => .Gt | .ge => .GtE | .is => .Is | .isnot => .IsNot | .inn => .In | .notin => .NotIn
theorem sameC_op {op : COp} {op' : CmpOp} (h : sameC op op' = true) : op' = cF op := by
  cases op' <;> cases op <;> first | rfl | (exact absurd h Bool.false_ne_true)
theorem cmp_ok {op : COp} {op' : CmpOp} (ho : sameC op op' = true) {a b : AV} (hA : AOk M A n σ.hd) (R : Rel C M σ s) (ra : RV C s.heap va a) (rb : RV C s.heap vb b) (w : cmpW op a b σ Q) :
    wpAny (model C.prog C.w) A (compareOp op' va vb) (Good C M σ s Q) E s := by
  obtain rfl := sameC_op ho
  refine byc fun no => ?_
  cases op with
  | eq => exact no <| eq_ok hA R ra rb (show eqW a b σ.H (fun r => Q (.bool r) σ) from w) fun r q => .here R (av := .bool _) rfl q
  | ne => exact no <| ne_ok hA R ra rb (show eqW a b σ.H (fun r => Q (.bool (!r)) σ) from w) fun r q => .here R (av := .bool _) rfl q
  | lt => cases a with
    | int x => cases b with
      | int y =>
        refine no ?_; clear no
        obtain ⟨t, rfl⟩ := ra; obtain ⟨u, rfl⟩ := rb
        exact PySem.P.lt_int (.here R (av := .bool _) rfl w)
      | _ => exact False.elim w
    | _ => exact False.elim w
  | le => cases a with
    | int x => cases b with
      | int y =>
        refine no ?_; clear no
        obtain ⟨t, rfl⟩ := ra; obtain ⟨u, rfl⟩ := rb
        exact PySem.P.le_int (.here R (av := .bool _) rfl w)
      | _ => exact False.elim w
    | _ => exact False.elim w
  | gt => cases a with
    | int x => cases b with
      | int y =>
        refine no ?_; clear no
        obtain ⟨t, rfl⟩ := ra; obtain ⟨u, rfl⟩ := rb
        exact PySem.P.gt_int (.here R (av := .bool _) rfl w)
      | _ => exact False.elim w
    | _ => exact False.elim w
  | ge => cases a with
    | int x => cases b with
      | int y =>
        refine no ?_; clear no
        obtain ⟨t, rfl⟩ := ra; obtain ⟨u, rfl⟩ := rb
        exact PySem.P.ge_int (.here R (av := .bool _) rfl w)
      | _ => exact False.elim w
    | _ => exact False.elim w
  | is =>
    refine no ?_; clear no
    obtain rfl := none_val rb w.1
    exact is_none_gen (by rw [isNone_val ra]; exact .here R (av := .bool _) rfl w.2)
  | isnot =>
    refine no ?_; clear no
    obtain rfl := none_val rb w.1
    exact isnot_none_gen (by rw [isNone_val ra]; exact .here R (av := .bool _) rfl w.2)
  | inn => cases a with
    | int x => cases b with
      | tup vs =>
        refine no ?_; clear no
        obtain ⟨t, rfl⟩ := ra
        obtain ⟨p, ws, k, rfl, hp, hv, _⟩ := rb
        obtain ⟨ns, h1, w⟩ := need_of w
        exact in_tuple_ints (isTup_of hp) (by simpa using ints_rvs hv h1) (.here R (av := .bool _) rfl w)
      | _ => exact False.elim w
    | _ => exact False.elim w
  | notin => cases a with
    | int x => cases b with
      | tup vs =>
        refine no ?_; clear no
        obtain ⟨t, rfl⟩ := ra
        obtain ⟨p, ws, k, rfl, hp, hv, _⟩ := rb
        obtain ⟨ns, h1, w⟩ := need_of w
        exact notin_tuple_ints (isTup_of hp) (by simpa using ints_rvs hv h1) (.here R (av := .bool _) rfl w)
      | _ => exact False.elim w
    | _ => exact False.elim w
end
end Mine
end
section
open PySem
open PyProof.Rows
namespace Mine

/-- a row of expressions -/
noncomputable def SEs (C : Cx) (T : Tab) (hk : Hook) (n : Nat) (M : Fm) (ms : List ME) (es : List Expr) : Prop :=
  ∀ (A : Around) (σ : AS) (s : Shared) (Q : List AV → AS → Prop) (X : Nat → AS → Prop) (pos : Pos), AOk M A n σ.hd → Rel C M σ s → WEs T hk ms σ Q X →
    wpAny (model C.prog C.w) A (spliced (backTo pos (starEach es M.cur))) (GoodL C M σ s Q) (Bad C M σ s X) s
/-- a test -/
noncomputable def ST (C : Cx) (T : Tab) (hk : Hook) (n : Nat) (M : Fm) (m : MT) (e : Expr) : Prop :=
  ∀ (A : Around) (σ : AS) (s : Shared) (Q : Bool → AS → Prop) (X : Nat → AS → Prop), AOk M A n σ.hd → Rel C M σ s → WT T hk m σ Q X →
    wpAny (model C.prog C.w) A (isTrue e M.cur (eval e M.cur)) (GoodB C M σ s Q) (Bad C M σ s X) s
noncomputable def notStar : Expr → Bool
  | .Starred .. => false
  | _ => true

section
variable {C : Cx} {T : Tab} {hk : Hook} {n : Nat} {M : Fm}

theorem starEach_cons {e : Expr} {es : List Expr} {env : Env} (h : notStar e = true) : starEach (e :: es) env = (false, eval e env) :: starEach es env := by
  cases e <;> first | rfl | (exact absurd h Bool.false_ne_true)

theorem ses_nil : SEs C T hk n M [] [] := fun _ _ _ _ _ _ _ R w => args_nil ⟨[], _, R, .refl .., trivial, w⟩
theorem ses_cons {m : ME} {e : Expr} {ms : List ME} {es : List Expr} (h : SE C T hk n M m e) (hs : SEs C T hk n M ms es) (hn : notStar e = true) : SEs C T hk n M (m :: ms) (e :: es) := by
  intro A σ s Q X pos hA R w
  refine args_cons ?_ (starEach_cons hn)
  refine h.then hA R w fun v av σ₁ s₁ R₁ E₁ r₁ w₁ hA₁ => ?_
  refine wpAny_mono (hs A σ₁ s₁ _ X pos hA₁ R₁ w₁) (fun vs s₂ g => ?_) fun _ _ b => b.after E₁
  obtain ⟨as, σ₂, R₂, E₂, r₂, q⟩ := g
  exact ⟨av :: as, σ₂, R₂, E₁.trans E₂, ⟨r₁.mono (E₂.im R₁), r₂⟩, q⟩

theorem se_bin {op : BOp} {op' : Operator} {l r : ME} {l' r' : Expr} {pos : Pos} (F : FmOk C M) (ho : sameB op op' = true) (hl : SE C T hk n M l l') (hr : SE C T hk n M r r') : SE C T hk n M (.bin op l r) (.BinOp l' op' r' pos) := by
  intro A σ s Q X hA R w
  refine wpAny_BinOp (hl.then hA R w fun v av σ₁ s₁ R₁ E₁ r₁ w₁ hA₁ => ?_)
  refine wpAny_mono (hr.then hA₁ R₁ w₁ fun v' av' σ₂ s₂ R₂ E₂ r₂ w₂ hA₂ => ?_) (fun _ _ g => g) fun _ _ b => b.after E₁
  exact wpAny_mono (bin_ok (E := fun _ _ => False) ho F R₂ (r₁.mono (E₂.im R₁)) r₂ w₂) (fun _ _ g => (g.after E₂).after E₁) fun _ _ b => b.elim

theorem se_neg {m : ME} {e : Expr} {pos : Pos} (h : SE C T hk n M m e) : SE C T hk n M (.neg m) (.UnaryOp .USub e pos) := by
  intro A σ s Q X hA R w
  show wpAny _ _ (do let v ← eval e M.cur; standAt pos; holding [v] (unaryOp .USub v)) _ _ s
  refine wpAny_bind (h.then hA R w fun v av σ₁ s₁ R₁ E₁ r₁ w₁ hA₁ => wpAny_bind (wpAny_standAt (wpAny_holding ?_)))
  split at w₁
  · obtain ⟨t, rfl⟩ := r₁
    exact PySem.P.neg_int (Good.after E₁ (.keeps R₁ (fun _ _ e => e) (av := .int _) ⟨_, rfl⟩ w₁))
  · exact w₁.elim
theorem se_not {m : ME} {e : Expr} {pos : Pos} (h : SE C T hk n M m e) : SE C T hk n M (.not m) (.UnaryOp .Not e pos) := by
  intro A σ s Q X hA R w
  show wpAny _ _ (do let v ← eval e M.cur; standAt pos; holding [v] (unaryOp .Not v)) _ _ s
  refine wpAny_bind (h.then hA R w fun v av σ₁ s₁ R₁ E₁ r₁ w₁ hA₁ => wpAny_bind (wpAny_standAt (wpAny_holding ?_)))
  obtain ⟨b, hb, q⟩ := need_of w₁
  exact not_of (truth_ok R₁ r₁ hb fun t => Good.after E₁ (.keeps R₁ (fun _ _ e => e) (av := .bool _) rfl q))

theorem se_and {ms : List ME} {es : List Expr} {pos : Pos} (h : ∀ Q X A σ s, AOk M A n σ.hd → Rel C M σ s → WAnd T hk ms σ Q X → wpAny (model C.prog C.w) A (boolOp pos .And (evalEach es M.cur)) (Good C M σ s Q) (Bad C M σ s X) s) :
    SE C T hk n M (.and ms) (.BoolOp .And es pos) := fun A σ s Q X hA R w => h Q X A σ s hA R w
theorem se_or {ms : List ME} {es : List Expr} {pos : Pos} (h : ∀ Q X A σ s, AOk M A n σ.hd → Rel C M σ s → WOr T hk ms σ Q X → wpAny (model C.prog C.w) A (boolOp pos .Or (evalEach es M.cur)) (Good C M σ s Q) (Bad C M σ s X) s) :
    SE C T hk n M (.or ms) (.BoolOp .Or es pos) := fun A σ s Q X hA R w => h Q X A σ s hA R w

noncomputable def SAnd (C : Cx) (T : Tab) (hk : Hook) (n : Nat) (M : Fm) (ms : List ME) (es : List Expr) : Prop :=
  ∀ pos Q X A σ s, AOk M A n σ.hd → Rel C M σ s → WAnd T hk ms σ Q X → wpAny (model C.prog C.w) A (boolOp pos .And (evalEach es M.cur)) (Good C M σ s Q) (Bad C M σ s X) s
noncomputable def SOr (C : Cx) (T : Tab) (hk : Hook) (n : Nat) (M : Fm) (ms : List ME) (es : List Expr) : Prop :=
  ∀ pos Q X A σ s, AOk M A n σ.hd → Rel C M σ s → WOr T hk ms σ Q X → wpAny (model C.prog C.w) A (boolOp pos .Or (evalEach es M.cur)) (Good C M σ s Q) (Bad C M σ s X) s
theorem sand_one {m : ME} {e : Expr} (h : SE C T hk n M m e) : SAnd C T hk n M [m] [e] := fun pos Q X A σ s hA R w => h A σ s Q X hA R w
theorem sor_one {m : ME} {e : Expr} (h : SE C T hk n M m e) : SOr C T hk n M [m] [e] := fun pos Q X A σ s hA R w => h A σ s Q X hA R w
theorem sand_cons {m m' : ME} {e e' : Expr} {ms : List ME} {es : List Expr} (h : SE C T hk n M m e) (hs : SAnd C T hk n M (m' :: ms) (e' :: es)) : SAnd C T hk n M (m :: m' :: ms) (e :: e' :: es) := by
  intro pos Q X A σ s hA R w
  show wpAny _ _ (do
    let v ← eval e M.cur
    standAt pos
    let t ← holding [v] (truthy v)
    match BoolOp.And, t with
    | .And, false | .Or, true => pure v
    | _, _ => boolOp pos .And (evalEach (e' :: es) M.cur)) _ _ s
  refine wpAny_bind (h.then hA R w fun v av σ₁ s₁ R₁ E₁ r₁ w₁ hA₁ => wpAny_bind (wpAny_standAt ?_))
  obtain ⟨b, hb, q⟩ := need_of w₁
  refine wpAny_bind (wpAny_holding (truth_ok R₁ r₁ hb fun t => ?_))
  have R₁' := R₁.toks t
  have E₁' : Ext M σ s σ₁ { s₁ with toks := t } := E₁.trans (.keeps fun _ _ e => e)
  cases b with
  | false => exact wpAny_pure ((Good.here R₁' r₁ q).after E₁')
  | true => exact wpAny_mono (hs pos Q X A σ₁ _ hA₁ R₁' q) (fun _ _ g => g.after E₁') fun _ _ b => b.after E₁'
theorem sor_cons {m m' : ME} {e e' : Expr} {ms : List ME} {es : List Expr} (h : SE C T hk n M m e) (hs : SOr C T hk n M (m' :: ms) (e' :: es)) : SOr C T hk n M (m :: m' :: ms) (e :: e' :: es) := by
  intro pos Q X A σ s hA R w
  show wpAny _ _ (do
    let v ← eval e M.cur
    standAt pos
    let t ← holding [v] (truthy v)
    match BoolOp.Or, t with
    | .And, false | .Or, true => pure v
    | _, _ => boolOp pos .Or (evalEach (e' :: es) M.cur)) _ _ s
  refine wpAny_bind (h.then hA R w fun v av σ₁ s₁ R₁ E₁ r₁ w₁ hA₁ => wpAny_bind (wpAny_standAt ?_))
  obtain ⟨b, hb, q⟩ := need_of w₁
  refine wpAny_bind (wpAny_holding (truth_ok R₁ r₁ hb fun t => ?_))
  have R₁' := R₁.toks t
  have E₁' : Ext M σ s σ₁ { s₁ with toks := t } := E₁.trans (.keeps fun _ _ e => e)
  cases b with
  | true => exact wpAny_pure ((Good.here R₁' r₁ q).after E₁')
  | false => exact wpAny_mono (hs pos Q X A σ₁ _ hA₁ R₁' q) (fun _ _ g => g.after E₁') fun _ _ b => b.after E₁'

theorem notSet_marks {op : CmpOp} {e : Expr} {m : ME} {G : GT} {S : Sc} (h : chkE G S m e = true) : behindInMarks op e = false := by
  cases e with
  | Set => cases m <;> exact Bool.noConfusion (show (false : Bool) = true from h)
  | _ => rfl

theorem se_cmp {op : COp} {op' : CmpOp} {l r : ME} {l' r' : Expr} {pos : Pos} (ho : sameC op op' = true) (hm : behindInMarks op' r' = false) (hl : SE C T hk n M l l') (hr : SE C T hk n M r r') :
    SE C T hk n M (.cmp op l r) (.Compare l' [op'] [r'] pos) := by
  intro A σ s Q X hA R w
  refine wpAny_Compare1 (hl.then hA R w fun v av σ₁ s₁ R₁ E₁ r₁ w₁ hA₁ => ?_) hm
  refine wpAny_mono (hr.then hA₁ R₁ w₁ fun v' av' σ₂ s₂ R₂ E₂ r₂ w₂ hA₂ => ?_) (fun _ _ g => g) fun _ _ b => b.after E₁
  exact wpAny_mono (cmp_ok (E := fun _ _ => False) ho hA₂ R₂ (r₁.mono (E₂.im R₁)) r₂ w₂) (fun _ _ g => (g.after E₂).after E₁) fun _ _ b => b.elim

theorem se_cmp2 {o1 o2 : COp} {o1' o2' : CmpOp} {l m r : ME} {l' m' r' : Expr} {pos : Pos} (h1 : sameC o1 o1' = true) (h2 : sameC o2 o2' = true) (hm : behindInMarks o2' r' = false)
    (hl : SE C T hk n M l l') (hmm : SE C T hk n M m m') (hr : SE C T hk n M r r') : SE C T hk n M (.cmp2 o1 o2 l m r) (.Compare l' [o1', o2'] [m', r'] pos) := by
  intro A σ s Q X hA R w
  have e : markedEach [o1', o2'] [m', r'] (evalEach [m', r'] M.cur) = [eval m' M.cur, eval r' M.cur] := by
    show [eval m' M.cur, markedBehindIn o2' r' (eval r' M.cur)] = _
    rw [markedBehindIn_of_false hm]
  show wpAny _ _ (do compareChain pos (← eval l' M.cur) [o1', o2'] (markedEach [o1', o2'] [m', r'] (evalEach [m', r'] M.cur))) _ _ s
  rw [e]
  refine wpAny_bind (hl.then hA R w fun v av σ₁ s₁ R₁ E₁ r₁ w₁ hA₁ => ?_)
  show wpAny _ _ (do
    let rv ← holding [v] (eval m' M.cur)
    standAt pos
    let c ← holding [v, rv] (compareOp o1' v rv)
    release [v, rv] [c]
    if ← holding [c, rv] (truthy c) then compareChain pos rv [o2'] [eval r' M.cur] else pure c) _ _ s₁
  refine wpAny_bind (wpAny_holding (wpAny_mono (hmm.then hA₁ R₁ w₁ fun v' av' σ₂ s₂ R₂ E₂ r₂ w₂ hA₂ => ?_) (fun _ _ g => g) fun _ _ b => b.after E₁))
  have r₁' := r₁.mono (E₂.im R₁)
  refine wpAny_bind (wpAny_standAt (wpAny_bind (wpAny_holding (wpAny_mono (cmp_ok (E := fun _ _ => False) h1 hA₂ R₂ r₁' r₂ w₂) (fun c s₃ g => ?_) fun _ _ b => b.elim))))
  obtain ⟨ac, σ₃, R₃, E₃, r₃, w₃⟩ := g
  split at w₃
  · rename_i t
    obtain rfl : c = .bool t := r₃
    have hA₃ : AOk M A n σ₃.hd := by rw [E₃.hd]; exact hA₂
    have E' := (E₁.trans E₂).trans E₃
    refine wpAny_bind (wpAny_release ?_)
    refine wpAny_bind (wpAny_holding (wpAny_truthy_bool ?_))
    cases t with
    | false =>
      simp only [Bool.false_eq_true, if_false] at w₃ ⊢
      exact wpAny_pure ((Good.here R₃ (av := .bool false) rfl w₃).after E')
    | true =>
      simp only [if_true] at w₃ ⊢
      show wpAny _ _ (do
        let rv ← holding [v'] (eval r' M.cur)
        standAt pos
        operate [v', rv] (compareOp o2' v' rv)) _ _ s₃
      refine wpAny_bind (wpAny_holding (wpAny_mono (hr.then hA₃ R₃ w₃ fun v'' av'' σ₄ s₄ R₄ E₄ r₄ w₄ hA₄ => ?_) (fun _ _ g => g) fun _ _ b => b.after E'))
      refine wpAny_bind (wpAny_standAt (wpAny_operating ?_))
      exact wpAny_mono (cmp_ok (E := fun _ _ => False) h2 hA₄ R₄ ((r₂.mono (E₃.im R₂)).mono (E₄.im R₃)) r₄ w₄) (fun _ _ g => (g.after E₄).after E') fun _ _ b => b.elim
  · exact w₃.elim

theorem se_tup {ms : List ME} {es : List Expr} {k : Nat} {pos : Pos} (h : SEs C T hk n M ms es) : SE C T hk n M (.tup ms) (.Tuple es k pos) := by
  intro A σ s Q X hA R w
  refine Tuple_ (wpAny_mono (h A σ s _ X pos hA R w) (fun vs s₁ g => ?_) fun _ _ b => b)
  obtain ⟨as, σ₁, R₁, E₁, r, hs, q⟩ := g
  have hz : sizeLine = 16777216 := sizeLine_eq
  have hl := rvs_length r
  exact wpAny_newObj_type ((new_tup R₁ r hs q).after E₁) (by show vs.toArray.size ≤ sizeLine; rw [List.size_toArray]; omega)
theorem se_lst {ms : List ME} {es : List Expr} {pos : Pos} (F : FmOk C M) (h : SEs C T hk n M ms es) : SE C T hk n M (.lst ms) (.List es pos) := by
  intro A σ s Q X hA R w
  refine List_ (wpAny_mono (h A σ s _ X pos hA R w) (fun vs s₁ g => ?_) fun _ _ b => b)
  obtain ⟨as, σ₁, R₁, E₁, r, q⟩ := g
  have hz : sizeLine = 16777216 := sizeLine_eq
  have hl := rvs_length r
  have hs := q.1
  exact wpAny_newObj_type ((new_list F R₁ r q).after E₁) (by show vs.toArray.size ≤ sizeLine; rw [List.size_toArray]; omega)

theorem se_idx {m i : ME} {e i' : Expr} {pos : Pos} (hsl : plainSlice i' = true) (h : SE C T hk n M m e) (hi : SE C T hk n M i i') : SE C T hk n M (.idx m i) (.Subscript e i' pos) := by
  intro A σ s Q X hA R w
  refine Subscript_ (h.then hA R w fun v av σ₁ s₁ R₁ E₁ r₁ w₁ hA₁ => ?_)
  refine wpAny_mono (hi.then hA₁ R₁ w₁ fun v' av' σ₂ s₂ R₂ E₂ r₂ w₂ hA₂ => ?_) (fun _ _ g => g) fun _ _ b => b.after E₁
  exact wpAny_mono (idx_ok (E := fun _ _ => False) hsl R₂ (r₁.mono (E₂.im R₁)) r₂ w₂) (fun _ _ g => (g.after E₂).after E₁) fun _ _ b => b.elim

/-- a slice's end that may lack -/
noncomputable def SPart (C : Cx) (T : Tab) (hk : Hook) (n : Nat) (M : Fm) (m : ME) : Option Expr → Prop
  | none => m = .cNone
  | some e => SE C T hk n M m e
theorem SPart.then {m : ME} {o : Option Expr} (h : SPart C T hk n M m o) {A : Around} {σ : AS} {s : Shared} {Q₁ : AV → AS → Prop} {X : Nat → AS → Prop} (hA : AOk M A n σ.hd) (R : Rel C M σ s) (w : WE T hk m σ Q₁ X) {P : Value → Shared → Prop}
    (k : ∀ v av σ₁ s₁, Rel C M σ₁ s₁ → Ext M σ s σ₁ s₁ → RV C s₁.heap v av → Q₁ av σ₁ → AOk M A n σ₁.hd → P v s₁) :
    wpAny (model C.prog C.w) A (evalPart o M.cur) P (Bad C M σ s X) s := by
  cases o with
  | none =>
    obtain rfl : m = .cNone := h
    rw [evalPart_none]
    exact wpAny_pure (k .none .none σ s R (.refl ..) rfl w hA)
  | some e =>
    rw [evalPart_some]
    exact SE.then h hA R w k
theorem se_slc {m lo hi : ME} {e : Expr} {l u : Option Expr} {p pos : Pos} (F : FmOk C M) (h : SE C T hk n M m e) (hl : SPart C T hk n M lo l) (hu : SPart C T hk n M hi u) :
    SE C T hk n M (.slc m lo hi) (.Subscript e (.Slice l u none p) pos) := by
  intro A σ s Q X hA R w
  refine Subscript_ (h.then hA R w fun v av σ₁ s₁ R₁ E₁ r₁ w₁ hA₁ => ?_)
  refine wpAny_Slice (wpAny_mono (hl.then hA₁ R₁ w₁ fun v₂ av₂ σ₂ s₂ R₂ E₂ r₂ w₂ hA₂ => ?_) (fun _ _ g => g) fun _ _ b => b.after E₁)
  refine wpAny_mono (hu.then hA₂ R₂ w₂ fun v₃ av₃ σ₃ s₃ R₃ E₃ r₃ w₃ hA₃ => ?_) (fun _ _ g => g) fun _ _ b => (b.after E₂).after E₁
  rw [evalPart_none]
  refine wpAny_pure ?_
  exact wpAny_mono (slc_ok (E := fun _ _ => False) F R₃ ((r₁.mono (E₂.im R₁)).mono (E₃.im R₂)) (r₂.mono (E₃.im R₂)) r₃ w₃) (fun _ _ g => ((g.after E₃).after E₂).after E₁) fun _ _ b => b.elim
theorem se_rev {m : ME} {e : Expr} {p p1 p2 pos : Pos} {k : Nat} (F : FmOk C M) (h : SE C T hk n M m e) :
    SE C T hk n M (.rev m) (.Subscript e (.Slice none none (some (.UnaryOp .USub (.Constant (.int 1) k p1) p2)) p) pos) := by
  intro A σ s Q X hA R w
  refine Subscript_ (h.then hA R w fun v av σ₁ s₁ R₁ E₁ r₁ w₁ hA₁ => ?_)
  refine wpAny_Slice ?_
  rw [evalPart_none]
  refine wpAny_pure (wpAny_pure ?_)
  rw [evalPart_some]
  show wpAny _ _ (do let v ← eval (.Constant (.int 1) k p1) M.cur; standAt p2; holding [v] (unaryOp .USub v)) _ _ s₁
  refine wpAny_bind (wpAny_Constant_int (wpAny_bind (wpAny_standAt (wpAny_holding (PySem.P.neg_int ?_)))))
  have R' := R₁.toks (s₁.toks + 1 + 1)
  have E' : Ext M σ s σ₁ { s₁ with toks := s₁.toks + 1 + 1 } := E₁.trans (.keeps fun _ _ e => e)
  exact wpAny_mono (rev_ok (E := fun _ _ => False) rfl F R' r₁ w₁) (fun _ _ g => g.after E') fun _ _ b => b.elim
end
end Mine
end
section
open PySem
open PyProof.Rows
namespace Mine

theorem isTrue_other {e : Expr} {env : Env} {w : Sem Value} (h : plainTest e = true) : isTrue e env w = (do let v ← w; standAt e.pos; holding [v] (truthy v)) := by
  cases e with
  | UnaryOp op x p => cases op <;> first | rfl | (exact absurd h Bool.false_ne_true)
  | BoolOp => exact absurd h Bool.false_ne_true
  | IfExp => exact absurd h Bool.false_ne_true
  | Compare => exact absurd h Bool.false_ne_true
  | _ => rfl

section
variable {C : Cx} {T : Tab} {hk : Hook} {n : Nat} {M : Fm}

theorem st_e {m : ME} {e : Expr} (hp : plainTest e = true) (h : SE C T hk n M m e) : ST C T hk n M (.e m) e := by
  intro A σ s Q X hA R w
  rw [isTrue_other hp]
  refine wpAny_bind (h.then hA R w fun v av σ₁ s₁ R₁ E₁ r₁ w₁ hA₁ => wpAny_bind (wpAny_standAt (wpAny_holding ?_)))
  obtain ⟨b, hb, q⟩ := need_of w₁
  exact truth_ok R₁ r₁ hb fun t => ⟨σ₁, R₁.toks t, E₁.trans (.keeps fun _ _ e => e), q⟩

theorem st_cmp {op : COp} {op' : CmpOp} {l r : ME} {l' r' : Expr} {pos : Pos} (ho : sameC op op' = true) (hm : behindInMarks op' r' = false) (hl : SE C T hk n M l l') (hr : SE C T hk n M r r') :
    ST C T hk n M (.e (.cmp op l r)) (.Compare l' [op'] [r'] pos) := by
  intro A σ s Q X hA R w
  refine wpAny_isTrue_Compare1 (hl.then hA R w fun v av σ₁ s₁ R₁ E₁ r₁ w₁ hA₁ => ?_) hm
  refine wpAny_mono (hr.then hA₁ R₁ w₁ fun v' av' σ₂ s₂ R₂ E₂ r₂ w₂ hA₂ => ?_) (fun _ _ g => g) fun _ _ b => b.after E₁
  refine wpAny_mono (cmp_ok (E := fun _ _ => False) ho hA₂ R₂ (r₁.mono (E₂.im R₁)) r₂ w₂) (fun c s₃ g => ?_) fun _ _ b => b.elim
  obtain ⟨ac, σ₃, R₃, E₃, r₃, w₃⟩ := g
  obtain ⟨b, hb, q⟩ := need_of w₃
  exact truth_ok R₃ r₃ hb fun t => ⟨σ₃, R₃.toks t, ((E₁.trans E₂).trans E₃).trans (.keeps fun _ _ e => e), q⟩

theorem st_cmp2 {o1 o2 : COp} {o1' o2' : CmpOp} {l m r : ME} {l' m' r' : Expr} {pos : Pos} (h1 : sameC o1 o1' = true) (h2 : sameC o2 o2' = true) (hm : behindInMarks o2' r' = false)
    (hl : SE C T hk n M l l') (hmm : SE C T hk n M m m') (hr : SE C T hk n M r r') : ST C T hk n M (.e (.cmp2 o1 o2 l m r)) (.Compare l' [o1', o2'] [m', r'] pos) := by
  intro A σ s Q X hA R w
  have e : markedEach [o1', o2'] [m', r'] (evalEach [m', r'] M.cur) = [eval m' M.cur, eval r' M.cur] := by
    show [eval m' M.cur, markedBehindIn o2' r' (eval r' M.cur)] = _
    rw [markedBehindIn_of_false hm]
  show wpAny _ _ (do testChain pos (← eval l' M.cur) [o1', o2'] (markedEach [o1', o2'] [m', r'] (evalEach [m', r'] M.cur))) _ _ s
  rw [e]
  refine wpAny_bind (hl.then hA R w fun v av σ₁ s₁ R₁ E₁ r₁ w₁ hA₁ => ?_)
  show wpAny _ _ (do
    let rv ← holding [v] (eval m' M.cur)
    standAt pos
    let c ← holding [v, rv] (compareOp o1' v rv)
    release [v, rv] [c]
    if ← holding [c, rv] (truthy c) then testChain pos rv [o2'] [eval r' M.cur] else pure false) _ _ s₁
  refine wpAny_bind (wpAny_holding (wpAny_mono (hmm.then hA₁ R₁ w₁ fun v' av' σ₂ s₂ R₂ E₂ r₂ w₂ hA₂ => ?_) (fun _ _ g => g) fun _ _ b => b.after E₁))
  have r₁' := r₁.mono (E₂.im R₁)
  refine wpAny_bind (wpAny_standAt (wpAny_bind (wpAny_holding (wpAny_mono (cmp_ok (E := fun _ _ => False) h1 hA₂ R₂ r₁' r₂ w₂) (fun c s₃ g => ?_) fun _ _ b => b.elim))))
  obtain ⟨ac, σ₃, R₃, E₃, r₃, w₃⟩ := g
  split at w₃
  · rename_i t
    obtain rfl : c = .bool t := r₃
    have hA₃ : AOk M A n σ₃.hd := by rw [E₃.hd]; exact hA₂
    have E' := (E₁.trans E₂).trans E₃
    refine wpAny_bind (wpAny_release ?_)
    refine wpAny_bind (wpAny_holding (wpAny_truthy_bool ?_))
    cases t with
    | false =>
      simp only [Bool.false_eq_true, if_false] at w₃ ⊢
      obtain ⟨b, hb, q⟩ := need_of w₃
      obtain rfl : false = b := Option.some.inj hb
      exact wpAny_pure ⟨σ₃, R₃, E', q⟩
    | true =>
      simp only [if_true] at w₃ ⊢
      show wpAny _ _ (do
        let rv ← holding [v'] (eval r' M.cur)
        standAt pos
        let c ← operate [v', rv] (compareOp o2' v' rv)
        holding [c] (truthy c)) _ _ s₃
      refine wpAny_bind (wpAny_holding (wpAny_mono (hr.then hA₃ R₃ w₃ fun v'' av'' σ₄ s₄ R₄ E₄ r₄ w₄ hA₄ => ?_) (fun _ _ g => g) fun _ _ b => b.after E'))
      refine wpAny_bind (wpAny_standAt (wpAny_bind (wpAny_operating ?_)))
      refine wpAny_mono (cmp_ok (E := fun _ _ => False) h2 hA₄ R₄ ((r₂.mono (E₃.im R₂)).mono (E₄.im R₃)) r₄ w₄) (fun c s₅ g => ?_) fun _ _ b => b.elim
      obtain ⟨ac, σ₅, R₅, E₅, r₅, w₅⟩ := g
      obtain ⟨b, hb, q⟩ := need_of w₅
      exact wpAny_holding (truth_ok R₅ r₅ hb fun t => ⟨σ₅, R₅.toks t, ((E'.trans E₄).trans E₅).trans (.keeps fun _ _ e => e), q⟩)
  · exact w₃.elim

theorem st_not {m : MT} {e : Expr} {pos : Pos} (h : ST C T hk n M m e) : ST C T hk n M (.not m) (.UnaryOp .Not e pos) := by
  intro A σ s Q X hA R w
  show wpAny _ _ (do return !(← isTrue e M.cur (eval e M.cur))) _ _ s
  exact wpAny_bind (wpAny_mono (h A σ s _ X hA R w) (fun b s₁ ⟨σ', r, e, q⟩ => wpAny_pure ⟨σ', r, e, q⟩) fun _ _ b => b)

noncomputable def SAll (C : Cx) (T : Tab) (hk : Hook) (n : Nat) (M : Fm) (ms : List MT) (es : List Expr) : Prop :=
  ∀ Q X A σ s, AOk M A n σ.hd → Rel C M σ s → WAll T hk ms σ Q X → wpAny (model C.prog C.w) A (allTrue .And es M.cur) (GoodB C M σ s Q) (Bad C M σ s X) s
noncomputable def SAny (C : Cx) (T : Tab) (hk : Hook) (n : Nat) (M : Fm) (ms : List MT) (es : List Expr) : Prop :=
  ∀ Q X A σ s, AOk M A n σ.hd → Rel C M σ s → WAny T hk ms σ Q X → wpAny (model C.prog C.w) A (allTrue .Or es M.cur) (GoodB C M σ s Q) (Bad C M σ s X) s
theorem sall_nil : SAll C T hk n M [] [] := fun _ _ _ _ _ _ R w => wpAny_pure ⟨_, R, .refl .., w⟩
theorem sany_nil : SAny C T hk n M [] [] := fun _ _ _ _ _ _ R w => wpAny_pure ⟨_, R, .refl .., w⟩
theorem sall_cons {m : MT} {e : Expr} {ms : List MT} {es : List Expr} (h : ST C T hk n M m e) (hs : SAll C T hk n M ms es) : SAll C T hk n M (m :: ms) (e :: es) := by
  intro Q X A σ s hA R w
  show wpAny _ _ (do
    match BoolOp.And, ← isTrue e M.cur (eval e M.cur) with
    | .And, false => pure false
    | .Or, true => pure true
    | _, _ => allTrue .And es M.cur) _ _ s
  refine wpAny_bind (wpAny_mono (h A σ s _ X hA R w) (fun b s₁ g => ?_) fun _ _ b => b)
  obtain ⟨σ₁, R₁, E₁, w₁⟩ := g
  cases b with
  | false => exact wpAny_pure ⟨σ₁, R₁, E₁, w₁⟩
  | true => exact wpAny_mono (hs Q X A σ₁ s₁ (by rw [E₁.hd]; exact hA) R₁ w₁) (fun _ _ ⟨σ₂, R₂, E₂, q⟩ => ⟨σ₂, R₂, E₁.trans E₂, q⟩) fun _ _ b => b.after E₁
theorem sany_cons {m : MT} {e : Expr} {ms : List MT} {es : List Expr} (h : ST C T hk n M m e) (hs : SAny C T hk n M ms es) : SAny C T hk n M (m :: ms) (e :: es) := by
  intro Q X A σ s hA R w
  show wpAny _ _ (do
    match BoolOp.Or, ← isTrue e M.cur (eval e M.cur) with
    | .And, false => pure false
    | .Or, true => pure true
    | _, _ => allTrue .Or es M.cur) _ _ s
  refine wpAny_bind (wpAny_mono (h A σ s _ X hA R w) (fun b s₁ g => ?_) fun _ _ b => b)
  obtain ⟨σ₁, R₁, E₁, w₁⟩ := g
  cases b with
  | true => exact wpAny_pure ⟨σ₁, R₁, E₁, w₁⟩
  | false => exact wpAny_mono (hs Q X A σ₁ s₁ (by rw [E₁.hd]; exact hA) R₁ w₁) (fun _ _ ⟨σ₂, R₂, E₂, q⟩ => ⟨σ₂, R₂, E₁.trans E₂, q⟩) fun _ _ b => b.after E₁
theorem st_all {ms : List MT} {es : List Expr} {pos : Pos} (h : SAll C T hk n M ms es) : ST C T hk n M (.all ms) (.BoolOp .And es pos) := fun A σ s Q X hA R w => h Q X A σ s hA R w
theorem st_any {ms : List MT} {es : List Expr} {pos : Pos} (h : SAny C T hk n M ms es) : ST C T hk n M (.any ms) (.BoolOp .Or es pos) := fun A σ s Q X hA R w => h Q X A σ s hA R w
end
end Mine
end
section
open PySem
open PyProof.Rows
namespace Mine

/-- what isinstance says of exceptions -/
structure XIsi (C : Cx) : Prop where
  typ : ∀ {A : Around} {s : Shared} {Q : Value → Shared → Prop} {E : Value → Shared → Prop} {c : Nat} {a : Addr} {o : Obj} {vs : Array Value}, (∀ b o, C.base.get? b = some o → s.heap.get? b = some o) → C.hc c → c ≤ 5 → s.heap.get? a = some o → o.cls = .ref (C.ca c) → o.data = .fields vs →
    (∀ t, Q (.bool true) { s with toks := t }) → wpAny (model C.prog C.w) A (call (.builtin "isinstance") [.ref a, .type "ValueError"]) Q E s
  cls : ∀ {A : Around} {s : Shared} {Q : Value → Shared → Prop} {E : Value → Shared → Prop} {c k : Nat} {a : Addr} {o : Obj} {vs : Array Value}, (∀ b o, C.base.get? b = some o → s.heap.get? b = some o) → C.hc c → C.hc k → c ≤ 5 → k ≤ 5 → s.heap.get? a = some o → o.cls = .ref (C.ca c) → o.data = .fields vs →
    (∀ t, Q (.bool (subCls c k)) { s with toks := t }) → wpAny (model C.prog C.w) A (call (.builtin "isinstance") [.ref a, .ref (C.ca k)]) Q E s

section
variable {C : Cx} {T : Tab} {hk : Hook} {n : Nat} {M : Fm} {A : Around} {σ : AS} {s : Shared} {Q : AV → AS → Prop} {E : Value → Shared → Prop}

theorem bools_rvs {h : Heap} : ∀ {ws : List Value} {vs : List AV} {bs : List Bool}, RVs C h ws vs → bools? vs = some bs → ws = bs.map .bool
  | [], [], ns, _, e => by cases e; rfl
  | v :: ws, .bool i :: vs, ns, r, e => by
    unfold bools? at e
    cases h' : bools? vs with
    | none => rw [h'] at e; cases e
    | some ms =>
      rw [h'] at e; cases e
      obtain rfl : v = .bool i := r.1
      rw [bools_rvs r.2 h']; rfl
  | [], _ :: _, _, r, _ => r.elim
  | _ :: _, [], _, r, _ => r.elim
  | _ :: _, .none :: _, _, _, e => by cases e
  | _ :: _, .int _ :: _, _, _, e => by cases e
  | _ :: _, .str _ :: _, _, _, e => by cases e
  | _ :: _, .tup _ :: _, _, _, e => by cases e
  | _ :: _, .lst _ :: _, _, _, e => by cases e
  | _ :: _, .dct _ :: _, _, _, e => by cases e
  | _ :: _, .obj _ _ _ :: _, _, _, e => by cases e
  | _ :: _, .exc _ _ :: _, _, _, e => by cases e
  | _ :: _, .fn _ :: _, _, _, e => by cases e
  | _ :: _, .cls _ :: _, _, _, e => by cases e
  | _ :: _, .typ _ :: _, _, _, e => by cases e
  | _ :: _, .bi _ :: _, _, _, e => by cases e
  | _ :: _, .frz _ _ :: _, _, _, e => by cases e
  | _ :: _, .rng _ _ :: _, _, _, e => by cases e

theorem ty_cases {t : Nat} (h : t ≤ 3) : t = 0 ∨ t = 1 ∨ t = 2 ∨ t = 3 := by omega

theorem arg1_of {as : List AV} {k : AV → Prop} (h : arg1 as k) : ∃ v, as = [v] ∧ k v := by
  rcases as with _ | ⟨v, _ | ⟨_, _⟩⟩ <;> first | (exact False.elim h) | exact ⟨_, rfl, h⟩
theorem arg2_of {as : List AV} {k : AV → AV → Prop} (h : arg2 as k) : ∃ v u, as = [v, u] ∧ k v u := by
  rcases as with _ | ⟨v, _ | ⟨u, _ | ⟨_, _⟩⟩⟩ <;> first | (exact False.elim h) | exact ⟨_, _, rfl, h⟩
theorem aint_of {v : AV} {k : Int → Prop} (h : aint v k) : ∃ x, v = .int x ∧ k x := by
  cases v <;> first | (exact False.elim h) | exact ⟨_, rfl, h⟩
theorem abool_of {v : AV} {k : Bool → Prop} (h : abool v k) : ∃ x, v = .bool x ∧ k x := by
  cases v <;> first | (exact False.elim h) | exact ⟨_, rfl, h⟩
theorem alst_of {v : AV} {k : Addr → Prop} (h : alst v k) : ∃ x, v = .lst x ∧ k x := by
  cases v <;> first | (exact False.elim h) | exact ⟨_, rfl, h⟩
theorem no_some {α : Type} {x : α} {P : Prop} (h : (none : Option α) = some x) : P := by cases h
theorem isi_ok {a b : AV} {va vb : Value} {r : Bool} (XI : XIsi C) (R : Rel C M σ s) (ra : RV C s.heap va a) (rb : RV C s.heap vb b) (hl : lives σ.H a = true) (h : isi a b = some r) (q : Q (.bool r) σ) :
    wpAny (model C.prog C.w) A (call (.builtin "isinstance") [va, vb]) (Good C M σ s Q) E s := by
  have g0 : ∀ b, Q (.bool b) σ → Good C M σ s Q (.bool b) s := fun b q => .here R (av := .bool b) rfl q
  have g1 : ∀ b t, Q (.bool b) σ → Good C M σ s Q (.bool b) { s with toks := t } := fun b t q => .keeps R (fun _ _ e => e) (av := .bool b) rfl q
  refine byc fun no => ?_
  cases a with
  | int x => cases b with
    | typ tt =>
      refine no ?_; clear no
      obtain ⟨t, rfl⟩ := ra; obtain rfl := rb
      replace h : (if tt ≤ 3 then some (tt == Ty.int) else none) = some r := h
      split at h
      · rename_i ht
        cases h
        rcases ty_cases ht with rfl | rfl | rfl | rfl
        · exact IsiPair.int_int (g0 _ q)
        · exact IsiPair.int_bool (g1 _ _ q)
        · exact IsiPair.int_tuple (g1 _ _ q)
        · exact IsiPair.int_list (g1 _ _ q)
      · cases h
    | _ => exact no_some h
  | bool x => cases b with
    | typ tt =>
      refine no ?_; clear no
      obtain rfl := ra; obtain rfl := rb
      replace h : (if tt ≤ 3 then some (tt == Ty.int || tt == Ty.bool) else none) = some r := h
      split at h
      · rename_i ht
        cases h
        rcases ty_cases ht with rfl | rfl | rfl | rfl
        · exact IsiPair.bool_int (g0 _ q)
        · exact IsiPair.bool_bool (g0 _ q)
        · exact IsiPair.bool_tuple (g1 _ _ q)
        · exact IsiPair.bool_list (g1 _ _ q)
      · cases h
    | _ => exact no_some h
  | tup x => cases b with
    | typ tt =>
      refine no ?_; clear no
      refine byc fun no => ?_
      obtain ⟨p, ws, k, rfl, hp, _⟩ := ra; obtain rfl := rb
      refine no ?_; clear no
      replace h : (if tt ≤ 3 then some (tt == Ty.tuple) else none) = some r := h
      split at h
      · rename_i ht
        cases h
        rcases ty_cases ht with rfl | rfl | rfl | rfl
        · exact IsiPair.tuple_int hp rfl (g1 _ _ q)
        · exact IsiPair.tuple_bool hp rfl (g1 _ _ q)
        · exact IsiPair.tuple_tuple hp rfl (g0 _ q)
        · exact IsiPair.tuple_list hp rfl (g1 _ _ q)
      · cases h
    | _ => exact no_some h
  | lst p₀ => cases b with
    | typ tt =>
      refine no ?_; clear no
      refine byc fun no => ?_
      obtain rfl := ra; obtain rfl := rb
      obtain ⟨vs, hvs⟩ := Option.isSome_iff_exists.mp hl
      obtain ⟨ws, k, hp, _⟩ := R.list hvs
      refine no ?_; clear no
      replace h : (if tt ≤ 3 then some (tt == Ty.list) else none) = some r := h
      split at h
      · rename_i ht
        cases h
        rcases ty_cases ht with rfl | rfl | rfl | rfl
        · exact IsiPair.list_int hp rfl (g1 _ _ q)
        · exact IsiPair.list_bool hp rfl (g1 _ _ q)
        · exact IsiPair.list_tuple hp rfl (g1 _ _ q)
        · exact IsiPair.list_list hp rfl (g0 _ q)
      · cases h
    | _ => exact no_some h
  | str x => cases b with
    | typ tt =>
      refine no ?_; clear no
      obtain ⟨t, rfl⟩ := ra; obtain rfl := rb
      replace h : (if tt ≤ 3 then some false else none) = some r := h
      split at h
      · rename_i ht
        cases h
        rcases ty_cases ht with rfl | rfl | rfl | rfl
        · exact IsiPair.str_int (g1 _ _ q)
        · exact IsiPair.str_bool (g1 _ _ q)
        · exact IsiPair.str_tuple (g1 _ _ q)
        · exact IsiPair.str_list (g1 _ _ q)
      · cases h
    | _ => exact no_some h
  | none => cases b with
    | typ tt =>
      refine no ?_; clear no
      obtain rfl := ra; obtain rfl := rb
      replace h : (if tt ≤ 3 then some false else none) = some r := h
      split at h
      · rename_i ht
        cases h
        rcases ty_cases ht with rfl | rfl | rfl | rfl
        · exact IsiPair.NoneType_int (g1 _ _ q)
        · exact IsiPair.NoneType_bool (g1 _ _ q)
        · exact IsiPair.NoneType_tuple (g1 _ _ q)
        · exact IsiPair.NoneType_list (g1 _ _ q)
      · cases h
    | _ => exact no_some h
  | exc c e₀ => cases b with
    | typ tt =>
      refine no ?_; clear no
      refine byc fun no => ?_
      obtain ⟨rfl, hh, o, vs, ho, hc, hd⟩ := ra; obtain rfl := rb
      refine no ?_; clear no
      replace h : (if tt == Ty.valueError && Nat.ble c 5 then some true else none) = some r := h
      split at h
      · rename_i ht
        simp only [Bool.and_eq_true, beq_iff_eq, Nat.ble_eq] at ht
        obtain ⟨rfl, h5⟩ := ht
        cases h
        exact XI.typ R.keep hh h5 ho hc hd fun t => g1 _ t q
      · cases h
    | cls kk =>
      refine no ?_; clear no
      refine byc fun no => ?_
      obtain ⟨rfl, hh, o, vs, ho, hc, hd⟩ := ra; obtain ⟨rfl, hh'⟩ := rb
      refine no ?_; clear no
      replace h : (if Nat.ble c 5 && Nat.ble kk 5 then some (subCls c kk) else none) = some r := h
      split at h
      · rename_i ht
        simp only [Bool.and_eq_true, Nat.ble_eq] at ht
        cases h
        exact XI.cls R.keep hh hh' ht.1 ht.2 ho hc hd fun t => g1 _ t q
      · cases h
    | _ => exact no_some h
  | _ => exact no_some h

theorem sumOk_keeps {ws : List Value} {ns : List Int} {p : Addr} {k : Nat} (hh : A.handled = none) (hp : IsT s.heap p ws.toArray k ∨ IsL s.heap p ws.toArray k) (hi : IntsAre ws ns) {P : Value → Shared → Prop}
    (h : ∀ h' tk t', (∀ b o, s.heap.get? b = some o → h'.get? b = some o) → P (.int ns.sum t') { s with heap := h', toks := tk }) : wpAny (model C.prog C.w) A (call (.builtin "sum") [.ref p]) P E s := by
  obtain ⟨xs, hx⟩ := hi.allInts.items
  have hn : numsOf ws.toArray.toList = ns := by rw [show ws.toArray.toList = ws from rfl, hi.numsOf]
  have hh' : ∀ h' tk t', (∀ b o, s.heap.get? b = some o → h'.get? b = some o) → P (.int (preSum (numAt xs) xs.size) t') { s with heap := h', toks := tk } := fun h' tk t' hk => by
    have := h h' tk t' hk
    rw [hx, nums_intItems] at hn
    rw [preSum_eq, List.take_of_length_le (by simp), hn]
    exact this
  rcases hp with hp | hp
  · rw [hx] at hp
    exact PySem.W.ktm_sumG hh (t := p) (xs := xs) ⟨_, hp, rfl, k, rfl⟩ hh'
  · rw [hx] at hp
    exact sum_intListG hh (isList_of hp) hh'

theorem allOk {bs : List Bool} {p : Addr} {k : Nat} (hh : A.handled = none) (hp : IsL s.heap p (bs.map Value.bool).toArray k) {P : Value → Shared → Prop}
    (h : ∀ h' tk, (∀ b o, s.heap.get? b = some o → h'.get? b = some o) → P (.bool (bs.all id)) { s with heap := h', toks := tk }) : wpAny (model C.prog C.w) A (call (.builtin "all") [.ref p]) P E s := by
  have hlt : p < s.heap.objs.size := Heap.lt_size hp
  refine call_all_walk (wpAny_pyIter_list (isList_of hp) ?_)
  refine ⟨s.heap.objs.size, _, _, _, _, _, fun i => bs.getD i false, rfl, Walks.list (A := A.in1) hh s.heap.objs.size p (Nat.ne_of_lt hlt) (bs.map Value.bool).toArray,
    ⟨⟨_, Heap.get?_push_size _ rfl, rfl, rfl⟩, (isList_of hp).push _⟩, fun i v s' Q' E' hP hQ => ?_, fun h' tk hk => ?_⟩
  · replace hP : (List.map Value.bool bs).toArray[i]? = some v := hP
    rw [List.getElem?_toArray, List.getElem?_map] at hP
    replace hQ : Q' (bs.getD i false) s' := hQ
    cases hb : bs[i]? with
    | none => rw [hb] at hP; cases hP
    | some b =>
      rw [hb] at hP
      simp only [Option.map_some, Option.some.injEq] at hP
      subst hP
      have : bs.getD i false = b := by simp [List.getD, hb]
      rw [this] at hQ
      exact wpAny_truthy_bool hQ
  · have e : ((List.range (bs.map Value.bool).toArray.size).all fun i => bs.getD i false) = bs.all id := by
      rw [List.size_toArray, List.length_map]
      apply Bool.eq_iff_iff.mpr
      simp only [List.all_eq_true, List.mem_range, id]
      constructor
      · intro h x hx
        obtain ⟨i, hi, rfl⟩ := List.getElem_of_mem hx
        have := h i hi
        simpa [List.getD, hi] using this
      · intro h i hi
        have := h bs[i] (List.getElem_mem hi)
        simpa [List.getD, hi] using this
    rw [e]
    exact h h' tk fun b o e => hk b o (fun q => by
      rw [List.mem_singleton] at q; subst q
      exact absurd (Heap.lt_size e) (Nat.lt_irrefl _)) (Heap.get?_push_of_some _ e)

theorem rvs_one {h : Heap} {ws : List Value} {a : AV} (r : RVs C h ws [a]) : ∃ v, ws = [v] ∧ RV C h v a := by
  cases ws with
  | nil => exact False.elim r
  | cons v r' => cases r' with
    | nil => exact ⟨v, rfl, r.1⟩
    | cons _ _ => exact False.elim r.2
theorem rvs_two {h : Heap} {ws : List Value} {a b : AV} (r : RVs C h ws [a, b]) : ∃ v u, ws = [v, u] ∧ RV C h v a ∧ RV C h u b := by
  cases ws with
  | nil => exact False.elim r
  | cons v r' =>
    obtain ⟨u, rfl, hu⟩ := rvs_one r.2
    exact ⟨v, u, rfl, r.1, hu⟩

/-- a built-in function's call -/
theorem bi_ok {b : Nat} {as : List AV} {ws : List Value} (XI : XIsi C) (F : FmOk C M) (hA : AOk M A n σ.hd) (R : Rel C M σ s) (r : RVs C s.heap ws as) (w : biW b as σ Q) :
    wpAny (model C.prog C.w) A (call (.builtin (biName b)) ws) (Good C M σ s Q) E s := by
  rcases b with _ | _ | _ | _ | _ | b
  · refine byc fun no => ?_
    obtain ⟨v₁, rfl, w⟩ := arg1_of w
    obtain ⟨v, rfl, rv⟩ := rvs_one r
    obtain ⟨vs, hv, w⟩ := need_of w
    obtain ⟨p, ws, k, rfl, hp, hr, hs⟩ := seq_obj R rv hv
    refine no ?_; clear no
    have hl := rvs_length hr
    have g : ∀ t t', Good C M σ s Q (.int (ws.toArray.size : Int) t) { s with toks := t' } := fun t t' => by
      rw [List.size_toArray, hl]
      exact .keeps R (fun _ _ e => e) (av := .int _) ⟨_, rfl⟩ w
    rcases hp with hp | hp
    · exact PyProof.Rows.len_tuple (isTup_of hp) (by rw [List.size_toArray]; omega) (g _ _)
    · exact PySem.Calls.call_len_list (isList_of hp) (by rw [List.size_toArray]; omega) (g _ _)
  · refine byc fun no => ?_
    obtain ⟨v₁, rfl, w⟩ := arg1_of w
    obtain ⟨v, rfl, rv⟩ := rvs_one r
    obtain ⟨hd, w⟩ := w
    obtain ⟨vs, hv, w⟩ := need_of w
    obtain ⟨ns, hn, w⟩ := need_of w
    obtain ⟨p, ws, k, rfl, hp, hr, hs⟩ := seq_obj R rv hv
    refine no ?_; clear no
    exact sumOk_keeps (hA.handled hd) hp (ints_rvs hr hn) fun h' tk t' hk => .keeps R hk (av := .int _) ⟨_, rfl⟩ w.2
  · refine byc fun no => ?_
    obtain ⟨v₁, v₂, rfl, w⟩ := arg2_of w
    obtain ⟨x, rfl, w⟩ := aint_of w
    obtain ⟨y, rfl, w⟩ := aint_of w
    obtain ⟨v, u, rfl, ⟨t, rfl⟩, ⟨t', rfl⟩⟩ := rvs_two r
    refine no ?_; clear no
    refine min_two_ints (hA.handled w.1) fun h' tk hk => ?_
    have w2 := w.2
    by_cases c : y < x
    · rw [if_pos c]
      rw [show min x y = y by omega] at w2
      exact .keeps R hk (av := .int _) ⟨_, rfl⟩ w2
    · rw [if_neg c]
      rw [show min x y = x by omega] at w2
      exact .keeps R hk (av := .int _) ⟨_, rfl⟩ w2
  · refine byc fun no => ?_
    obtain ⟨v₁, v₂, rfl, w⟩ := arg2_of w
    obtain ⟨v, u, rfl, hv, hu⟩ := rvs_two r
    obtain ⟨hl, w⟩ := w
    obtain ⟨rr, h1, h2⟩ := need_of w
    refine no ?_; clear no
    exact isi_ok XI R hv hu hl h1 h2
  · refine byc fun no => ?_
    obtain ⟨v₁, rfl, w⟩ := arg1_of w
    obtain ⟨x, rfl, w⟩ := alst_of w
    obtain ⟨v, rfl, rv⟩ := rvs_one r
    obtain ⟨hd, w⟩ := w
    obtain ⟨vs, hv, w⟩ := need_of w
    obtain ⟨bs, hb, w⟩ := need_of w
    obtain rfl : v = .ref _ := rv
    obtain ⟨ws, k, hp, hr, hs⟩ := R.list hv
    obtain rfl := bools_rvs hr hb
    refine no ?_; clear no
    exact allOk (hA.handled hd) hp fun h' tk hk => .keeps R hk (av := .bool _) rfl w
  · exact False.elim w

/-- a built-in type's call -/
theorem ty_ok {t : Nat} {as : List AV} {ws : List Value} (F : FmOk C M) (R : Rel C M σ s) (r : RVs C s.heap ws as) (w : tyW t as σ Q) :
    wpAny (model C.prog C.w) A (call (.type (tyName t)) ws) (Good C M σ s Q) E s := by
  have hz : sizeLine = 16777216 := sizeLine_eq
  rcases t with _ | _ | _ | _ | _ | t
  · refine byc fun no => ?_
    obtain ⟨v₁, rfl, w⟩ := arg1_of w
    obtain ⟨x, rfl, w⟩ := abool_of w
    obtain ⟨v, rfl, rv⟩ := rvs_one r
    obtain rfl : v = .bool _ := rv
    refine no ?_; clear no
    exact call_int_bool (.keeps R (fun _ _ e => e) (av := .int _) ⟨_, rfl⟩ w)
  · exact False.elim w
  · refine byc fun no => ?_
    obtain ⟨v₁, rfl, w⟩ := arg1_of w
    obtain ⟨v, rfl, rv⟩ := rvs_one r
    obtain ⟨hd, w⟩ := w
    obtain ⟨vs, hv, w⟩ := need_of w
    obtain ⟨p, ws, k, rfl, hp, hr, hs⟩ := seq_obj R rv hv
    refine no ?_; clear no
    have hl := rvs_length hr
    rcases hp with hp | hp
    · exact call_tuple_tup (isTup_of hp) (.here R (av := .tup vs) ⟨p, ws, k, rfl, hp, hr, hs⟩ w)
    · refine call_tuple_list (isList_of hp) (fun h' hk => ?_) (by rw [List.size_toArray]; omega)
      have hk' : ∀ b o, s.heap.get? b = some o → (h'.push { cls := .type "tuple", data := .seq ws.toArray }).get? b = some o := fun b o e => Heap.get?_push_of_some _ (hk b o e)
      exact .keeps R hk' (av := .tup vs) ⟨_, ws, 0, rfl, Heap.get?_push_size _ rfl, hr.mono (.keeps hk'), hs⟩ w
  · refine byc fun no => ?_
    obtain ⟨v₁, rfl, w⟩ := arg1_of w
    obtain ⟨v, rfl, rv⟩ := rvs_one r
    obtain ⟨hd, w⟩ := w
    obtain ⟨vs, hv, w⟩ := need_of w
    obtain ⟨p, ws, k, rfl, hp, hr, hs⟩ := seq_obj R rv hv
    refine no ?_; clear no
    have hl := rvs_length hr
    have fin : ∀ h' c', (∀ b o', s.heap.get? b = some o' → h'.get? b = some o') → h'.get? s.heap.objs.size = some { cls := .type "list", dict := none, data := .seq ws.toArray c', slots := #[] } → Good C M σ s Q (.ref s.heap.objs.size) { s with heap := h' } := fun h' c' hk' hD => by
      have R' : Rel C M σ { s with heap := h' } := R.keeps hk'
      obtain ⟨h5, h6⟩ := R.adopt R' (.keeps hk') (a := s.heap.objs.size) (ao := .lst vs) ⟨ws, c', hD, hr.mono (.keeps hk'), hs⟩ (get_none_of_ge (Nat.le_refl _))
      exact ⟨.lst s.heap.objs.size, _, h5, h6, rfl, w.2 _ R.notH⟩
    rcases hp with hp | hp
    · exact call_list_seq p (.inr rfl) hp rfl rfl fin (by rw [List.size_toArray]; omega)
    · exact call_list_seq p (.inl rfl) hp rfl rfl fin (by rw [List.size_toArray]; omega)
  · rcases as with _ | ⟨v₁, _ | ⟨v₂, _ | ⟨_, _⟩⟩⟩
    · exact False.elim w
    · refine byc fun no => ?_
      obtain ⟨x, rfl, w⟩ := aint_of w
      obtain ⟨v, rfl, rv⟩ := rvs_one r
      obtain ⟨t, rfl⟩ := rv
      refine no ?_; clear no
      exact call_range_1 (.keeps R (fun b o e => Heap.get?_push_of_some _ e) (av := .rng 0 _) ⟨_, _, _, _, rfl, Heap.get?_push_size _ rfl, by decide, w.1⟩ w.2)
    · refine byc fun no => ?_
      obtain ⟨x, rfl, w⟩ := aint_of w
      obtain ⟨y, rfl, w⟩ := aint_of w
      obtain ⟨v, u, rfl, ⟨t, rfl⟩, ⟨t', rfl⟩⟩ := rvs_two r
      refine no ?_; clear no
      exact call_range_2 (.keeps R (fun b o e => Heap.get?_push_of_some _ e) (av := .rng _ _) ⟨_, _, _, _, rfl, Heap.get?_push_size _ rfl, w.1, w.2.1⟩ w.2.2)
    · exact False.elim w
  · exact False.elim w
end
end Mine
end
section
open PySem
open PyProof.Rows
namespace Mine

/-- what a call asks of what is around it -/
structure AOkH (M : Fm) (A : Around) (k : Nat) (hd : Bool) : Prop where
  frames : A.frames = some (M.env :: M.outer)
  depth : A.depth + 3 * k + 18 < recursionLimit
  units : A.units + 20 * k + 190 < cLine
  handled : hd = false → A.handled = none
theorem AOk.h {M : Fm} {A : Around} {k : Nat} {hd : Bool} (x : AOk M A k hd) : AOkH M A k hd := ⟨x.frames, by have := x.depth; omega, by have := x.units; omega, x.handled⟩
theorem AOk.make {M : Fm} {A : Around} {k : Nat} {hd : Bool} (x : AOk M A k hd) (c : Addr) (vs : List Value) : AOkH M (A.under (.builtin "type.__call__" ⟨.ref c :: vs, []⟩)) k hd := by
  have e1 : (Code.builtin "type.__call__" ⟨.ref c :: vs, []⟩).weight = 1 := by rfl
  have e2 : (Code.builtin "type.__call__" ⟨.ref c :: vs, []⟩).cUnits = 1 := by rfl
  have e3 : (Code.builtin "type.__call__" ⟨.ref c :: vs, []⟩).envs = [] := by rfl
  generalize Code.builtin "type.__call__" ⟨.ref c :: vs, []⟩ = cd at e1 e2 e3
  have f1 : (A.under cd).frames = pushEnvs cd.envs A.frames := rfl
  have f2 : (A.under cd).depth = A.depth + cd.weight := rfl
  have f3 : (A.under cd).units = A.units + cd.cUnits := rfl
  exact ⟨by rw [f1, e3]; exact x.frames, by rw [f2, e1]; have := x.depth; (clear e1 e2 f2 f3; omega), by rw [f3, e2]; have := x.units; (clear e1 e2 f2 f3; omega), x.handled⟩

/-- a call of an own function does what the hook says -/
noncomputable def HkOk (C : Cx) (hk : Hook) (n : Nat) : Prop :=
  ∀ (f : Nat) (as : List AV) (H : AH) (hd : Bool) (Q : AV → AH → Prop) (X : Nat → AH → Prop), C.hf f → hk f as H hd Q X →
    (∃ o fd, C.base.get? (C.fa f) = some o ∧ o.data = .func fd) ∧
    ∀ (M : Fm) (A : Around) (σ : AS) (s : Shared) (vs : List Value), FmOk C M → AOkH M A n hd → Rel C M σ s → σ.H = H → σ.hd = hd → RVs C s.heap vs as →
      codeAny (model C.prog C.w) A (.call (.ref (C.fa f)) ⟨vs, []⟩) (fun r s' => match r with
        | .ok (.ret v) => Good C M σ s (fun v σ' => σ' = { σ with H := σ'.H } ∧ Q v σ'.H) v s'
        | .ok _ => False
        | .error e => Bad C M σ s (fun c σ' => σ' = { σ with H := σ'.H } ∧ X c σ'.H) e s') s

/-- an own class's call makes an object by its __init__ -/
noncomputable def MkOk (C : Cx) (T : Tab) (hk : Hook) (n : Nat) : Prop :=
  ∀ (c f : Nat), C.hc c → T.init c = some f → (∃ o cd, C.base.get? (C.ca c) = some o ∧ o.data = .cls cd) ∧ (∀ s : Shared, (∀ b o, C.base.get? b = some o → s.heap.get? b = some o) → ∀ M : Model, ∃ k, (k = Keeper.frame ∨ k = Keeper.machine ∨ k = Keeper.boundFrame) ∧ PySem.W.Looks M s.heap (keeperOf (.ref (C.ca c))) k) ∧
    ∀ (as : List AV) (M : Fm) (A : Around) (σ : AS) (s : Shared) (vs : List Value) (Q : AV → AS → Prop) (X : Nat → AS → Prop), FmOk C M → AOk M A n σ.hd → σ.hd = false → Rel C M σ s → RVs C s.heap vs as →
      (∀ a d, a ≠ d → σ.H a = none → σ.H d = none → hk f (.obj c a d :: as) (σ.H.upd d (.dct [])) σ.hd (fun v H => v = .none ∧ Q (.obj c a d) { σ with H := H }) (fun c H => X c { σ with H := H })) →
      wpAny (model C.prog C.w) A (call (.ref (C.ca c)) vs) (Good C M σ s Q) (Bad C M σ s X) s

/-- an own class whose instances bear attributes, as a fragment of the ground has it -/
structure OneObj (K : PySem.W.Frag) (C : Cx) (T : Tab) (c : Nat) : Prop where
  hasd : PySem.W.hasDictIn K (C.ca c) = true
  makes : PySem.W.makesIn K (C.ca c) = true
  keeps : PySem.W.keepIn K (.ref (C.ca c)) = true
  getb : PySem.W.findIn K (.ref (C.ca c)) "__getattribute__" = some (some (.builtin "object.__getattribute__"))
  geta : PySem.W.findIn K (.ref (C.ca c)) "__getattr__" = some none
  seta : PySem.W.findIn K (.ref (C.ca c)) "__setattr__" = some (some (.builtin "object.__setattr__"))
  plain : PySem.W.plainOver K (C.ca c) = true
  keys : ∀ k, k ≤ 12 → PySem.W.findIn K (.ref (C.ca c)) (kyName k) = some none
  init : ∀ f, T.init c = some f → C.hf f ∧ PySem.W.findIn K (.ref (C.ca c)) "__init__" = some (some (.ref (C.fa f))) ∧ PySem.W.typeIn K (.ref (C.fa f)) = some (.type "function")
  meth : ∀ m f name, T.meth c m = some f → mtTab.lookup name = some m → C.hf f ∧ PySem.W.typeIn K (.ref (C.fa f)) = some (.type "function") ∧ PySem.W.findIn K (.ref (C.ca c)) name = some (some (.ref (C.fa f)))
noncomputable def XObj (C : Cx) (T : Tab) : Prop := ∃ K : PySem.W.Frag, K.In C.base ∧ ∀ c, C.hc c → 6 ≤ c → OneObj K C T c

section
variable {C : Cx} {T : Tab} {hk : Hook} {n : Nat} {M : Fm}

theorem any_star {es : List Expr} {env : Env} {pos : Pos} (h : es.all notStar = true) : (backTo pos (starEach es env)).any (·.1) = false := by
  induction es with
  | nil => rfl
  | cons e r ih =>
    simp only [List.all_cons, Bool.and_eq_true] at h
    rw [starEach_cons h.1]
    show (false || (backTo pos (starEach r env)).any (·.1)) = false
    rw [ih h.2]; rfl

/-- a call's arguments -/
theorem args_ok {ms : List ME} {es : List Expr} {f : Value} (h : SEs C T hk n M ms es) (hn : es.all notStar = true) {A : Around} {σ : AS} {s : Shared} {Q : List AV → AS → Prop} {X : Nat → AS → Prop} {pos : Pos} (hA : AOk M A n σ.hd) (R : Rel C M σ s) (w : WEs T hk ms σ Q X)
    {P : Args → Shared → Prop} (k : ∀ vs as σ₁ s₁, Rel C M σ₁ s₁ → Ext M σ s σ₁ s₁ → RVs C s₁.heap vs as → Q as σ₁ → AOk M A n σ₁.hd → P ⟨vs, []⟩ s₁) :
    wpAny (model C.prog C.w) A (evalArgs f true (backTo pos (starEach es M.cur)) []) P (Bad C M σ s X) s := by
  have hh := wpAny_mono (h A σ s Q X pos hA R w) (fun vs s₁ ⟨as, σ₁, R₁, E₁, r, q⟩ => k vs as σ₁ s₁ R₁ E₁ r q (by rw [E₁.hd]; exact hA)) fun _ _ b => b
  cases es with
  | nil =>
    unfold evalArgs
    show wpAny _ A (spliced [] >>= _) P _ s
    refine wpAny_bind (wpAny_mono (show wpAny _ A (spliced []) _ _ s from hh) (fun vs s' h' => ?_) fun _ _ x => x)
    refine wpAny_holding ?_
    exact wpAny_bind (wpAny_pure (wpAny_bind (wpAny_pure (wpAny_pure h'))))
  | cons e r =>
    simp only [List.all_cons, Bool.and_eq_true] at hn
    rw [starEach_cons hn.1] at hh ⊢
    exact Calls.evalArgs_plain hh

theorem looks_fn {M : Model} {h : Heap} {a : Addr} {o : Obj} {fd : FuncData} (ho : h.get? a = some o) (hd : o.data = .func fd) : PySem.W.Looks M h (keeperOf (.ref a)) .frame := by
  refine (PySem.W.Looks.ld (part := none) ho).andThen ?_
  rw [hd]; exact .now

theorem se_call {f : ME} {x : Str} {p pos : Pos} {ms : List ME} {es : List Expr} (XI : XIsi C) (HK : HkOk C hk n) (MK : MkOk C T hk n) (F : FmOk C M) (hf : SE C T hk n M f (.Name x p)) (hs : SEs C T hk n M ms es) (hn : es.all notStar = true) :
    SE C T hk n M (.call f ms) (.Call (.Name x p) es [] pos) := by
  intro A σ s Q X hA R w
  refine Call_ (hf.then hA R w fun v av σ₁ s₁ R₁ E₁ r₁ w₁ hA₁ => ?_)
  obtain ⟨hcl, w₁⟩ := w₁
  refine byc fun no => ?_
  cases av with
  | fn g =>
    refine no ?_; clear no
    obtain ⟨rfl, hfg⟩ := r₁
    refine PySem.W.callWith_of (P := fun h => ∃ o fd, h.get? (C.fa g) = some o ∧ o.data = .func fd) (by rw [any_star hn]; rfl) (fun h ⟨o, fd, ho, hd⟩ => ⟨.frame, .inl rfl, looks_fn ho hd⟩) ?_
    refine wpAny_mono (args_ok hs hn hA₁ R₁ w₁ fun vs as σ₂ s₂ R₂ E₂ r₂ w₂ hA₂ => ?_) (fun _ _ g => g) fun _ _ b => b.after E₁
    refine byc fun no => ?_
    obtain ⟨⟨o, fd, ho, hd⟩, hcall⟩ := HK _ _ _ _ _ _ hfg w₂
    refine no ?_; clear no
    refine ⟨⟨o, fd, R₂.keep _ _ ho, hd⟩, ?_⟩
    have E' := E₁.trans E₂
    refine wpAny_mono (wpAny_call (hcall M A σ₂ s₂ vs F hA₂.h R₂ rfl rfl r₂)) (fun v s₃ g => ?_) fun e s₃ b => ?_
    · refine byc fun no => ?_
      obtain ⟨av, σ₃, R₃, E₃, r₃, e, q⟩ := g
      refine no ?_; clear no
      exact ⟨av, σ₃, R₃, E'.trans E₃, r₃, by rw [e]; exact q⟩
    · exact (b.after E').mono fun c σ' ⟨e, q⟩ => by rw [e]; exact q
  | bi b =>
    refine no ?_; clear no
    obtain rfl : v = .builtin (biName b) := r₁
    refine Calls.callWith_builtin (any_star hn) ?_
    refine wpAny_mono (args_ok hs hn hA₁ R₁ w₁ fun vs as σ₂ s₂ R₂ E₂ r₂ w₂ hA₂ => ?_) (fun _ _ g => g) fun _ _ b => b.after E₁
    exact wpAny_mono (bi_ok (E := fun _ _ => False) XI F hA₂ R₂ r₂ w₂) (fun _ _ g => (g.after E₂).after E₁) fun _ _ b => b.elim
  | typ t =>
    refine no ?_; clear no
    obtain rfl : v = .type (tyName t) := r₁
    refine PyProof.Rows.callWith_type (any_star hn) ?_
    refine wpAny_mono (args_ok hs hn hA₁ R₁ w₁ fun vs as σ₂ s₂ R₂ E₂ r₂ w₂ hA₂ => ?_) (fun _ _ g => g) fun _ _ b => b.after E₁
    exact wpAny_mono (ty_ok (E := fun _ _ => False) F R₂ r₂ w₂) (fun _ _ g => (g.after E₂).after E₁) fun _ _ b => b.elim
  | cls c =>
    refine no ?_; clear no
    obtain ⟨rfl, hhc⟩ := r₁
    refine PySem.W.callWith_of (P := fun h => ∃ k, (k = Keeper.frame ∨ k = Keeper.machine ∨ k = Keeper.boundFrame) ∧ PySem.W.Looks (model C.prog C.w) h (keeperOf (.ref (C.ca c))) k) (by rw [any_star hn]; rfl) (fun h hh => hh) ?_
    refine wpAny_mono (args_ok hs hn hA₁ R₁ w₁ fun vs as σ₂ s₂ R₂ E₂ r₂ w₂ hA₂ => ?_) (fun _ _ g => g) fun _ _ b => b.after E₁
    refine byc fun no => ?_
    obtain ⟨hd, w₂⟩ := w₂
    obtain ⟨g, hg, w₂⟩ := need_of w₂
    obtain ⟨_, hlook, hmk⟩ := MK c g hhc hg
    refine no ?_; clear no
    refine ⟨hlook s₂ R₂.keep _, ?_⟩
    have E' := E₁.trans E₂
    exact wpAny_mono (hmk as M A σ₂ s₂ vs Q X F hA₂ hd R₂ r₂ w₂) (fun _ _ g => g.after E') fun _ _ b => b.after E'
  | _ => cases hcl
end
end Mine
end
section
open PySem
open PyProof.Rows
namespace Mine

/-! ## Attributes -/
theorem ky_of {n : Str} {k : Nat} (h : kyTab.lookup n = some k) : n = kyName k ∧ k ≤ 12 := by
  have hh : (kyTab.all fun p => p.1 == kyName p.2 && Nat.ble p.2 12) = true := by decide +kernel
  have := ands (List.all_eq_true.mp hh _ (mem_of_lookup h))
  exact ⟨beq_iff_eq.mp this.1, Nat.le_of_ble_eq_true this.2⟩
theorem ky_inj : ∀ {j k : Nat}, j ≤ 12 → k ≤ 12 → kyName j = kyName k → j = k := by
  have h : ((List.range 13).all fun j => (List.range 13).all fun k => !(kyName j == kyName k) || j == k) = true := by decide +kernel
  intro j k hj hk e
  have := List.all_eq_true.mp (List.all_eq_true.mp h j (List.mem_range.mpr (by (clear hk; omega)))) k (List.mem_range.mpr (by (clear hj; omega)))
  rw [e, beq_self_eq_true, Bool.not_true, Bool.false_or] at this
  exact beq_iff_eq.mp this

section
variable {C : Cx} {T : Tab} {hk : Hook} {n : Nat} {M : Fm} {σ : AS} {s : Shared} {h : Heap}
theorem rps_get : ∀ {ps : List (Str × Value)} {kvs : List (Nat × AV)} {k : Nat} {av : AV}, RPs C h ps kvs → k ≤ 12 → kvs.lookup k = some av → ∃ v, valueAt ps (kyName k) = some v ∧ RV C h v av
  | [], [], _, _, _, _, e => by cases e
  | p :: ps, q :: qs, k, av, x, hk, e => by
    refine byc fun no => ?_
    obtain ⟨⟨e1, e2, e3⟩, x⟩ := x
    refine no ?_; clear no
    rw [List.lookup_cons] at e
    unfold valueAt
    rw [List.find?_cons]
    by_cases z : k = q.1
    · rw [beq_iff_eq.mpr z] at e
      cases e
      rw [decide_eq_true (by rw [e1, z])]
      exact ⟨_, rfl, e3⟩
    · rw [beq_eq_false_iff_ne.mpr z] at e
      rw [decide_eq_false (fun y => z (ky_inj hk e2 (e1 ▸ y).symm))]
      exact rps_get x hk e
  | [], _ :: _, _, _, x, _, _ => x.elim
  | _ :: _, [], _, _, x, _, _ => x.elim
theorem rps_none : ∀ {ps : List (Str × Value)} {kvs : List (Nat × AV)} {x : Str}, RPs C h ps kvs → (∀ k, k ≤ 12 → x ≠ kyName k) → valueAt ps x = none
  | [], [], _, _, _ => rfl
  | p :: ps, q :: qs, x, y, hx => by
    refine byc fun no => ?_
    obtain ⟨⟨e1, e2, _⟩, y⟩ := y
    refine no ?_; clear no
    unfold valueAt
    rw [List.find?_cons, decide_eq_false (fun z : p.1 = x => hx q.1 e2 (z.symm.trans e1))]
    exact rps_none y hx
  | [], _ :: _, _, y, _ => y.elim
  | _ :: _, [], _, y, _ => y.elim
theorem stored_ne {p : Str × Value} {ps : List (Str × Value)} {x : Str} {v : Value} (h : p.1 ≠ x) : stored (p :: ps) x v = p :: stored ps x v := by
  unfold stored
  rw [List.any_cons, decide_eq_false h, Bool.false_or, List.map_cons, if_neg h]
  split <;> rfl
theorem rps_set {v : Value} {av : AV} {k : Nat} (hk : k ≤ 12) (r : RV C h v av) : ∀ {ps : List (Str × Value)} {kvs : List (Nat × AV)}, RPs C h ps kvs → (ps.map (·.1)).Nodup → RPs C h (stored ps (kyName k) v) (kvSet kvs k av)
  | [], [], _, _ => ⟨⟨rfl, hk, r⟩, trivial⟩
  | p :: ps, q :: qs, x, hn => by
    refine byc fun no => ?_
    obtain ⟨⟨e1, e2, e3⟩, x⟩ := x
    rw [List.map_cons, List.nodup_cons] at hn
    obtain ⟨q1, q2⟩ := q
    refine no ?_; clear no
    by_cases z : k = q1
    · subst z
      have e : stored (p :: ps) (kyName k) v = (p.1, v) :: ps := by
        unfold stored
        rw [List.any_cons, decide_eq_true e1, Bool.true_or, if_pos rfl, List.map_cons, if_pos e1, map_store_of_not_mem _ _ _ (e1 ▸ hn.1)]
      rw [e]
      unfold kvSet
      rw [if_pos rfl]
      exact ⟨⟨e1, hk, r⟩, x⟩
    · rw [stored_ne (fun y => z (ky_inj hk e2 (e1 ▸ y).symm))]
      unfold kvSet
      rw [if_neg z]
      exact ⟨⟨e1, e2, e3⟩, rps_set hk r x hn.2⟩
  | [], _ :: _, x, _ => x.elim
  | _ :: _, [], x, _ => x.elim
theorem rps_length : ∀ {ps : List (Str × Value)} {kvs : List (Nat × AV)}, RPs C h ps kvs → ps.length = kvs.length
  | [], [], _ => rfl
  | _ :: _, _ :: _, x => congrArg (· + 1) (rps_length x.2)
  | [], _ :: _, x => x.elim
  | _ :: _, [], x => x.elim
theorem kvSet_length : ∀ (kvs : List (Nat × AV)) (k : Nat) (v : AV), (kvSet kvs k v).length ≤ kvs.length + 1
  | [], _, _ => Nat.le_refl _
  | (j, u) :: r, k, v => by
    unfold kvSet
    split
    · exact Nat.le_succ _
    · exact Nat.succ_le_succ (kvSet_length r k v)

theorem getD_of {H : AH} {a : Addr} {vs : List (Nat × AV)} (h : getD H a = some vs) : H a = some (.dct vs) := by
  unfold getD at h
  split at h
  · rename_i e; cases h; exact e
  · cases h
theorem Rel.dct (R : Rel C M σ s) {a : Addr} {vs : List (Nat × AV)} (h : getD σ.H a = some vs) : ROd C s.heap a vs := (R.ho a _ (getD_of h)).1

theorem strOf_eq (x : Str) (v : Value) : Value.isStrOf x v = v.isStr x := by cases v <;> rfl
/-- what a dict of texts holds under a name -/
theorem look_dict {d : Addr} {ps : List (Str × Value)} (x : h.DictOf (strKind C.prog C.w) d ps) : ∃ od, h.get? d = some od ∧ ∀ name, PySem.W.lookIn name od = some (valueAt ps name) := by
  refine byc fun no => ?_
  obtain ⟨o, es, ep, ho, hc, hd, hk, hp, hn⟩ := x
  refine no ?_; clear no
  refine ⟨o, ho, fun name => ?_⟩
  have hf := hp.find name
  have e : (fun e : DictEntry => (strKind C.prog C.w).is name e.key) = fun e => e.key.isStr name := funext fun e => strOf_eq name e.key
  rw [e] at hf
  unfold PySem.W.lookIn
  rw [hd]
  dsimp only
  have hr : es.toList.any (·.refKey) = false := by
    rw [Bool.eq_false_iff]
    intro q
    refine byc fun no => ?_
    obtain ⟨en, h1, h2⟩ := List.any_eq_true.mp q
    obtain ⟨k, hk1, _⟩ := hk en (by simpa using h1)
    obtain ⟨t, ht⟩ := Value.isStrOf_shape hk1
    refine no ?_; clear no
    unfold DictEntry.refKey at h2
    rw [ht] at h2
    exact absurd h2 Bool.false_ne_true
  cases q : es.toList.find? (fun e => e.key.isStr name) with
  | none => rw [q] at hf; rw [hr]; exact congrArg some hf
  | some en => rw [q] at hf; exact congrArg some hf

theorem handed_rv {v : Value} {av : AV} (r : RV C h v av) : PySem.W.handedIn v = true := by
  cases av <;> first
    | (obtain rfl := r; rfl)
    | (obtain ⟨_, rfl⟩ := r; rfl)
    | (obtain ⟨_, _, _, rfl, _⟩ := r; rfl)
    | (obtain ⟨rfl, _⟩ := r; rfl)
    | (obtain ⟨_, _, _, _, rfl, _⟩ := r; rfl)
    | (obtain rfl := r; rename_i b; rcases b with _ | _ | _ | _ | b <;> first | rfl | (show PySem.W.handedIn (.builtin "all") = true; decide +kernel))

theorem inst_at {c : Nat} {a d : Addr} {od : Obj} (hx : h.get? a = some ⟨.ref (C.ca c), some d, .plain, #[]⟩) (hd : h.get? d = some od) : PySem.W.InstAt h a ⟨.ref (C.ca c), some d, .plain, #[]⟩ (C.ca c) (some od) := ⟨hx, rfl, rfl, hd⟩

/-- an attribute is read -/
theorem se_attr {o : ME} {k : Nat} {x nm : Str} {p pos : Pos} (XO : XObj C T) (hky : kyTab.lookup nm = some k) (ho : SE C T hk n M o (.Name x p)) : SE C T hk n M (.attr o k) (.Attribute (.Name x p) nm pos) := by
  intro A σ s Q X hA R w
  obtain ⟨rfl, hk12⟩ := ky_of hky
  refine Attribute_name (ho.then hA R w fun v av σ₁ s₁ R₁ E₁ r₁ w₁ hA₁ => ?_)
  refine byc fun no => ?_
  cases av with
  | obj c a d =>
    refine no ?_; clear no
    refine byc fun no => ?_
    obtain ⟨rfl, hx, hhc, h6⟩ := r₁
    obtain ⟨kvs, hkv, w₁⟩ := need_of w₁
    obtain ⟨av, hav, q⟩ := need_of w₁
    obtain ⟨K, KX, HO⟩ := XO
    have O := HO c hhc h6
    obtain ⟨ps, hd, hp, _⟩ := R₁.dct hkv
    obtain ⟨v, hv, rv⟩ := rps_get hp hk12 hav
    obtain ⟨od, hod, hlook⟩ := look_dict hd
    refine no ?_; clear no
    exact PySem.W.get_value (KX.keeps R₁.keep) (inst_at hx hod) O.getb (PySem.W.findObj_own O.hasd (O.keys k hk12) rfl ((hlook _).trans (congrArg some hv))) (handed_rv rv) (Good.after E₁ (.keeps R₁ (fun _ _ e => e) rv q))
  | _ => exact False.elim w₁
end
end Mine
end
section
open PySem
open PyProof.Rows
namespace Mine

section
variable {C : Cx} {T : Tab} {hk : Hook} {n : Nat} {M : Fm}

theorem all_star {es : List Expr} {env : Env} {pos : Pos} (h : es.all notStar = true) : (backTo pos (starEach es env)).all (fun x => !x.1) = true := by
  induction es with
  | nil => rfl
  | cons e r ih =>
    simp only [List.all_cons, Bool.and_eq_true] at h
    rw [starEach_cons h.1]
    show (true && (backTo pos (starEach r env)).all (fun x => !x.1)) = true
    rw [ih h.2]; rfl
theorem base_head {o : Expr} {name : Str} {env : Env} {w : Sem Value} (h : headE o = true) : attributeBase o name env w = w := by
  cases o <;> first | rfl | (exact absurd h Bool.false_ne_true)

theorem eval_meth {o : Expr} {name : Str} {apos pos : Pos} {es : List Expr} {env : Env} (ho : headE o = true) (hn : es.all notStar = true) (hl : es.length < 20) (hp : (apos.endLine == pos.line) = true) :
    eval (.Call (.Attribute o name apos) es [] pos) env = (do
      let ov ← eval o env
      standAt apos.atName
      let (f, first) ← holding [ov] (getMethod ov name (do return (← importBound o env).getD true))
      callWith pos f first (backTo pos (starEach es env)) []) := by
  rw [arm_eval_Call, base_head ho]
  have hform : methodCallForm (es.length + ([] : List Keyword).length) (backTo pos (starEach es env)) (backToKw pos (keywordEach [] env)) = true := by
    unfold methodCallForm
    rw [all_star hn]
    show (true && true && decide (es.length + 0 + 0 < 30)) = true
    simp; omega
  have hpos : methodCallPos true o env apos pos = pure pos := by unfold methodCallPos; simp [hp]
  unfold methodCall
  rw [hform, hpos]
  rfl

theorem strs_rvs {h : Heap} : ∀ {ws : List Value} {vs : List AV} {xs : List Str}, RVs C h ws vs → strs? vs = some xs → StrsAre ws xs
  | [], [], ns, _, e => by cases e; exact .nil
  | v :: ws, .str i :: vs, ns, r, e => by
    unfold strs? at e
    cases h' : strs? vs with
    | none => rw [h'] at e; cases e
    | some ms =>
      rw [h'] at e; cases e
      obtain ⟨t, rfl⟩ := r.1
      exact .cons i t (strs_rvs r.2 h')
  | [], _ :: _, _, r, _ => r.elim
  | _ :: _, [], _, r, _ => r.elim
  | _ :: _, .none :: _, _, _, e => by cases e
  | _ :: _, .bool _ :: _, _, _, e => by cases e
  | _ :: _, .int _ :: _, _, _, e => by cases e
  | _ :: _, .tup _ :: _, _, _, e => by cases e
  | _ :: _, .lst _ :: _, _, _, e => by cases e
  | _ :: _, .dct _ :: _, _, _, e => by cases e
  | _ :: _, .obj _ _ _ :: _, _, _, e => by cases e
  | _ :: _, .exc _ _ :: _, _, _, e => by cases e
  | _ :: _, .fn _ :: _, _, _, e => by cases e
  | _ :: _, .cls _ :: _, _, _, e => by cases e
  | _ :: _, .typ _ :: _, _, _, e => by cases e
  | _ :: _, .bi _ :: _, _, _, e => by cases e
  | _ :: _, .frz _ _ :: _, _, _, e => by cases e
  | _ :: _, .rng _ _ :: _, _, _, e => by cases e

theorem mt_name {name : Str} {m : Nat} (h : mtTab.lookup name = some m) : (m = 0 → name = "append") ∧ (m = 1 → name = "extend") ∧ (m = 2 → name = "join") := by
  have hh : (mtTab.all fun p => (!(p.2 == 0) || p.1 == "append") && ((!(p.2 == 1) || p.1 == "extend") && (!(p.2 == 2) || p.1 == "join"))) = true := by decide +kernel
  have h1 := ands (List.all_eq_true.mp hh _ (mem_of_lookup h))
  have h2 := ands h1.2
  refine ⟨fun e => ?_, fun e => ?_, fun e => ?_⟩
  · have := h1.1; rw [e] at this; exact beq_iff_eq.mp this
  · have := h2.1; rw [e] at this; exact beq_iff_eq.mp this
  · have := h2.2; rw [e] at this; exact beq_iff_eq.mp this

theorem mt_key {name : Str} {m : Nat} (h : mtTab.lookup name = some m) : ∀ k, k ≤ 12 → name ≠ kyName k := by
  have hh : (mtTab.all fun p => (List.range 13).all fun k => !(p.1 == kyName k)) = true := by decide +kernel
  intro k hk e
  have := List.all_eq_true.mp (List.all_eq_true.mp hh _ (mem_of_lookup h)) k (List.mem_range.mpr (by omega))
  rw [e, beq_self_eq_true] at this
  cases this

theorem isL_update {h : Heap} {l : Addr} {ws : List Value} {k : Nat} (x : IsL h l ws.toArray k) (f : Array Value → Array Value) (us : List Value) (e : f ws.toArray = us.toArray) : ∃ k', IsL (h.update l (Obj.mapSeq f)) l us.toArray k' := by
  have := IsL.update x f
  rw [e] at this
  exact ⟨_, this⟩

theorem se_meth {o : ME} {m : Nat} {ms : List ME} {o' : Expr} {name : Str} {es : List Expr} {ap pos : Pos} (HK : HkOk C hk n) (XO : XObj C T) (F : FmOk C M) (hnm : mtTab.lookup name = some m) (hh : headE o' = true) (hn : es.all notStar = true) (hl : es.length < 20) (hp : (ap.endLine == pos.line) = true)
    (ho : SE C T hk n M o o') (hs : SEs C T hk n M ms es) : SE C T hk n M (.meth o m ms) (.Call (.Attribute o' name ap) es [] pos) := by
  intro A σ s Q X hA R w
  rw [eval_meth hh hn hl hp]
  refine wpAny_bind (ho.then hA R w fun v av σ₁ s₁ R₁ E₁ r₁ w₁ hA₁ => wpAny_bind (wpAny_standAt (wpAny_bind (wpAny_holding ?_))))
  refine byc fun no => ?_
  obtain ⟨hr, w₁⟩ := w₁
  obtain ⟨hm0, hm1, hm2⟩ := mt_name hnm
  refine no ?_; clear no
  have hz : sizeLine = 16777216 := sizeLine_eq
  refine byc fun no => ?_
  cases av with
  | lst a =>
    refine no ?_; clear no
    refine byc fun no => ?_
    obtain rfl : v = .ref a := r₁
    simp only [ready, Bool.and_eq_true, Nat.ble_eq] at hr
    obtain ⟨vs₀, hvs₀⟩ := Option.isSome_iff_exists.mp hr.2
    obtain ⟨ws₀, k₀, hp₀, _⟩ := R₁.list hvs₀
    refine no ?_; clear no
    rcases (show m = 0 ∨ False by (clear hl hz; omega)) with rfl | e0
    · obtain rfl := hm0 rfl
      refine Calls.getMethod_list_append hp₀ rfl rfl ?_
      refine Calls.callWith_builtin (any_star hn) ?_
      refine wpAny_mono (args_ok hs hn hA₁ R₁ w₁ fun vs as σ₂ s₂ R₂ E₂ r₂ w₂ hA₂ => ?_) (fun _ _ g => g) fun _ _ b => b.after E₁
      unfold methW at w₂
      dsimp only at w₂
      split at w₂
      · refine byc fun no => ?_
        obtain ⟨u, rfl, ru⟩ := rvs_one r₂
        obtain ⟨us, hu, hsz, q⟩ := need_of w₂
        obtain ⟨ws, k, hw, hr, hs'⟩ := R₂.list hu
        have hlen := rvs_length hr
        obtain ⟨k', hk'⟩ := isL_update hw (fun xs => xs.push u) (ws ++ [u]) (by simp)
        refine no ?_; clear no
        refine call_meets PySem.F.slot_list_append ⟨_, hw, rfl⟩ PySem.F.entry_list_append (PySem.F.args_list_append_2 _ _) (list_append a ws.toArray k u (by rw [List.size_toArray]; (clear hl hs'; omega))) ⟨hw, ?_⟩
        have sb : Heap.SameBut a s₂.heap (s₂.heap.update a (Obj.mapSeq fun xs => xs.push u)) := .update ..
        have im : Im s₂.heap (s₂.heap.update a (Obj.mapSeq fun xs => xs.push u)) := .extBut sb.extBut fun o e => (R₂.ho a _ (getL_of hu)).1.mut e
        obtain ⟨h5, h6⟩ := R₂.change F.frame (a := a) (ao := .lst (us ++ [_])) sb.extBut ⟨ws ++ [u], k', hk', rvs_append (hr.mono im) ⟨ru.mono im, trivial⟩, by rw [List.length_append]; exact hsz⟩ (.inl (by rw [getL_of hu]; simp)) s₂.toks
        exact ⟨.none, _, h5, (E₁.trans E₂).trans h6, rfl, q⟩
      · exact w₂.elim
    · exact e0.elim
  | str x =>
    refine no ?_; clear no
    obtain ⟨t, rfl⟩ := r₁
    simp only [ready, beq_iff_eq] at hr
    subst hr
    obtain rfl := hm2 rfl
    with_reducible refine PySem.GM.join ?_
    refine Calls.callWith_builtin (any_star hn) ?_
    refine wpAny_mono (args_ok hs hn hA₁ R₁ w₁ fun vs as σ₂ s₂ R₂ E₂ r₂ w₂ hA₂ => ?_) (fun _ _ g => g) fun _ _ b => b.after E₁
    unfold methW at w₂
    dsimp only at w₂
    obtain ⟨_, rfl, w₂⟩ := w₂
    split at w₂
    · rename_i a
      refine byc fun no => ?_
      obtain ⟨u, rfl, ru⟩ := rvs_one r₂
      obtain rfl : u = .ref a := ru
      obtain ⟨us, hu, w₂⟩ := need_of w₂
      obtain ⟨xs, hx, hsz, q⟩ := need_of w₂
      obtain ⟨ws, k, hw, hr, hs'⟩ := R₂.list hu
      refine no ?_; clear no
      refine join_list (isList_of hw) (by simpa using strs_rvs hr hx) ?_ fun t' k => (Good.keeps (s' := { s₂ with toks := k }) R₂ (fun _ _ e => e) (av := .str _) ⟨_, rfl⟩ q).after (E₁.trans E₂)
      have e : (Str.ofString " ").length = 1 := by decide
      rw [e]; (clear hl hz hs' e; omega)
    · exact w₂.elim
  | obj c a d =>
    refine no ?_; clear no
    refine byc fun no => ?_
    obtain ⟨rfl, hx, hhc, h6⟩ := id r₁
    simp only [ready, Bool.and_eq_true] at hr
    obtain ⟨kvs, hkv⟩ := Option.isSome_iff_exists.mp hr.1
    obtain ⟨f, hf⟩ := Option.isSome_iff_exists.mp hr.2
    obtain ⟨K, KX, HO⟩ := XO
    have O := HO c hhc h6
    obtain ⟨hff, hty, hfind⟩ := O.meth m f name hf hnm
    obtain ⟨ps, hd, hp, _⟩ := R₁.dct hkv
    obtain ⟨od, hod, hlook⟩ := look_dict hd
    refine no ?_; clear no
    refine PySem.W.method_fn (KX.keeps R₁.keep) (inst_at hx hod) O.getb O.geta hfind hty (by show (PySem.W.lookIn name od).map _ = _; rw [hlook, rps_none hp (mt_key hnm)]; rfl) ?_
    refine PySem.W.callWith_of (P := fun h => ∃ o fd, h.get? (C.fa f) = some o ∧ o.data = .func fd) (by rw [any_star hn]; rfl) (fun h ⟨o, fd, ho, hd⟩ => ⟨.frame, .inl rfl, looks_fn ho hd⟩) ?_
    refine wpAny_mono (args_ok hs hn hA₁ R₁ w₁ fun vs as σ₂ s₂ R₂ E₂ r₂ w₂ hA₂ => ?_) (fun _ _ g => g) fun _ _ b => b.after E₁
    unfold methW at w₂
    dsimp only at w₂
    rw [hf] at w₂
    refine byc fun no => ?_
    obtain ⟨⟨o, fd, ho, hd⟩, hcall⟩ := HK _ _ _ _ _ _ hff w₂
    refine no ?_; clear no
    refine ⟨⟨o, fd, R₂.keep _ _ ho, hd⟩, ?_⟩
    have E' := E₁.trans E₂
    refine wpAny_mono (wpAny_call (hcall M A σ₂ s₂ (.ref a :: vs) F hA₂.h R₂ rfl rfl ⟨r₁.mono (E₂.im R₁), r₂⟩)) (fun v s₃ g => ?_) fun e s₃ b => ?_
    · refine byc fun no => ?_
      obtain ⟨av, σ₃, R₃, E₃, r₃, e, q⟩ := g
      refine no ?_; clear no
      exact ⟨av, σ₃, R₃, E'.trans E₃, r₃, by rw [e]; exact q⟩
    · exact (b.after E').mono fun c σ' ⟨e, q⟩ => by rw [e]; exact q
  | _ => cases hr
end
end Mine
end
section
open PySem
open PyProof.Rows
namespace Mine

/-! ## Objects beside the abstract heap: iterators, lists under way -/
structure Side (C : Cx) (M : Fm) (σ : AS) (a : Addr) : Prop where
  H : σ.H a = none
  own : ¬ Own M a
  fr : a ∉ frs M
  base : C.base.get? a = none

theorem RO.some {C : Cx} {h : Heap} {a : Addr} {ao : AO} (x : RO C h a ao) : ∃ o, h.get? a = some o := by
  cases ao with
  | lst vs => obtain ⟨ws, n, e, _⟩ := x; exact ⟨_, e⟩
  | dct _ => obtain ⟨ps, ⟨o, _, _, e, _⟩, _⟩ := x; exact ⟨_, e⟩

section
variable {C : Cx} {M : Fm} {σ σ' σ₀ : AS} {s s' s₀ : Shared} {a : Addr}

theorem Side.new (R : Rel C M σ s) (h : s.heap.get? a = none) : Side C M σ a where
  H := by
    cases q : σ.H a with
    | none => rfl
    | some ao => obtain ⟨o, e⟩ := (R.ho a _ q).1.some; rw [h] at e; cases e
  own := by
    rintro (rfl | ⟨x, hx⟩ | ⟨e, he, rfl⟩)
    · obtain ⟨m, ⟨o, _, _, e, _⟩, _⟩ := R.ns; rw [h] at e; cases e
    · obtain ⟨vo, o, e, _⟩ := R.celld _ _ hx; rw [h] at e; cases e
    · obtain ⟨m, ⟨o, _, _, e, _⟩, _⟩ := R.cns _ he; rw [h] at e; cases e
  fr := fun q => by obtain ⟨o, _, _, e, _⟩ := R.frD a q; rw [h] at e; cases e
  base := by
    cases q : C.base.get? a with
    | none => rfl
    | some o => rw [R.keep a o q] at h; cases h

theorem Side.ext (S : Side C M σ a) (E : Ext M σ s σ' s') {o : Obj} (h : s.heap.get? a = some o) : Side C M σ' a ∧ s'.heap.get? a = some o := by
  refine ⟨⟨?_, S.own, S.fr, S.base⟩, (E.kept a o h S.own S.H).1 S.fr⟩
  cases q : σ'.H a with
  | none => rfl
  | some ao =>
    rcases E.new a (by rw [q]; simp) with z | z
    · exact absurd S.H z
    · rw [h] at z; cases z

theorem Rel.side (F : FmOk C M) (R : Rel C M σ s) (S : Side C M σ a) {h' : Heap} (hx : Heap.ExtBut a s.heap h') (hm : ∀ o, s.heap.get? a = some o → Mut o) (t : Nat) : Rel C M σ { s with heap := h', toks := t } := by
  have i : Im s.heap h' := .extBut hx hm
  have no : ∀ b, Own M b → b ≠ a := fun b ho q => S.own (q ▸ ho)
  have nf : ∀ b, b ∈ frs M → b ≠ a := fun b ho q => S.fr (q ▸ ho)
  have nh : ∀ b o, σ.H b = some o → b ≠ a := fun b o e q => by rw [q, S.H] at e; cases e
  refine ⟨fun b o e => hx b o (fun q => by rw [q, S.base] at e; cases e) (R.keep b o e), R.os, R.gens, ?_, ?_, ?_, fun b o e => ?_, R.own, ?_, ?_, R.frsH, ?_⟩
  · obtain ⟨m, hn, h⟩ := R.ns
    exact ⟨m, Ns.keeps1 hn fun o e => hx _ _ (no _ (.inl rfl)) e, fun i' x av e1 e2 => let ⟨v, hv, r⟩ := h i' x av e1 e2; ⟨v, hv, r.mono i⟩⟩
  · intro j x e
    refine byc fun no => ?_
    obtain ⟨c, vo, e1, e2, h⟩ := R.cells j x e
    refine no ?_; clear no
    exact ⟨c, vo, e1, IsCell.keeps1 e2 fun o e => hx _ _ (no _ (.inr (.inl ⟨x, mem_of_lookup e1⟩))) e, fun av e3 => let ⟨v, hv, r⟩ := h av e3; ⟨v, hv, r.mono i⟩⟩
  · intro e he
    obtain ⟨m, hn, h⟩ := R.cns e he
    exact ⟨m, Ns.keeps1 hn fun o q => hx _ _ (no _ (.inr (.inr ⟨e, he, rfl⟩))) q, fun i' x av e1 e2 => let ⟨v, hv, r⟩ := h i' x av e1 e2; ⟨v, hv, r.mono i⟩⟩
  · exact ⟨(R.ho b o e).1.keeps (fun ob q => hx b ob (nh b o e) q) i, (R.ho b o e).2⟩
  · intro x c e
    obtain ⟨vo, h⟩ := R.celld x c e
    exact ⟨vo, IsCell.keeps1 h fun o q => hx _ _ (no _ (.inr (.inl ⟨x, e⟩))) q⟩
  · refine funFrames_of R.frames fun e he L hL o ho => ⟨o.slots, hx L o ?_ ho⟩
    rcases List.mem_cons.mp he with rfl | he
    · rw [F.frame] at hL; cases hL; exact no _ (.inl rfl)
    · exact nf _ (mem_frs he hL)
  · intro b hb
    refine byc fun no => ?_
    obtain ⟨o, es, n, e, hd⟩ := R.frD b hb
    refine no ?_; clear no
    exact ⟨o, es, n, hx b o (nf b hb) e, hd⟩

theorem Ext.side (E : Ext M σ₀ s₀ σ s) {h' : Heap} (hx : Heap.ExtBut a s.heap h') (h0 : s₀.heap.get? a = none) (t : Nat) : Ext M σ₀ s₀ σ { s with heap := h', toks := t } := by
  have ne : ∀ b o, s₀.heap.get? b = some o → b ≠ a := fun b o e q => by rw [q, h0] at e; cases e
  refine ⟨fun b o e no nH => ?_, fun b o e => ?_, E.new, E.hd⟩
  · obtain ⟨k1, sl, k2⟩ := E.kept b o e no nH
    exact ⟨fun hb => hx b o (ne b o e) (k1 hb), sl, hx b _ (ne b o e) k2⟩
  · obtain ⟨o', e'⟩ := E.stay b o e
    exact ⟨o', hx b o' (ne b o e) e'⟩
end

/-! ## Iterators -/
noncomputable def Iter (C : Cx) (h : Heap) (I : Addr) (i : Nat) : AV → Prop
  | .lst a => h.IsListIter I a i
  | .frz a ns => h.IsListIter I a i ∧ RV C h (.ref a) (.frz a ns)
  | .tup vs => ∃ a ws k, h.IsTupleIter I a i ∧ IsT h a ws.toArray k ∧ RVs C h ws vs
  | .rng lo hi => IsRangeIter h I (lo + i) (((hi - lo).toNat : Int) - i) 1
  | _ => False

section
variable {C : Cx} {M : Fm} {σ : AS} {s : Shared} {A : Around} {I : Addr} {i : Nat} {iv : AV} {h h' : Heap}

theorem Iter.obj (x : Iter C h I i iv) : ∃ o vs, h.get? I = some o ∧ o.data = .fields vs ∧ (o.cls = .type "list_iterator" ∨ o.cls = .type "tuple_iterator" ∨ o.cls = .type "range_iterator") := by
  cases iv with
  | lst a => obtain ⟨o, e, hc, hd⟩ := x; exact ⟨o, _, e, hd, .inl hc⟩
  | frz a ns => obtain ⟨⟨o, e, hc, hd⟩, _⟩ := x; exact ⟨o, _, e, hd, .inl hc⟩
  | tup vs => obtain ⟨a, ws, k, ⟨o, e, hc, hd⟩, _⟩ := x; exact ⟨o, _, e, hd, .inr (.inl hc)⟩
  | rng lo hi => exact ⟨_, _, x, rfl, .inr (.inr rfl)⟩
  | _ => exact x.elim

theorem mut_of_cls {o : Obj} (h : o.cls = .type "list_iterator" ∨ o.cls = .type "tuple_iterator" ∨ o.cls = .type "range_iterator") : Mut o := by
  refine ⟨fun ⟨q, _⟩ => ?_, fun ⟨c, vs, q, _⟩ => ?_⟩
  · rcases h with h | h | h <;> rcases q with q | q | ⟨c, q, _⟩ <;> rw [h] at q <;> simp at q
  · rcases h with h | h | h <;> rw [h] at q <;> cases q

theorem Iter.mut (x : Iter C h I i iv) {o : Obj} (e : h.get? I = some o) : Mut o := by
  refine byc fun no => ?_
  obtain ⟨o', vs, e', _, hc⟩ := x.obj
  refine no ?_; clear no
  rw [e'] at e; cases e
  exact mut_of_cls hc

theorem Iter.keep (x : Iter C h I i iv) (k : ∀ o, h.get? I = some o → h'.get? I = some o) (im : Im h h') : Iter C h' I i iv := by
  cases iv with
  | lst a => obtain ⟨o, e, r⟩ := x; exact ⟨o, k o e, r⟩
  | frz a ns => obtain ⟨⟨o, e, r⟩, y⟩ := x; exact ⟨⟨o, k o e, r⟩, y⟩
  | tup vs =>
    refine byc fun no => ?_
    obtain ⟨a, ws, n, ⟨o, e, r⟩, ht, hv⟩ := x
    refine no ?_; clear no
    exact ⟨a, ws, n, ⟨o, k o e, r⟩, im.obj a _ ht (.seq rfl rfl), hv.mono im⟩
  | rng lo hi => exact k _ x
  | _ => exact x.elim

theorem isTuple_of {a : Addr} {ws : Array Value} {k : Nat} (x : IsT h a ws k) : h.IsTuple a ws := ⟨_, x, rfl, _, rfl⟩

theorem rangeSize_one {lo hi : Int} : Builtin.Range.rangeSize lo hi 1 = ((hi - lo).toNat : Int) := by
  unfold Builtin.Range.rangeSize
  rw [if_pos (by decide)]
  split <;> omega
theorem range_small {lo hi : Int} (h1 : Place lo) (h2 : Place hi) : Builtin.Range.small lo hi 1 = true := by
  refine byc fun no => ?_
  obtain ⟨a, b⟩ := h1
  obtain ⟨c, d⟩ := h2
  refine no ?_; clear no
  unfold Builtin.Range.small
  rw [rangeSize_one]
  unfold Builtin.Range.rangeFitsLong
  simp only [Bool.and_eq_true, Bool.or_eq_true]
  have e : (1 : Int) > 0 := by decide
  simp only [e, if_true]
  refine ⟨⟨⟨⟨?_, ?_⟩, ?_⟩, ?_⟩, .inr ?_⟩ <;> simp <;> (clear e; omega)

/-- an iterator is asked of a source -/
theorem iter_start (R : Rel C M σ s) {v : Value} {vs : List AV} (r : RV C s.heap v iv) (hs : src σ.H iv = some vs) {Q : Value → Shared → Prop} {E : Value → Shared → Prop}
    (k : ∀ I h', s.heap.get? I = none → (∀ b o, s.heap.get? b = some o → h'.get? b = some o) → Iter C h' I 0 iv → Q (.ref I) { s with heap := h' }) : wpAny (model C.prog C.w) A (pyIter v) Q E s := by
  have hn : s.heap.get? s.heap.objs.size = none := get_none_of_ge (Nat.le_refl _)
  cases iv with
  | lst a =>
    refine byc fun no => ?_
    obtain rfl : v = .ref a := r
    obtain ⟨ws, n, hw, _⟩ := R.list (show getL σ.H a = some vs from hs)
    refine no ?_; clear no
    refine wpAny_pyIter_list (isList_of hw) (k _ _ hn (fun b o e => Heap.get?_push_of_some _ e) ⟨_, Heap.get?_push_size _ rfl, rfl, rfl⟩)
  | frz a ns =>
    refine byc fun no => ?_
    obtain ⟨rfl, ws, n, hw, hr⟩ := id r
    refine no ?_; clear no
    refine wpAny_pyIter_list (isList_of (R.keep _ _ hw)) (k _ _ hn (fun b o e => Heap.get?_push_of_some _ e) ⟨⟨_, Heap.get?_push_size _ rfl, rfl, rfl⟩, r⟩)
  | tup us =>
    refine byc fun no => ?_
    obtain ⟨a, ws, n, rfl, hw, hr, _⟩ := id r
    refine no ?_; clear no
    refine wpAny_pyIter_tuple (isTuple_of hw) (k _ _ hn (fun b o e => Heap.get?_push_of_some _ e) ⟨a, ws, n, ⟨_, Heap.get?_push_size _ rfl, rfl, rfl⟩, Heap.get?_push_of_some _ hw, hr.mono (.keeps fun b o e => Heap.get?_push_of_some _ e)⟩)
  | rng lo hi =>
    refine byc fun no => ?_
    obtain ⟨a, t, u, x, rfl, hw, h1, h2⟩ := id r
    refine no ?_; clear no
    refine wpAny_pyIter_range hw (range_small h1 h2) (k _ _ hn (fun b o e => Heap.get?_push_of_some _ e) ?_)
    rw [rangeSize_one]
    show IsRangeIter _ _ (lo + 0) (((hi - lo).toNat : Int) - 0) 1
    rw [Int.add_zero, Int.sub_zero]
    exact Heap.get?_push_size _ rfl
  | _ => cases hs

/-- an iterator is its own -/
theorem iter_self (x : Iter C s.heap I i iv) {Q : Value → Shared → Prop} {E : Value → Shared → Prop} (k : Q (.ref I) s) : wpAny (model C.prog C.w) A (pyIter (.ref I)) Q E s := by
  cases iv with
  | lst a => exact wpAny_pyIter_listiter x k
  | frz a ns => exact wpAny_pyIter_listiter x.1 k
  | tup us =>
    refine byc fun no => ?_
    obtain ⟨a, ws, n, hit, _⟩ := x
    refine no ?_; clear no
    refine wpAny_pyIter_slot hit.typeIs PySem.F.slot_tuple_iterator_iter (wpAny_call_entry PySem.F.slot_tuple_iterator_iter hit.typeIs PySem.F.entry_tuple_iterator_iter ?_ (PySem.F.args_tuple_iterator_iter_1 _))
    show wpAny _ _ (ret (.ref I)) _ _ s
    exact wpAny_pure ⟨_, rfl, "tuple_iterator", _, hit.typeIs, PySem.F.slot_tuple_iterator_next.lookup, k⟩
  | rng lo hi =>
    have hT : s.TypeIs (.ref I) "range_iterator" := ⟨_, x, rfl⟩
    refine wpAny_pyIter_slot hT PySem.F.slot_range_iterator_iter (wpAny_call_entry PySem.F.slot_range_iterator_iter hT PySem.F.entry_range_iterator_iter ?_ (PySem.F.args_range_iterator_iter_1 _))
    show wpAny _ _ (ret (.ref I)) _ _ s
    exact wpAny_pure ⟨_, rfl, "range_iterator", _, hT, PySem.F.slot_range_iterator_next.lookup, k⟩
  | _ => exact x.elim

theorem rvs_at {h : Heap} : ∀ {ws : List Value} {vs : List AV}, RVs C h ws vs → ∀ (i : Nat), (vs[i]? = none → ws[i]? = none) ∧ ∀ av, vs[i]? = some av → ∃ v, ws[i]? = some v ∧ RV C h v av
  | [], [], _, i => ⟨fun _ => by simp, fun av e => by simp at e⟩
  | v :: ws, a :: vs, r, 0 => ⟨fun e => by simp at e, fun av e => by simp at e; subst e; exact ⟨v, by simp, r.1⟩⟩
  | v :: ws, a :: vs, r, i + 1 => by simpa using rvs_at r.2 i
  | [], _ :: _, r, _ => r.elim
  | _ :: _, [], r, _ => r.elim

/-- an iterator is asked for its next item -/
theorem iter_next (hh : A.handled = none) (R : Rel C M σ s) {vs : List AV} (x : Iter C s.heap I i iv) (hs : src σ.H iv = some vs) {Q : Option Value → Shared → Prop} {E : Value → Shared → Prop}
    (k1 : vs[i]? = none → ∀ h', Heap.ExtBut I s.heap h' → Q none { s with heap := h' })
    (k2 : ∀ av v h' t, vs[i]? = some av → RV C h' v av → Heap.ExtBut I s.heap h' → Iter C h' I (i + 1) iv → Q (some v) { s with heap := h', toks := t }) : wpAny (model C.prog C.w) A (pyNext (.ref I)) Q E s := by
  have hm := @Iter.mut C I i iv s.heap x
  cases iv with
  | lst a =>
    refine byc fun no => ?_
    obtain ⟨ws, n, hw, hr, _⟩ := R.list (show getL σ.H a = some vs from hs)
    obtain ⟨p1, p2⟩ := rvs_at hr i
    refine no ?_; clear no
    cases hv : vs[i]? with
    | none => exact wpAny_pyNext_list_end hh x (isList_of hw) (by simpa using p1 hv) fun h' e => k1 hv h' e
    | some av =>
      obtain ⟨v, hv', rv⟩ := p2 av hv
      exact wpAny_pyNext_list_item x (isList_of hw) (by simpa using hv') fun h' it sb => k2 av v h' s.toks hv (rv.mono (.extBut sb.extBut fun o e => hm e)) sb.extBut it
  | frz a ns =>
    refine byc fun no => ?_
    obtain ⟨_, ws, n, hw, hr, _⟩ := id x.2
    refine no ?_; clear no
    cases hs
    obtain ⟨p1, p2⟩ := rvs_at (rvs_ints (C := C) (h := s.heap) hr) i
    cases hv : (ns.map AV.int)[i]? with
    | none => exact wpAny_pyNext_list_end hh x.1 (isList_of (R.keep _ _ hw)) (by simpa using p1 hv) fun h' e => k1 hv h' e
    | some av =>
      obtain ⟨v, hv', rv⟩ := p2 av hv
      exact wpAny_pyNext_list_item x.1 (isList_of (R.keep _ _ hw)) (by simpa using hv') fun h' it sb => k2 av v h' s.toks hv (rv.mono (.extBut sb.extBut fun o e => hm e)) sb.extBut ⟨it, x.2⟩
  | tup us =>
    cases hs
    refine byc fun no => ?_
    obtain ⟨a, ws, n, hit, hw, hr⟩ := id x
    obtain ⟨p1, p2⟩ := rvs_at hr i
    refine no ?_; clear no
    cases hv : vs[i]? with
    | none => exact wpAny_pyNext_tuple_end hh hit (isTuple_of hw) (by simpa using p1 hv) fun h' e => k1 hv h' e
    | some av =>
      obtain ⟨v, hv', rv⟩ := p2 av hv
      refine wpAny_pyNext_tuple_item hit (isTuple_of hw) (by simpa using hv') fun h' it sb => ?_
      have im : Im s.heap h' := .extBut sb.extBut fun o e => hm e
      exact k2 av v h' s.toks hv (rv.mono im) sb.extBut ⟨a, ws, n, it, im.obj _ _ hw (.seq rfl rfl), hr.mono im⟩
  | rng lo hi =>
    cases hs
    have hit : IsRangeIter s.heap I (lo + i) (((hi - lo).toNat : Int) - i) 1 := x
    by_cases hlt : i < (hi - lo).toNat
    · have hv : (rngL lo hi)[i]? = some (.int (lo + i)) := by unfold rngL; simp [hlt]
      refine wpAny_pyNext_range_item hit (by omega) fun h' it sb => k2 _ _ h' _ hv ⟨_, rfl⟩ sb.extBut ?_
      show IsRangeIter h' I (lo + (i + 1 : Nat)) (((hi - lo).toNat : Int) - (i + 1 : Nat)) 1
      rw [show lo + (i + 1 : Nat) = lo + i + 1 by (clear hlt; omega), show ((hi - lo).toNat : Int) - (i + 1 : Nat) = ((hi - lo).toNat : Int) - i - 1 by (clear hlt; omega)]
      exact it
    · have hv : (rngL lo hi)[i]? = none := by unfold rngL; simp; omega
      exact wpAny_pyNext_range_end hh hit (by omega) fun h' e => k1 hv h' e
  | _ => cases hs

theorem own_go (x : Iter C s.heap I i iv) {e : Expr} {v : Value} {Q : Unit → Shared → Prop} {E : Value → Shared → Prop} (k : Q () s) : wpAny (model C.prog C.w) A (letOwnedTupleGo e (.ref I) v) Q E s := by
  refine byc fun no => ?_
  obtain ⟨o, vs, ho, hd, hc⟩ := x.obj
  refine no ?_; clear no
  have main : ∀ a, wpAny (model C.prog C.w) A (do
      let o ← load I
      match o.cls, o.data with
      | .type n, .fields vs =>
        if ["enumerate", "zip", "dict_itemiterator", "dict_reverseitemiterator", "odict_iterator", "itertools.zip_longest", "itertools.pairwise"].contains n && vs[0]? == some (rawInt a) then
          rule "for.unpacks-the-owned-tuple"
          updateField I 0 .none
      | _, _ => pure ()) Q E s := fun a => by
    refine wpAny_bind (wpAny_load ho ?_)
    rw [hd]
    have hf : ∀ n, (n = "list_iterator" ∨ n = "tuple_iterator" ∨ n = "range_iterator") → (["enumerate", "zip", "dict_itemiterator", "dict_reverseitemiterator", "odict_iterator", "itertools.zip_longest", "itertools.pairwise"].contains n) = false := by
      rintro n (rfl | rfl | rfl) <;> decide
    rcases hc with hc | hc | hc <;> rw [hc] <;> dsimp only <;> rw [hf _ (by simp)] <;> exact wpAny_pure k
  unfold letOwnedTupleGo
  split
  · cases v with
    | ref a => exact main a
    | _ => exact wpAny_pure k
  · cases v with
    | ref a => exact main a
    | _ => exact wpAny_pure k
  · exact wpAny_pure k
end
end Mine
end
section
open PySem
open PyProof.Rows
namespace Mine

theorem nodup_of : ∀ {l : List Str}, nodupB l = true → l.Nodup
  | [], _ => List.nodup_nil
  | x :: r, h => by
    simp only [nodupB, Bool.and_eq_true, Bool.not_eq_true', List.contains_eq_mem, decide_eq_false_iff_not] at h
    exact List.nodup_cons.mpr ⟨h.1, nodup_of h.2⟩

section
variable {C : Cx} {M : Fm} {σ : AS} {s : Shared} {A : Around} {S : Sc}

theorem fnot {e : Env} (h : e.scope.kind = .function) : (e.scope.kind == .class || (e.scope.kind == .module && e.locals != e.globals)) = false := by rw [h]; rfl

theorem asg_loc (F : FmOk C M) (hS : ScOk S M) (hce : M.ce = none) {x : Str} {i : Nat} {p : Pos} (h : S.loc x i = true) (R : Rel C M σ s) {v : Value} {av : AV} (r : RV C s.heap v av) {P : Unit → Shared → Prop} {E : Value → Shared → Prop}
    (k : ∀ s', Rel C M { σ with loc := σ.loc.set i (some av) } s' → Ext M σ s { σ with loc := σ.loc.set i (some av) } s' → P () s') : wpAny (model C.prog C.w) A (assign (.Name x p) M.cur v) P E s := by
  obtain ⟨hf, hc⟩ := hS
  rw [hce, Option.map_none] at hc
  unfold Sc.loc at h
  rw [hc] at h
  rw [cur_none hce]
  dsimp only at h
  refine wpAny_assign_Name ?_
  split at h
  · rename_i y hy
    obtain rfl : y = x := beq_iff_eq.mp h
    rw [hf] at hy
    obtain ⟨m, hn, hm⟩ := R.ns
    refine wpAny_storeName_local (lookup_of_idx F.nodup hy) hn (fun h' hn' hs' => ?_) (fnot F.kind)
    obtain ⟨h1, h2⟩ := R.storeL F hy r hm hn' hs' (s.toks + 1)
    exact k _ h1 h2
  · rename_i y hy
    refine byc fun no => ?_
    obtain rfl : y = x := beq_iff_eq.mp h
    rw [hf] at hy
    obtain ⟨c, vo, e1, e2, hm⟩ := R.cells i y hy
    refine no ?_; clear no
    refine wpAny_storeName_cell F.kind (lookup_of_idx F.nodup hy) e1 e2 fun h' hn' hs' => ?_
    obtain ⟨h1, h2⟩ := R.storeC F hy e1 r hn' hs' s.toks
    exact k _ h1 h2
  · cases h

theorem asg_cv (F : FmOk C M) (hS : ScOk S M) {x : Str} {i : Nat} {p : Pos} (h : S.cv x i = true) (R : Rel C M σ s) {v : Value} {av : AV} (r : RV C s.heap v av) {P : Unit → Shared → Prop} {E : Value → Shared → Prop}
    (k : ∀ s', Rel C M { σ with cv := σ.cv.set i (some av) } s' → Ext M σ s { σ with cv := σ.cv.set i (some av) } s' → P () s') : wpAny (model C.prog C.w) A (assign (.Name x p) M.cur v) P E s := by
  obtain ⟨hf, hc⟩ := hS
  unfold Sc.cv at h
  cases hce : M.ce with
  | none => rw [hce, Option.map_none] at hc; rw [hc] at h; cases h
  | some e =>
    rw [hce, Option.map_some] at hc
    rw [hc] at h
    rw [cur_some hce]
    dsimp only at h
    refine wpAny_assign_Name ?_
    split at h
    · rename_i y hy
      obtain rfl : y = x := beq_iff_eq.mp h
      obtain ⟨m, hn, hm⟩ := R.cns e hce
      refine wpAny_storeName_local (lookup_of_idx (F.cek e hce).2.2.2.2.1 hy) hn (fun h' hn' hs' => ?_) (fnot (F.cek e hce).1)
      obtain ⟨h1, h2⟩ := R.storeV F hce hy r hm hn' hs' (s.toks + 1)
      exact k _ h1 h2
    · cases h

theorem asg_each {ok : Str → Nat → Bool} {up : AS → Nat → AV → AS} {ups : AS → List Nat → List AV → AS} (hn : ∀ σ, ups σ [] [] = σ) (hc : ∀ σ i is v vs, ups σ (i :: is) (v :: vs) = ups (up σ i v) is vs)
    (one : ∀ (σ : AS) (s : Shared) (x : Str) (i : Nat) (p : Pos) (v : Value) (av : AV) (P : Unit → Shared → Prop) (E : Value → Shared → Prop), ok x i = true → Rel C M σ s → RV C s.heap v av →
      (∀ s', Rel C M (up σ i av) s' → Ext M σ s (up σ i av) s' → P () s') → wpAny (model C.prog C.w) A (assign (.Name x p) M.cur v) P E s) :
    ∀ (is : List Nat) (es : List Expr) (ws : List Value) (vs : List AV) (σ : AS) (s : Shared) (P : Unit → Shared → Prop) (E : Value → Shared → Prop), namesIn ok is es = true → Rel C M σ s → RVs C s.heap ws vs → vs.length = is.length →
      (∀ s', Rel C M (ups σ is vs) s' → Ext M σ s (ups σ is vs) s' → P () s') → wpAny (model C.prog C.w) A (assignInOrder ((assignEach es M.cur).map (·.2)) ws) P E s
  | [], [], [], [], σ, s, P, E, _, R, _, _, k => wpAny_pure (k s (by rw [hn]; exact R) (by rw [hn]; exact .refl ..))
  | [], _ :: _, _, _, _, _, _, _, h, _, _, _, _ => absurd h Bool.false_ne_true
  | _ :: _, [], _, _, _, _, _, _, h, _, _, _, _ => absurd h Bool.false_ne_true
  | _ :: _, _ :: _, [], _ :: _, _, _, _, _, _, _, r, _, _ => r.elim
  | _ :: _, _ :: _, _, [], _, _, _, _, _, _, _, hl, _ => by simp at hl
  | [], [], _, _ :: _, _, _, _, _, _, _, _, hl, _ => by simp at hl
  | [], [], _ :: _, [], _, _, _, _, _, _, r, _, _ => r.elim
  | i :: is, e :: es, w :: ws, v :: vs, σ, s, P, E, h, R, r, hl, k => by
    replace h := ands h
    refine byc fun no => ?_
    obtain ⟨x, p, rfl, h1⟩ := onName_of h.1
    refine no ?_; clear no
    show wpAny _ A (assignInOrder (assign (.Name x p) M.cur :: (assignEach es M.cur).map (·.2)) (w :: ws)) P E s
    refine assignInOrder_cons (one σ s x i p w v _ _ h1 R r.1 fun s' R' E' => ?_)
    refine asg_each hn hc one is es ws vs (up σ i v) s' P E h.2 R' (r.2.mono (E'.im R)) (by simpa using hl) fun s'' R'' E'' => k s'' ?_ ?_
    · rw [hc]; exact R''
    · rw [hc]; exact E'.trans E''

theorem each_len {ok : Str → Nat → Bool} {env : Env} : ∀ {is : List Nat} {es : List Expr}, namesIn ok is es = true → (assignEach es env).length = is.length ∧ (assignEach es env).findIdx? (·.1) = none
  | [], [], _ => ⟨rfl, rfl⟩
  | i :: is, e :: es, h => by
    replace h := ands h
    refine byc fun no => ?_
    obtain ⟨x, p, rfl, _⟩ := onName_of h.1
    obtain ⟨h1, h2⟩ := each_len (env := env) h.2
    refine no ?_; clear no
    have e : assignEach (.Name x p :: es) env = (false, assign (.Name x p) env) :: assignEach es env := rfl
    rw [e]
    refine ⟨by simp [h1], ?_⟩
    rw [List.findIdx?_cons]
    simp [h2]
  | [], _ :: _, h => absurd h Bool.false_ne_true
  | _ :: _, [], h => absurd h Bool.false_ne_true

/-- what a target does -/
theorem asg_ok (F : FmOk C M) (hS : ScOk S M) {t : Tgt} {e : Expr} (h : tgtOk S t e = true) (hh : σ.hd = false → A.handled = none) (R : Rel C M σ s) {v : Value} {av : AV} (r : RV C s.heap v av) {K : AS → Prop} (w : asgW t av σ K)
    {P : Unit → Shared → Prop} {E : Value → Shared → Prop} (k : ∀ σ' s', Rel C M σ' s' → Ext M σ s σ' s' → K σ' → P () s') : wpAny (model C.prog C.w) A (assign e M.cur v) P E s := by
  have hcn : S.c.isNone = true → M.ce = none := fun q => by
    have := hS.2
    rw [Option.isNone_iff_eq_none.mp q] at this
    cases z : M.ce with
    | none => rfl
    | some x => rw [z] at this; cases this
  have push : ∀ h', Heap.ExtBut s.heap.objs.size s.heap h' → Rel C M σ { s with heap := h' } ∧ Ext M σ s σ { s with heap := h' } := fun h' hx => by
    have kp : ∀ b o, s.heap.get? b = some o → h'.get? b = some o := fun b o e => hx b o (Nat.ne_of_lt (Heap.lt_size e)) e
    exact ⟨R.keeps kp, .keeps kp⟩
  cases t with
  | loc i =>
    refine byc fun no => ?_
    obtain ⟨x, p, rfl, h⟩ := onName_of h
    refine no ?_; clear no
    replace h := ands h
    exact asg_loc F hS (hcn h.1) h.2 R r fun s' R' E' => k _ s' R' E' w
  | cv i =>
    refine byc fun no => ?_
    obtain ⟨x, p, rfl, h⟩ := onName_of h
    refine no ?_; clear no
    exact asg_cv F hS (show S.cv _ i = true from h) R r fun s' R' E' => k _ s' R' E' w
  | tupl is =>
    refine byc fun no => ?_
    obtain ⟨es, x1, p, rfl, h⟩ := onTup_of h
    replace h := ands h
    obtain ⟨hd, w⟩ := w
    refine no ?_; clear no
    cases av with
    | tup us =>
      refine byc fun no => ?_
      obtain ⟨hl, w⟩ := w
      obtain ⟨a, ws, n, rfl, hw, hr, _⟩ := r
      have hN := h.2
      obtain ⟨l1, l2⟩ := each_len (env := M.cur) hN
      refine no ?_; clear no
      have hlen := rvs_length hr
      refine wpAny_assign_Tuple (hh hd) (isTuple_of hw) (by rw [l1, List.size_toArray]; omega) l2 fun h' hx => ?_
      obtain ⟨R', E'⟩ := push h' hx
      refine asg_each (up := fun σ i v => { σ with loc := σ.loc.set i (some v) }) (ups := fun σ is vs => { σ with loc := setAll σ.loc is vs }) (fun σ => by simp [setAll]) (fun σ i is v vs => rfl)
        (fun σ s x i p v av P E ho R r k => asg_loc F hS (hcn h.1) ho R r k) is es ws us σ _ P E hN R' (hr.mono (E'.im R)) hl fun s'' R'' E'' => k _ s'' R'' (E'.trans E'') w
    | _ => exact w.elim
  | tupc is =>
    refine byc fun no => ?_
    obtain ⟨es, x1, p, rfl, h⟩ := onTup_of h
    obtain ⟨hd, w⟩ := w
    refine no ?_; clear no
    cases av with
    | tup us =>
      refine byc fun no => ?_
      obtain ⟨hl, w⟩ := w
      obtain ⟨a, ws, n, rfl, hw, hr, _⟩ := r
      have hN := h
      obtain ⟨l1, l2⟩ := each_len (env := M.cur) hN
      refine no ?_; clear no
      have hlen := rvs_length hr
      refine wpAny_assign_Tuple (hh hd) (isTuple_of hw) (by rw [l1, List.size_toArray]; omega) l2 fun h' hx => ?_
      obtain ⟨R', E'⟩ := push h' hx
      refine asg_each (up := fun σ i v => { σ with cv := σ.cv.set i (some v) }) (ups := fun σ is vs => { σ with cv := setAll σ.cv is vs }) (fun σ => by simp [setAll]) (fun σ i is v vs => rfl)
        (fun σ s x i p v av P E ho R r k => asg_cv F hS ho R r k) is es ws us σ _ P E hN R' (hr.mono (E'.im R)) hl fun s'' R'' E'' => k _ s'' R'' (E'.trans E'') w
    | _ => exact w.elim
end
end Mine
end
section
open PySem
open PyProof.Rows
namespace Mine

section
variable {C : Cx} {M : Fm} {σ σ₀ : AS} {s s₀ : Shared} {a : Addr}
theorem Rel.adoptS (R : Rel C M σ s) (S : Side C M σ a) {ao : AO} (hro : RO C s.heap a ao) : Rel C M { σ with H := σ.H.upd a ao } s := by
  have hH : ∀ b, b ≠ a → (σ.H.upd a ao) b = σ.H b := fun b hb => by simp [AH.upd, hb]
  refine ⟨R.keep, R.os, R.gens, R.ns, R.cells, R.cns, fun b o e => ?_, fun b hb => ⟨?_, (R.own b hb).2⟩, R.celld, R.frames, fun b hb => ?_, R.frD⟩
  · change (σ.H.upd a ao) b = some o at e
    by_cases hba : b = a
    · subst hba
      simp only [AH.upd, if_true, Option.some.injEq] at e
      subst e
      exact ⟨hro, S.base⟩
    · rw [hH b hba] at e; exact R.ho b o e
  · show (σ.H.upd a ao) b = none
    rw [hH b (fun q => S.own (q ▸ hb))]; exact (R.own b hb).1
  · show (σ.H.upd a ao) b = none
    rw [hH b (fun q => S.fr (q ▸ hb))]; exact R.frsH b hb
theorem Ext.adoptS (E : Ext M σ₀ s₀ σ s) {ao : AO} (h0 : s₀.heap.get? a = none) : Ext M σ₀ s₀ { σ with H := σ.H.upd a ao } s := by
  refine ⟨E.kept, E.stay, fun b h => ?_, E.hd⟩
  change (σ.H.upd a ao) b ≠ none at h
  by_cases hba : b = a
  · subst hba; exact .inr h0
  · rw [show (σ.H.upd a ao) b = σ.H b by simp [AH.upd, hba]] at h; exact E.new b h
end

/-! ## Names that a comprehension looks at -/
noncomputable def clos (env : Env) : List (Str × NameKind) → List (Str × Addr) → List (Str × Addr)
  | [], acc => acc
  | (n, k) :: r, acc => clos env r (if k == .free then (n, (env.cells.lookup n).getD 0) :: acc else acc)

theorem clos_eq {env : Env} : ∀ (names : List (Str × NameKind)) (acc : List (Str × Addr)), (∀ x ∈ names, x.2 = .free → ∃ c, env.cells.lookup x.1 = some c) →
    (forIn names acc fun (x : Str × NameKind) cs => (match x with
      | (name, kind) => if (kind == .free) = true then do let c ← cellOf env name; pure (ForInStep.yield ((name, c) :: cs)) else pure (ForInStep.yield cs) : Sem (ForInStep (List (Str × Addr))))) = pure (clos env names acc)
  | [], acc, _ => rfl
  | (n, k) :: r, acc, h => by
    have ih := fun acc' => clos_eq r acc' fun x hx => h x (.tail _ hx)
    rw [List.forIn_cons]
    by_cases hk : k = .free
    · subst hk
      obtain ⟨c, hc⟩ := h (n, .free) (.head _) rfl
      have e : cellOf env n = pure c := by unfold cellOf; rw [show env.cells.lookup n = some c from hc]
      show (if ((NameKind.free == NameKind.free) = true) then do let c ← cellOf env n; pure (ForInStep.yield ((n, c) :: acc)) else pure (ForInStep.yield acc)) >>= _ = _
      rw [if_pos (by decide), e, pure_bind, pure_bind]
      refine (ih _).trans ?_
      show pure (clos env r ((n, c) :: acc)) = pure (clos env r ((n, (env.cells.lookup n).getD 0) :: acc))
      rw [show env.cells.lookup n = some c from hc]; rfl
    · have e : (k == NameKind.free) = false := by simpa using hk
      show (if ((k == NameKind.free) = true) then do let c ← cellOf env n; pure (ForInStep.yield ((n, c) :: acc)) else pure (ForInStep.yield acc)) >>= _ = _
      rw [e, if_neg (by decide), pure_bind]
      refine (ih _).trans ?_
      show pure (clos env r acc) = pure (clos env r (if k == .free then _ else acc))
      rw [e]; rfl

theorem closureFor_eq {env : Env} {sc : Scope} (h : ∀ x ∈ sc.names, x.2 = .free → ∃ c, env.cells.lookup x.1 = some c) : closureFor sc env = pure (clos env sc.names []) := by
  have e := clos_eq sc.names [] h
  have q : closureFor sc env = (forIn sc.names ([] : List (Str × Addr)) fun (x : Str × NameKind) cs => (match x with
        | (name, kind) => if (kind == .free) = true then do let c ← cellOf env name; pure (ForInStep.yield ((name, c) :: cs)) else pure (ForInStep.yield cs) : Sem (ForInStep (List (Str × Addr))))) := by
    simp only [closureFor, bind_pure]
  rw [q, e]

theorem clos_mem {env : Env} : ∀ {names : List (Str × NameKind)} {acc : List (Str × Addr)}, (∀ x ∈ names, x.2 = .free → ∃ c, env.cells.lookup x.1 = some c) → (∀ x c, (x, c) ∈ acc → env.cells.lookup x = some c) →
    ∀ x c, (x, c) ∈ clos env names acc → env.cells.lookup x = some c
  | [], _, _, ha, x, c, e => ha x c e
  | (n, k) :: r, acc, h, ha, x, c, e => by
    refine clos_mem (names := r) (fun x hx => h x (.tail _ hx)) (fun y d hy => ?_) x c e
    split at hy
    · rename_i hk
      rcases List.mem_cons.mp hy with q | q
      · cases q
        obtain ⟨c', hc⟩ := h (n, k) (.head _) (by simpa using hk)
        rw [show env.cells.lookup n = some c' from hc]; rfl
      · exact ha y d q
    · exact ha y d hy
theorem clos_has {env : Env} {x : Str} : ∀ {names : List (Str × NameKind)} {acc : List (Str × Addr)}, ((x, .free) ∈ names ∨ ∃ c, (x, c) ∈ acc) → ∃ c, (x, c) ∈ clos env names acc
  | [], _, h => by
    rcases h with h | h
    · cases h
    · exact h
  | (n, k) :: r, acc, h => by
    refine clos_has (names := r) ?_
    rcases h with h | ⟨c, h⟩
    · rcases List.mem_cons.mp h with q | q
      · cases q; exact .inr ⟨_, .head _⟩
      · exact .inl q
    · exact .inr ⟨c, by split; exact .tail _ h; exact h⟩
theorem lookup_some {α : Type} {x : Str} : ∀ {l : List (Str × α)} {c : α}, (x, c) ∈ l → ∃ d, l.lookup x = some d
  | [], _, h => by cases h
  | (y, d) :: r, c, h => by
    rw [List.lookup_cons]
    cases q : x == y with
    | true => exact ⟨d, rfl⟩
    | false =>
      rcases List.mem_cons.mp h with z | z
      · cases z; simp at q
      · exact lookup_some z

section
variable {C : Cx} {M : Fm} {S : Sc} {sc : Scope}

theorem names_ok {f names : List (Str × NameKind)} (h : namesOk f names = true) : (∀ x ∈ names, x.2 = .local ∨ x.2 = .globalImplicit ∨ (x.2 = .free ∧ f.lookup x.1 = some .cell)) ∧ (names.map (·.1)).Nodup := by
  unfold namesOk at h
  simp only [Bool.and_eq_true, List.all_eq_true] at h
  refine ⟨fun x hx => ?_, nodup_of h.2⟩
  have := h.1 x hx
  simp only [Bool.or_eq_true, beq_iff_eq, Bool.and_eq_true] at this
  rcases this with (q | q) | q
  · exact .inl q
  · exact .inr (.inl q)
  · exact .inr (.inr q)

theorem relabel_fst (env : Env) : (relabel sc env).names.map (·.1) = sc.names.map (·.1) := by
  unfold relabel
  rw [List.map_map]
  refine List.map_congr_left fun x _ => ?_
  obtain ⟨n, k⟩ := x
  show (if _ then _ else _ : Str × NameKind).1 = n
  split <;> rfl

theorem relabel_cnames (F : FmOk C M) (hS : ScOk S M) : (relabel sc M.env).names = cnames S.f sc.names := by
  unfold relabel cnames
  refine List.map_congr_left fun x _ => ?_
  obtain ⟨n, k⟩ := x
  show (if (k == .free && M.env.scope.kind == .function && M.env.kindOf n == some .cell) then (n, NameKind.cell) else (n, k)) = if k == .free && S.f.lookup n == some .cell then (n, .cell) else (n, k)
  rw [F.kind, hS.1, kindOf_eq]
  simp

noncomputable def inComp (M : Fm) (sc : Scope) (L : Addr) : Fm := { M with ce := some (compEnvC sc (clos M.env sc.names []) L M.env) }

theorem fm_comp (F : FmOk C M) (hS : ScOk S M) (hk : sc.kind = .function) (hn : namesOk S.f sc.names = true) {L : Addr} (h1 : L ≠ M.env.locals) (h2 : ∀ x c, (x, c) ∈ M.env.cells → c ≠ L) (h3 : ∀ b ∈ frs M, b ≠ L)
    (hc : ∀ x, M.env.kindOf x = some .cell → ∃ c, M.env.cells.lookup x = some c) : FmOk C (inComp M sc L) ∧ ScOk ⟨S.f, some (cnames S.f sc.names)⟩ (inComp M sc L) := by
  obtain ⟨hk1, hk2⟩ := names_ok hn
  refine ⟨⟨F.kind, F.glob, F.bi, F.frame, F.above, F.nodup, F.cellsN, F.cellsA, F.cellsL, fun b hb => ?_, fun e he => ?_, fun e he x c hx => ?_, fun e he x hx => ?_⟩, hS.1, ?_⟩
  · rintro (q | q | ⟨e, he, q⟩)
    · exact F.out b hb (.inl q)
    · exact F.out b hb (.inr (.inl q))
    · cases he; exact h3 b hb q
  · cases he
    exact ⟨hk, F.glob, F.bi, F.frame, by show ((relabel sc M.env).names.map (·.1)).Nodup; rw [relabel_fst]; exact hk2, h1⟩
  · cases he; exact h2 x c hx
  · cases he
    have hx' := mem_of_lookup (show (relabel sc M.env).names.lookup x = some .cell from hx)
    unfold relabel at hx'
    obtain ⟨⟨n, k⟩, hm, e⟩ := List.mem_map.mp hx'
    dsimp only at e
    split at e
    · rename_i hcond
      simp only [Bool.and_eq_true, beq_iff_eq] at hcond
      cases e
      obtain ⟨c, hcl⟩ := clos_has (env := M.env) (acc := []) (.inl (by rw [← hcond.1.1]; exact hm))
      obtain ⟨d, hd⟩ := lookup_some hcl
      refine ⟨d, hd, clos_mem (names := sc.names) (acc := []) (fun y hy hf => ?_) (fun _ _ q => by cases q) x d (mem_of_lookup hd)⟩
      rcases hk1 y hy with q | q | ⟨_, q⟩
      · rw [q] at hf; cases hf
      · rw [q] at hf; cases hf
      · exact hc _ (by rw [kindOf_eq, ← hS.1]; exact q)
    · cases e
      rcases hk1 _ hm with q | q | ⟨q, _⟩ <;> cases q
  · show some _ = some _
    rw [← relabel_cnames F hS]; rfl
end

/-! ## Tests of a comprehension -/
noncomputable def STs (C : Cx) (T : Tab) (hk : Hook) (n : Nat) (M : Fm) : List MT → List Expr → Prop
  | [], [] => True
  | m :: ms, e :: es => ST C T hk n M m e ∧ STs C T hk n M ms es
  | _, _ => False

theorem forIn_false {env : Env} : ∀ es : List Expr, (forIn es false fun c r => if r = true then do let ok ← isTrue c env (eval c env); pure (ForInStep.yield ok) else pure (ForInStep.yield r) : Sem Bool) = pure false
  | [] => rfl
  | _ :: es => by
    rw [List.forIn_cons, if_neg (by decide), pure_bind]
    exact forIn_false es

section
variable {C : Cx} {T : Tab} {hk : Hook} {n : Nat} {M : Fm}
theorem tests_ok : ∀ (ms : List MT) (es : List Expr), STs C T hk n M ms es → ∀ (A : Around) (σ : AS) (s : Shared) (Q : Bool → AS → Prop) (X : Nat → AS → Prop), AOk M A n σ.hd → Rel C M σ s → WAll T hk ms σ Q X →
    wpAny (model C.prog C.w) A (forIn es true fun c r => if r = true then do let ok ← isTrue c M.cur (eval c M.cur); pure (ForInStep.yield ok) else pure (ForInStep.yield r)) (GoodB C M σ s Q) (Bad C M σ s X) s
  | [], [], _, A, σ, s, Q, X, _, R, w => wpAny_pure ⟨σ, R, .refl .., w⟩
  | m :: ms, e :: es, h, A, σ, s, Q, X, hA, R, w => by
    rw [List.forIn_cons, if_pos rfl]
    refine wpAny_bind (wpAny_bind (wpAny_mono (h.1 A σ s _ X hA R w) (fun b s₁ g => ?_) fun _ _ b => b))
    obtain ⟨σ₁, R₁, E₁, w₁⟩ := g
    refine wpAny_pure ?_
    cases b with
    | false =>
      show wpAny _ A (forIn es false _) _ _ s₁
      rw [forIn_false]
      exact wpAny_pure ⟨σ₁, R₁, E₁, w₁⟩
    | true =>
      have hA₁ : AOk M A n σ₁.hd := by rw [E₁.hd]; exact hA
      exact wpAny_mono (tests_ok ms es h.2 A σ₁ s₁ Q X hA₁ R₁ w₁) (fun b s₂ ⟨σ₂, R₂, E₂, q⟩ => ⟨σ₂, R₂, E₁.trans E₂, q⟩) fun _ _ b => b.after E₁
  | [], _ :: _, h, _, _, _, _, _, _, _, _ => h.elim
  | _ :: _, [], h, _, _, _, _, _, _, _, _ => h.elim
end

/-! ## A comprehension's turns -/
section
variable {prog : Program} {w : World} {A : Around} {R : Result → Shared → Prop} {s : Shared}
noncomputable abbrev noE : Value → Shared → Prop := fun _ _ => False
theorem compLoop_any {elt target iter : Expr} {ifs : List Expr} {scope : Scope} {pos : Pos} {it acc : Value} {env : Env} (I : Nat → Shared → Prop)
    (turn : ∀ n s, I n s → wpAny (model prog w) A (pyNext it) (fun r s₁ => match r with
      | none => R (.ok .next) s₁
      | some v => wpAny (model prog w) A (letOwnedTupleGo target it v) (fun _ s₁' => wpAny (model prog w) A (assign target env v) (fun _ s₂ =>
          wpAny (model prog w) A (forIn ifs true fun c r => if r = true then do let ok ← isTrue c env (eval c env); pure (ForInStep.yield ok) else pure (ForInStep.yield r)) (fun ok s₃ =>
            if ok = true then wpAny (model prog w) A (eval elt env) (fun x s₄ =>
              wpAny (model prog w) A (call (.builtin "list.append") [acc, x]) (fun _ s₅ => ∃ m, m < n ∧ I m s₅) noE s₄) noE s₃
            else ∃ m, m < n ∧ I m s₃) noE s₂) noE s₁') noE s₁) noE s)
    (n : Nat) (h : I n s) :
    codeAny (model prog w) A (.compLoop (.ListComp elt [⟨target, iter, ifs, 0⟩] scope pos) 0 it acc env) R s := by
  refine codeAny_loop rfl I (fun n s hI => ?_) n h
  show wpAny _ A ((compTurn (.ListComp elt [⟨target, iter, ifs, 0⟩] scope pos) 0 it acc env).onRaise (fun x => do noteFrame x env; theTreesLotGoes x)) _ _ s
  refine wpAny_noted ?_
  rw [compTurn_list]
  refine wpAny_bind (wpAny_standAt (wpAny_bind (wpAny_mono (turn n s hI) (fun r s₁ h₁ => ?_) fun _ _ h' => h'.elim)))
  cases r with
  | none => exact wpAny_pure h₁
  | some v =>
    refine wpAny_bind (wpAny_mono h₁ (fun _ s₁' h₁' => ?_) fun _ _ h' => h'.elim)
    refine wpAny_bind (wpAny_mono h₁' (fun _ s₂ h₂ => wpAny_bind (wpAny_mono h₂ (fun ok s₃ h₃ => ?_) fun _ _ h' => h'.elim)) fun _ _ h' => h'.elim)
    cases ok with
    | false => exact wpAny_pure ⟨rfl, h₃⟩
    | true =>
      exact wpAny_bind (wpAny_bind (wpAny_mono h₃ (fun x s₄ h₄ => wpAny_bind (wpAny_mono h₄ (fun _ s₅ h₅ => wpAny_pure (wpAny_pure ⟨rfl, h₅⟩)) fun _ _ h' => h'.elim)) fun _ _ h' => h'.elim))
end

section
variable {C : Cx} {s : Shared} {A : Around}
theorem append_raw {D : Addr} {ws : List Value} {k : Nat} {u : Value} (hw : IsL s.heap D ws.toArray k) (hl : ws.length ≤ 1000000) {Q : Value → Shared → Prop} {E : Value → Shared → Prop}
    (h : ∀ h' k', IsL h' D (ws ++ [u]).toArray k' → Heap.SameBut D s.heap h' → Q .none { s with heap := h' }) : wpAny (model C.prog C.w) A (call (.builtin "list.append") [.ref D, u]) Q E s := by
  obtain ⟨k', hk'⟩ := isL_update hw (fun xs => xs.push u) (ws ++ [u]) (by simp)
  have hz : sizeLine = 16777216 := sizeLine_eq
  refine call_meets PySem.F.slot_list_append ⟨_, hw, rfl⟩ PySem.F.entry_list_append (PySem.F.args_list_append_2 _ _) (list_append D ws.toArray k u (by rw [List.size_toArray]; omega)) ⟨hw, ?_⟩
  exact h _ k' hk' (.update ..)
end
end Mine
end
section
open PySem
open PyProof.Rows
namespace Mine
/-! ## Dicts with names as keys -/
theorem isKey_of {k : Nat} {c : Const} (h : isKey k c = true) : c = .str (kyName k) ∧ k ≤ 12 := by
  cases c <;> first | (exact absurd h Bool.false_ne_true) | skip
  have := ky_of (beq_iff_eq.mp h)
  exact ⟨by rw [this.1], this.2⟩
theorem merged_new : ∀ (ps acc : List (Str × Value)), ((acc ++ ps).map (·.1)).Nodup → merged acc ps = acc ++ ps
  | [], acc, _ => (List.append_nil acc).symm
  | p :: ps, acc, h => by
    have hn : p.1 ∉ acc.map (·.1) := fun q => by
      rw [List.map_append, List.nodup_append] at h
      exact h.2.2 _ q _ (List.mem_map_of_mem (.head _)) rfl
    have e : stored acc p.1 p.2 = acc ++ [p] := by
      unfold stored
      rw [if_neg]
      intro q
      obtain ⟨x, h1, h2⟩ := List.any_eq_true.mp q
      exact hn (List.mem_map.mpr ⟨x, h1, of_decide_eq_true h2⟩)
    show merged (stored acc p.1 p.2) ps = _
    rw [e, merged_new ps (acc ++ [p]) (by rw [List.append_assoc]; exact h), List.append_assoc]
    rfl
section
variable {C : Cx} {T : Tab} {hk : Hook} {n : Nat} {M : Fm} {h : Heap}
theorem rps_mem : ∀ {ps : List (Str × Value)} {kvs : List (Nat × AV)} {x : Str}, RPs C h ps kvs → x ∈ ps.map (·.1) → ∃ k, k ∈ kvs.map (·.1) ∧ x = kyName k ∧ k ≤ 12
  | [], [], _, _, hx => by cases hx
  | p :: ps, q :: qs, x, y, hx => by
    rcases List.mem_cons.mp hx with z | z
    · exact ⟨q.1, .head _, z.trans y.1.1, y.1.2.1⟩
    · obtain ⟨k, h1, h2⟩ := rps_mem y.2 z
      exact ⟨k, .tail _ h1, h2⟩
  | [], _ :: _, _, y, _ => y.elim
  | _ :: _, [], _, y, _ => y.elim
theorem rps_nodup : ∀ {ps : List (Str × Value)} {kvs : List (Nat × AV)}, RPs C h ps kvs → (kvs.map (·.1)).Nodup → (ps.map (·.1)).Nodup
  | [], [], _, _ => List.nodup_nil
  | p :: ps, q :: qs, y, hn => by
    rw [List.map_cons, List.nodup_cons] at hn ⊢
    refine ⟨fun z => ?_, rps_nodup y.2 hn.2⟩
    obtain ⟨k, h1, h2, h3⟩ := rps_mem y.2 z
    exact hn.1 (ky_inj h3 y.1.2.1 (h2.symm.trans y.1.1) ▸ h1)
  | [], _ :: _, y, _ => y.elim
  | _ :: _, [], y, _ => y.elim

/-- a key is read -/
theorem se_key {o : ME} {k : Nat} {o' : Expr} {i : Nat} {p pos : Pos} (hk12 : k ≤ 12) (ho : SE C T hk n M o o') : SE C T hk n M (.key o k) (.Subscript o' (.Constant (.str (kyName k)) i p) pos) := by
  intro A σ s Q X hA R w
  refine Subscript_ (ho.then hA R w fun v av σ₁ s₁ R₁ E₁ r₁ w₁ hA₁ => Calls.Constant_str ?_)
  refine byc fun no => ?_
  cases av with
  | dct d =>
    refine no ?_; clear no
    obtain rfl : v = .ref d := r₁
    obtain ⟨kvs, hkv, w₁⟩ := need_of w₁
    obtain ⟨av, hav, q⟩ := need_of w₁
    obtain ⟨ps, hd, hp, _⟩ := R₁.dct hkv
    obtain ⟨v, hv, rv⟩ := rps_get hp hk12 hav
    refine tail_any (s := { s₁ with toks := s₁.toks + 1 }) hd.typeIs slot_dict_getitem.lookup (wpAny_getItem_of (knd := strKind C.prog C.w) (s := { s₁ with toks := s₁.toks + 1 }) (strKind_is ..) hd.mapOf hv ?_) rfl
    exact Good.after E₁ (.keeps R₁ (fun _ _ e => e) rv q)
  | _ => exact False.elim w₁

noncomputable def SDs (C : Cx) (T : Tab) (hk : Hook) (n : Nat) (M : Fm) : List ME → List Expr → Prop
  | [], [] => True
  | m :: ms, e :: es => SE C T hk n M m e ∧ SDs C T hk n M ms es
  | [], _ :: _ => False
  | _ :: _, [] => False
noncomputable def prs (env : Env) (pos : Pos) : List (Option Expr) → List Expr → List (Sem Value × Sem Value)
  | some k :: ks, v :: vs => (eval k env, do let x ← eval v env; standAt pos; pure x) :: prs env pos ks vs
  | _, _ => []
theorem prs_shape {env : Env} {pos : Pos} : ∀ {ks : List Nat} {ms : List ME} {keys : List (Option Expr)} {vals : List Expr}, keysIn ks keys = true → SDs C T hk n M ms vals → ks.length = ms.length →
    (evalEachOpt keys env).zip ((evalEach vals env).map fun v => do let x ← v; standAt pos; pure x) = (prs env pos keys vals).map (fun p => (some p.1, p.2)) ∧ (prs env pos keys vals).length = ks.length
  | [], [], [], [], _, _, _ => ⟨rfl, rfl⟩
  | k :: ks, m :: ms, some e :: keys, v :: vals, hk, hs, hl => by
    obtain ⟨h1, h2⟩ := prs_shape (env := env) (pos := pos) (ands hk).2 hs.2 (Nat.succ.inj hl)
    exact ⟨congrArg (_ :: ·) h1, congrArg (· + 1) h2⟩
  | _ :: _, _, none :: _, _, hk, _, _ => absurd hk Bool.false_ne_true
  | [], _, _ :: _, _, hk, _, _ => absurd hk Bool.false_ne_true
  | _ :: _, _, [], _, hk, _, _ => absurd hk Bool.false_ne_true
  | _ :: _, [], _, _, _, _, hl => nomatch hl
  | [], _ :: _, _, _, _, _, hl => nomatch hl
  | _, [], _, _ :: _, _, hs, _ => hs.elim
  | _, _ :: _, _, [], _, hs, _ => hs.elim

inductive GoodP (C : Cx) (M : Fm) (σ : AS) (s : Shared) (d : Addr) (od : Obj) (ks : List Nat) (Q : List AV → AS → Prop) (vs : List (Value × Value)) (s' : Shared) : Prop
  | mk (as : List AV) (σ' : AS) (ps : List (Str × Value)) (r : Rel C M σ' s') (e : Ext M σ s σ' s') (sd : Side C M σ' d) (hd : s'.heap.get? d = some od) (hc : Carries (strKind C.prog C.w) vs ps) (hp : RPs C s'.heap ps (ks.zip as)) (q : Q as σ') : GoodP C M σ s d od ks Q vs s'
theorem pairs_ok {d : Addr} {od : Obj} {pos : Pos} : ∀ (ks : List Nat) (ms : List ME) (keys : List (Option Expr)) (vals : List Expr), keysIn ks keys = true → SDs C T hk n M ms vals → ks.length = ms.length →
    ∀ (A : Around) (σ : AS) (s : Shared) (Q : List AV → AS → Prop) (X : Nat → AS → Prop), AOk M A n σ.hd → Rel C M σ s → Side C M σ d → s.heap.get? d = some od → WEs T hk ms σ Q X →
    wpAny (model C.prog C.w) A (evalPairs (prs M.cur pos keys vals)) (GoodP C M σ s d od ks Q) (Bad C M σ s X) s
  | [], [], [], [], _, _, _, A, σ, s, Q, X, hA, R, S, hd, w => evalPairs_nil ⟨[], σ, [], R, .refl .., S, hd, trivial, trivial, w⟩
  | k :: ks, m :: ms, some e :: keys, v :: vals, hk, hs, hl, A, σ, s, Q, X, hA, R, S, hd, w => by
    have hks := (ands hk).2
    show wpAny _ A (evalPairs ((eval e M.cur, _) :: prs M.cur pos keys vals)) _ _ s
    apply onConst_ind (ands hk).1
    intro c i p g
    obtain ⟨rfl, hk12⟩ := isKey_of g
    refine evalPairs_cons (Calls.Constant_str ?_)
    have R0 := R.toks (s.toks + 1)
    have E0 : Ext M σ s σ { s with toks := s.toks + 1 } := .keeps fun _ _ e => e
    refine wpAny_bind (wpAny_mono (hs.1 A σ _ _ X hA R0 w) (fun v s₁ g => ?_) fun _ _ b => b.after E0)
    obtain ⟨av, σ₁, R₁, E₁, r₁, w₁⟩ := g
    have hA₁ : AOk M A n σ₁.hd := by rw [E₁.hd]; exact hA
    refine wpAny_bind (wpAny_standAt (wpAny_pure ?_))
    obtain ⟨S₁, hd₁⟩ := S.ext E₁ hd
    have E' := E0.trans E₁
    refine wpAny_mono (pairs_ok ks ms keys vals hks hs.2 (Nat.succ.inj hl) A σ₁ s₁ _ X hA₁ R₁ S₁ hd₁ w₁) (fun vs s₂ g => ?_) fun _ _ b => b.after E'
    obtain ⟨as, σ₂, ps, R₂, E₂, S₂, hd₂, hc, hp, q⟩ := g
    exact ⟨av :: as, σ₂, (kyName k, v) :: ps, R₂, E'.trans E₂, S₂, hd₂, ⟨strKind_is .., rfl, hc⟩, ⟨⟨rfl, hk12, r₁.mono (E₂.im R₁)⟩, hp⟩, q⟩
  | _ :: _, _, none :: _, _, hk, _, _, _, _, _, _, _, _, _, _, _, _ => absurd hk Bool.false_ne_true
  | [], _, _ :: _, _, hk, _, _, _, _, _, _, _, _, _, _, _, _ => absurd hk Bool.false_ne_true
  | _ :: _, _, [], _, hk, _, _, _, _, _, _, _, _, _, _, _, _ => absurd hk Bool.false_ne_true
  | _ :: _, [], _, _, _, _, hl, _, _, _, _, _, _, _, _, _, _ => nomatch hl
  | [], _ :: _, _, _, _, _, hl, _, _, _, _, _, _, _, _, _, _ => nomatch hl
  | _, [], _, _ :: _, _, hs, _, _, _, _, _, _, _, _, _, _, _ => hs.elim
  | _, _ :: _, _, [], _, hs, _, _, _, _, _, _, _, _, _, _, _ => hs.elim
theorem se_dict {ks : List Nat} {ms : List ME} {keys : List (Option Expr)} {vals : List Expr} {pos : Pos} (F : FmOk C M) (hl : ks.length = ms.length) (h15 : ks.length ≤ 15) (hne : (!ks.isEmpty) = true) (hk' : keysIn ks keys = true) (hs : SDs C T hk n M ms vals) :
    SE C T hk n M (.dict ks ms) (.Dict keys vals pos) := by
  intro A σ s Q X hA R w
  obtain ⟨hsh, hlen⟩ := prs_shape (env := M.cur) (pos := pos) hk' hs hl
  refine wpAny_Dict_pairs (knd := strKind C.prog C.w) (pairs := prs M.cur pos keys vals) hsh (fun e => ?_) (by omega) ?_
  · rw [e] at hlen
    cases ks with
    | nil => exact absurd hne Bool.false_ne_true
    | cons => cases hlen
  have nd : s.heap.get? s.heap.objs.size = none := get_none_of_ge (Nat.le_refl _)
  have k1 : ∀ b o, s.heap.get? b = some o → (s.heap.push { cls := .type "dict", data := .dict #[] }).get? b = some o := fun b o e => Heap.get?_push_of_some _ e
  have E0 : Ext M σ s σ { s with heap := s.heap.push { cls := .type "dict", data := .dict #[] } } := .keeps k1
  refine wpAny_mono (pairs_ok (d := s.heap.objs.size) ks ms keys vals hk' hs hl A σ _ _ X hA (R.keeps k1) (.new R nd) (Heap.get?_push_size _ rfl) w) (fun vs s₁ g => ?_) fun _ _ b => b.after E0
  obtain ⟨as, σ₁, ps, R₁, E₁, S₁, hd₁, hc, hp, hlas, hnd, _, q⟩ := g
  refine ⟨ps, hc, ⟨_, #[], 0, hd₁, ⟨rfl, rfl, rfl⟩, rfl, fun _ he => by simp at he, Pairs.nil, List.nodup_nil⟩, fun h' hm sb => ?_⟩
  have hz : (ks.zip as).map (·.1) = ks := List.map_fst_zip (Nat.le_of_eq hlas)
  rw [merged_new ps [] (by rw [List.nil_append]; exact rps_nodup hp (by rw [hz]; exact hnd)), List.nil_append] at hm
  have hmut : ∀ o, s₁.heap.get? s.heap.objs.size = some o → Mut o := fun o e => by rw [hd₁] at e; cases e; exact .dict rfl
  have im : Im s₁.heap h' := .extBut sb.extBut hmut
  have R₂ := R₁.side F S₁ sb.extBut hmut (s₁.toks + vs.length)
  have E₂ := (E0.trans E₁).side sb.extBut nd (s₁.toks + vs.length)
  exact ⟨.dct s.heap.objs.size, _, R₂.adoptS (ao := .dct (ks.zip as)) S₁ ⟨ps, hm, hp.mono im, by rw [← List.length_map (f := (·.1)), hz]; omega⟩, E₂.adoptS nd, rfl, q _ S₁.H⟩
end
end Mine
end
section
open PySem
open PyProof.Rows
namespace Mine

section
variable {C : Cx} {T : Tab} {hk : Hook} {n : Nat} {M : Fm} {S : Sc}

theorem own_inComp {sc : Scope} {L b : Addr} (h : Own (inComp M sc L) b) : Own M b ∨ b = L := by
  rcases h with q | q | ⟨e, he, q⟩
  · exact .inl (.inl q)
  · exact .inl (.inr (.inl q))
  · cases he; exact .inr q

theorem Ext.inner {sc : Scope} {L : Addr} {σ σ₁ σ₂ : AS} {s s₁ s₂ : Shared} (E : Ext M σ s σ₁ s₁) (E' : Ext (inComp M sc L) σ₁ s₁ σ₂ s₂) (hL : s.heap.get? L = none) : Ext M σ s σ₂ s₂ := by
  have hn : ∀ b o, s.heap.get? b = some o → ¬ Own M b → ¬ Own (inComp M sc L) b := fun b o e hb q => by
    rcases own_inComp q with q | q
    · exact hb q
    · rw [q, hL] at e; cases e
  refine ⟨fun b o e no nH => ?_, fun b o e => ?_, fun a h => ?_, E'.hd.trans E.hd⟩
  · have n1 : σ₁.H b = none := by
      cases q : σ₁.H b with
      | none => rfl
      | some v =>
        rcases E.new b (by rw [q]; simp) with z | z
        · exact absurd nH z
        · rw [z] at e; cases e
    obtain ⟨k1, sl, k2⟩ := E.kept b o e no nH
    obtain ⟨_, sl', k4⟩ := E'.kept b _ k2 (hn b o e no) n1
    exact ⟨fun hb => (E'.kept b o (k1 hb) (hn b o e no) n1).1 hb, sl', k4⟩
  · obtain ⟨o', e'⟩ := E.stay b o e
    exact E'.stay b o' e'
  · rcases E'.new a h with z | z
    · exact E.new a z
    · right
      cases q : s.heap.get? a with
      | none => rfl
      | some o =>
        obtain ⟨o', e'⟩ := E.stay a o q
        rw [z] at e'; cases e'

theorem lk_replicate : ∀ (n i : Nat), lk (List.replicate n none) i = none
  | 0, _ => rfl
  | _ + 1, 0 => rfl
  | n + 1, i + 1 => lk_replicate n i

theorem cell_of (R : Rel C M σ s) {x : Str} (h : M.env.kindOf x = some .cell) : ∃ c, M.env.cells.lookup x = some c := by
  obtain ⟨i, hi⟩ := List.mem_iff_getElem?.mp (mem_of_lookup (show M.env.scope.names.lookup x = some .cell from h))
  obtain ⟨c, _, e, _⟩ := R.cells i x hi
  exact ⟨c, e⟩

theorem Rel.inner {sc : Scope} {L : Addr} {σ : AS} {s : Shared} (R : Rel C M σ s) {m : Str → Option Value} (hL : s.heap.Ns L m) (S : Side C M σ L) (nc : Nat) : Rel C (inComp M sc L) { σ with cv := List.replicate nc none } s :=
  ⟨R.keep, R.os, R.gens, R.ns, R.cells, fun e he => by cases he; exact ⟨m, hL, fun i x av _ e2 => by rw [show lk (List.replicate nc none) i = none from lk_replicate nc i] at e2; cases e2⟩, R.ho,
    fun b hb => by
      rcases own_inComp hb with q | q
      · exact R.own b q
      · rw [q]; exact ⟨S.H, S.base⟩, R.celld, R.frames, R.frsH, R.frD⟩
theorem Rel.outer {sc : Scope} {L : Addr} {σ : AS} {s : Shared} (R : Rel C (inComp M sc L) σ s) (hce : M.ce = none) (cv : List (Option AV)) : Rel C M { σ with cv := cv } s :=
  ⟨R.keep, R.os, R.gens, R.ns, R.cells, fun e he => (by rw [hce] at he; cases he), R.ho, fun b hb => R.own b (by
    rcases hb with q | q | ⟨e, he, _⟩
    · exact .inl q
    · exact .inr (.inl q)
    · rw [hce] at he; cases he), R.celld, R.frames, R.frsH, R.frD⟩

/-- between a comprehension's turns -/
inductive CompI (C : Cx) (M M' : Fm) (σ₁ : AS) (s₁ : Shared) (vs : List AV) (iv : AV) (I D : Addr) (K : List AV → List AV → AS → Prop) (m : Nat) (s₅ : Shared) : Prop
  | mk (σ₅ : AS) (i : Nat) (acc : List AV) (ws : List Value) (k : Nat) (hm : m = vs.length - i) (R : Rel C M' σ₅ s₅) (E : Ext M σ₁ s₁ σ₅ s₅) (it : Iter C s₅.heap I i iv) (SI : Side C M' σ₅ I) (SD : Side C M' σ₅ D)
    (hL : IsL s₅.heap D ws.toArray k) (hr : RVs C s₅.heap ws acc) (ha : acc.length ≤ 1000000) (w : K (vs.drop i) acc σ₅) : CompI C M M' σ₁ s₁ vs iv I D K m s₅

/-- a comprehension, its list handed on to what uses it -/
theorem comp_ok {nc : Nat} {elt : ME} {t : Tgt} {it : ME} {ifs : List MT} {elt' t' it' : Expr} {ifs' : List Expr} {sc : Scope} {pos ppos : Pos} {use : Option (Value → Sem Unit)}
    (F : FmOk C M) (hS : ScOk S M) (hce : M.ce = none) (hk' : sc.kind = .function) (hn : namesOk S.f sc.names = true)
    (ht : tgtOk ⟨S.f, some (cnames S.f sc.names)⟩ t t' = true) (hset : ∀ x, foldedSetIterable it' M.env x = pure x) (hit : SE C T hk n M it it')
    (helt : ∀ M', FmOk C M' → ScOk ⟨S.f, some (cnames S.f sc.names)⟩ M' → SE C T hk n M' elt elt') (hifs : ∀ M', FmOk C M' → ScOk ⟨S.f, some (cnames S.f sc.names)⟩ M' → STs C T hk n M' ifs ifs')
    {A : Around} {σ : AS} {s : Shared} {Q : AV → AS → Prop} {X : Nat → AS → Prop} (hA : AOk M A n σ.hd) (R : Rel C M σ s) (w : WE T hk (.comp nc elt t it ifs) σ Q X) {P : Value → Shared → Prop}
    (k : match use with
      | none => ∀ D σ₁ s₁, Rel C M σ₁ s₁ → Ext M σ s σ₁ s₁ → Q (.lst D) σ₁ → P (.ref D) s₁
      | some u => ∀ D σ₁ s₁, Rel C M σ₁ s₁ → Ext M σ s σ₁ s₁ → Q (.lst D) σ₁ → wpAny (model C.prog C.w) A (u (.ref D)) (fun _ s₂ => ∃ σ₂, Rel C M σ₂ s₂ ∧ Ext M σ₁ s₁ σ₂ s₂ ∧ ∀ s₃, Rel C M σ₂ s₃ → Ext M σ s σ₂ s₃ → P .none s₃) (Bad C M σ s X) s₁) :
    wpAny (model C.prog C.w) A (comprehension (.ListComp elt' [⟨t', it', ifs', 0⟩] sc pos) sc M.env ppos (newList []) false (eval it' M.env) use) P (Bad C M σ s X) s := by
  obtain ⟨hk1, hk2⟩ := names_ok hn
  have hfree : ∀ x ∈ sc.names, x.2 = .free → ∃ c, M.env.cells.lookup x.1 = some c := fun x hx hf => by
    rcases hk1 x hx with q | q | ⟨_, q⟩
    · rw [q] at hf; cases hf
    · rw [q] at hf; cases hf
    · exact cell_of R (by rw [kindOf_eq, ← hS.1]; exact q)
  have hnames : ∀ x ∈ sc.names, x.2 = .local → sc.names.lookup x.1 = some .local := fun x hx hl => by
    obtain ⟨i, hi⟩ := List.mem_iff_getElem?.mp hx
    exact lookup_of_idx hk2 (show sc.names[i]? = some (x.1, .local) by rw [hi, ← hl])
  have hcell : ∀ x ∈ sc.names, x.2 ≠ .cell := fun x hx q => by rcases hk1 x hx with z | z | ⟨z, _⟩ <;> rw [z] at q <;> cases q
  refine wpAny_comprehension_free (cl := clos M.env sc.names []) rfl hset (closureFor_eq hfree) hk' hnames ?_
  have hit' := hit.then hA R w (P := fun x s₁ => wpAny (model C.prog C.w) A (pyIter x) (fun it s₂ => wpAny (model C.prog C.w) A (newList []) (fun acc s₃ =>
      wpAny (model C.prog C.w) A (newFunctionEnv sc M.env.globals (clos M.env sc.names []) [] M.env.qual none .none (some M.env)) (fun cenv s₄ =>
        codeAny (model C.prog C.w) A (.compStart (.ListComp elt' [⟨t', it', ifs', 0⟩] sc pos) 0 it acc { cenv with scope := relabel sc M.env }) (compPost (model C.prog C.w) A (Bad C M σ s X) use P acc cenv.locals) s₄) (Bad C M σ s X) s₃) (Bad C M σ s X) s₂) (Bad C M σ s X) s₁)
  rw [cur_none hce] at hit'
  refine hit' fun v iv σ₁ s₁ R₁ E₁ r₁ w₁ hA₁ => ?_
  obtain ⟨hd, w₁⟩ := w₁
  obtain ⟨vs, hvs, w₁⟩ := need_of w₁
  refine iter_start R₁ r₁ hvs fun I h₂ hI kp₂ it₂ => ?_
  refine wpAny_newObj_type (wpAny_newFunctionEnv hcell (by intro y hy; simp at hy) (fun h₄ hns hsb => ?_) hk')
  dsimp only at hns hsb ⊢
  -- where the new objects stand
  have hh : A.handled = none := hA₁.handled hd
  have hID : I ≠ h₂.objs.size := by obtain ⟨o, _, e, _⟩ := it₂.obj; exact Nat.ne_of_lt (Heap.lt_size e)
  generalize hH3 : h₂.push { cls := .type "list", dict := none, data := .seq ([] : List Value).toArray } = H3 at hns hsb ⊢
  have hsz : H3.objs.size = h₂.objs.size + 1 := by rw [← hH3, Heap.size_push]
  have hIL : I ≠ H3.objs.size := by obtain ⟨o, _, e, _⟩ := it₂.obj; rw [hsz]; exact Nat.ne_of_lt (Nat.lt_succ_of_lt (Heap.lt_size e))
  have hDL : h₂.objs.size ≠ H3.objs.size := by rw [hsz]; exact Nat.ne_of_lt (Nat.lt_succ_self _)
  have k34 : ∀ b o, H3.get? b = some o → h₄.get? b = some o := fun b o e => hsb.extBut b o (Nat.ne_of_lt (Heap.lt_size e)) (Heap.get?_push_of_some _ e)
  have k23 : ∀ b o, h₂.get? b = some o → H3.get? b = some o := fun b o e => hH3 ▸ Heap.get?_push_of_some _ e
  have k24 : ∀ b o, h₂.get? b = some o → h₄.get? b = some o := fun b o e => k34 b o (k23 b o e)
  have k14 : ∀ b o, s₁.heap.get? b = some o → h₄.get? b = some o := fun b o e => k24 b o (kp₂ b o e)
  have fresh : ∀ a, h₂.objs.size ≤ a → s₁.heap.get? a = none := fun a ha => by
    cases q : s₁.heap.get? a with
    | none => rfl
    | some o => exact absurd (Heap.lt_size (kp₂ a o q)) (Nat.not_lt.mpr ha)
  have hD1 := fresh h₂.objs.size (Nat.le_refl _)
  have hL1 := fresh H3.objs.size (by (clear hID hIL hDL; omega))
  generalize hDe : h₂.objs.size = D at *
  generalize hLe : H3.objs.size = L at *
  have it₄ : Iter C h₄ I 0 iv := it₂.keep (fun o e => k24 I o e) (.keeps k24)
  have hD4 : IsL h₄ D ([] : List Value).toArray 0 := k34 _ _ (by rw [← hH3, ← hDe]; exact Heap.get?_push_size _ rfl)
  -- the frame inside
  have R₄ : Rel C M σ₁ { s₁ with heap := h₄, toks := s₁.toks + ([] : List (Str × Value)).length } := R₁.keeps k14
  have SL : Side C M σ₁ L := .new R₁ hL1
  have SD : Side C M σ₁ D := .new R₁ hD1
  have SI : Side C M σ₁ I := .new R₁ hI
  have E₄ : Ext M σ₁ s₁ { σ₁ with cv := List.replicate nc none } { s₁ with heap := h₄, toks := s₁.toks + ([] : List (Str × Value)).length } :=
    let E := Ext.keeps (M := M) (σ := σ₁) (s := s₁) (s' := { s₁ with heap := h₄, toks := s₁.toks + ([] : List (Str × Value)).length }) k14; ⟨E.kept, E.stay, E.new, E.hd⟩
  have R₄' : Rel C (inComp M sc L) { σ₁ with cv := List.replicate nc none } { s₁ with heap := h₄, toks := s₁.toks + ([] : List (Str × Value)).length } := R₄.inner hns SL nc
  obtain ⟨F', hS'⟩ := fm_comp F hS hk' hn (L := L) (fun q => SL.own (.inl q)) (fun x c hx q => SL.own (.inr (.inl ⟨x, q ▸ hx⟩))) (fun b hb q => SL.fr (q ▸ hb)) fun x hx => cell_of R hx
  have hcur : (inComp M sc L).cur = compEnvC sc (clos M.env sc.names []) L M.env := rfl
  have sideIn : ∀ {σ' : AS} {a : Addr}, Side C M σ' a → a ≠ L → Side C (inComp M sc L) σ' a := fun S ne => ⟨S.H, fun q => by
    rcases own_inComp q with q | q
    · exact S.own q
    · exact ne q, S.fr, S.base⟩
  -- the turns
  have loop : codeAny (model C.prog C.w) A (.compLoop (.ListComp elt' [⟨t', it', ifs', 0⟩] sc pos) 0 (.ref I) (.ref D) (compEnvC sc (clos M.env sc.names []) L M.env))
      (compPost (model C.prog C.w) A (Bad C M σ s X) use P (.ref D) L) { s₁ with heap := h₄, toks := s₁.toks + ([] : List (Str × Value)).length } := by
    refine compLoop_any (CompI C M (inComp M sc L) σ₁ s₁ vs iv I D fun r acc σ₅ =>
      compW (fun σ₂ => src σ₂.H iv = some vs)
        (fun v σ₂ k => asgW t v σ₂ fun σ₃ => WAll T hk ifs σ₃ (fun b σ₄ => if b then WE T hk elt σ₄ (fun x σ₅ => k (some x) σ₅) noX else k none σ₄) noX)
        r acc σ₅ (fun acc σ₂ => ∀ a, σ₂.H a = none → Q (.lst a) { σ₂ with cv := σ₁.cv, H := σ₂.H.upd a (.lst acc) })) ?_ vs.length
      ⟨{ σ₁ with cv := List.replicate nc none }, 0, [], [], 0, by simp, R₄', E₄, it₄, sideIn ⟨SI.H, SI.own, SI.fr, SI.base⟩ hIL, sideIn ⟨SD.H, SD.own, SD.fr, SD.base⟩ hDL, hD4, trivial, by simp, by simpa using w₁⟩
    rintro m s₅ ⟨σ₅, i, acc, ws, kk, hm, R₅, E₅, it₅, SI₅, SD₅, hL₅, hr₅, ha₅, w₅⟩
    have hd₅ : σ₅.hd = false := E₅.hd.trans hd
    have hok : src σ₅.H iv = some vs := by
      cases q : vs.drop i with
      | nil => rw [q] at w₅; exact w₅.1
      | cons x r => rw [q] at w₅; exact w₅.1
    have hA₅ : AOk (inComp M sc L) A n σ₅.hd := ⟨hA.frames, hA.depth, hA.units, fun _ => hh⟩
    refine iter_next hh R₅ it₅ hok (fun hv h' hx => ?_) fun av v h' tk hv rv hx it₆ => ?_
    · -- the end
      have hdrop : vs.drop i = [] := List.drop_eq_nil_of_le (by simpa using hv)
      rw [hdrop] at w₅
      obtain ⟨_, q⟩ := w₅
      have R₆ := R₅.side F' SI₅ hx (fun o e => it₅.mut e) s₅.toks
      have E₆ := E₅.side hx hI s₅.toks
      have hL₆ : IsL h' D ws.toArray kk := hx D _ (Ne.symm hID) hL₅
      have hr₆ : RVs C h' ws acc := hr₅.mono (.extBut hx fun o e => it₅.mut e)
      obtain ⟨m', hn', _⟩ := R₆.cns _ rfl
      have hn' : Heap.Ns h' L m' := hn'
      have R₇ : Rel C M { σ₅ with cv := σ₁.cv } { s₅ with heap := h' } := R₆.outer hce σ₁.cv
      have out : ∀ {a : Addr}, Side C (inComp M sc L) σ₅ a → Side C M { σ₅ with cv := σ₁.cv } a := fun S => ⟨S.H, fun q => S.own (by
        rcases q with q | q | ⟨e, he, _⟩
        · exact .inl q
        · exact .inr (.inl q)
        · rw [hce] at he; cases he), S.fr, S.base⟩
      have hLH := R₅.own L (.inr (.inr ⟨_, rfl, rfl⟩))
      have SL₇ : Side C M { σ₅ with cv := σ₁.cv, H := σ₅.H.upd D (.lst acc) } L := ⟨by show (σ₅.H.upd D _) L = none; simp [AH.upd, Ne.symm hDL, hLH.1], SL.own, SL.fr, SL.base⟩
      have R₈ : Rel C M { σ₅ with cv := σ₁.cv, H := σ₅.H.upd D (.lst acc) } { s₅ with heap := h' } := R₇.adoptS (out SD₅) ⟨ws, kk, hL₆, hr₆, ha₅⟩
      have E₇ : Ext M σ₁ s₁ { σ₅ with cv := σ₁.cv } { s₅ with heap := h' } := ⟨E₆.kept, E₆.stay, E₆.new, E₆.hd⟩
      have E₈ : Ext M σ₁ s₁ { σ₅ with cv := σ₁.cv, H := σ₅.H.upd D (.lst acc) } { s₅ with heap := h' } := E₇.adoptS hD1
      have q' := q D SD₅.H
      have hLs : s.heap.get? L = none := E₁.none_of hL1
      cases use with
      | none =>
        refine ⟨m', hn', fun h'' hs'' => ?_⟩
        exact k D _ _ (R₈.side F SL₇ hs''.extBut (fun o e => Ns.mut hn' e) s₅.toks) ((E₁.trans E₈).side hs''.extBut hLs s₅.toks) q'
      | some u =>
        refine wpAny_mono (k D _ _ R₈ (E₁.trans E₈) q') (fun _ s₉ g => ?_) fun _ _ b => b
        obtain ⟨σ₉, R₉, E₉, kk⟩ := g
        obtain ⟨oL, _, _, eL, _⟩ := id hn'
        obtain ⟨SL₉, eL'⟩ := SL₇.ext E₉ eL
        have hn₉ : s₉.heap.Ns L m' := Ns.keeps1 hn' fun o e => by rw [eL] at e; cases e; exact eL'
        exact ⟨m', hn₉, fun h'' hs'' => kk _ (R₉.side F SL₉ hs''.extBut (fun o e => Ns.mut hn₉ e) s₉.toks) (((E₁.trans E₈).trans E₉).side hs''.extBut hLs s₉.toks)⟩
    · -- one more
      have hlt : i < vs.length := by
        have := List.getElem?_eq_some_iff.mp hv
        exact this.1
      have hdrop : vs.drop i = av :: vs.drop (i + 1) := by
        rw [List.drop_eq_getElem_cons hlt]
        have := List.getElem?_eq_some_iff.mp hv
        rw [this.2]
      rw [hdrop] at w₅
      obtain ⟨_, w₅⟩ := w₅
      have R₆ := R₅.side F' SI₅ hx (fun o e => it₅.mut e) tk
      have E₆ := E₅.side hx hI tk
      have hL₆ : IsL h' D ws.toArray kk := hx D _ (Ne.symm hID) hL₅
      have hr₆ : RVs C h' ws acc := hr₅.mono (.extBut hx fun o e => it₅.mut e)
      refine own_go it₆ ?_
      refine asg_ok (M := inComp M sc L) F' hS' ht (fun _ => hh) R₆ rv w₅ fun σ₇ s₇ R₇ E₇ w₇ => ?_
      have hA₇ : AOk (inComp M sc L) A n σ₇.hd := by rw [E₇.hd]; exact hA₅
      refine wpAny_mono (tests_ok (M := inComp M sc L) ifs ifs' (hifs _ F' hS') A σ₇ s₇ _ noX hA₇ R₇ w₇) (fun b s₈ g => ?_) fun _ _ b => by obtain ⟨_, _, _, _, _, x⟩ := b; exact x.elim
      obtain ⟨σ₈, R₈, E₈, w₈⟩ := g
      -- what stands through a turn
      have step : ∀ {σ₉ : AS} {s₉ : Shared}, Ext (inComp M sc L) σ₅ { s₅ with heap := h', toks := tk } σ₉ s₉ → Rel C (inComp M sc L) σ₉ s₉ → Ext M σ₁ s₁ σ₉ s₉ ∧ Iter C s₉.heap I (i + 1) iv ∧ Side C (inComp M sc L) σ₉ I ∧ Side C (inComp M sc L) σ₉ D ∧ IsL s₉.heap D ws.toArray kk ∧ RVs C s₉.heap ws acc := by
        intro σ₉ s₉ E₉ R₉
        obtain ⟨oI, _, eI, _⟩ := it₆.obj
        obtain ⟨SI₉, eI'⟩ := SI₅.ext E₉ eI
        obtain ⟨SD₉, eD'⟩ := SD₅.ext E₉ hL₆
        have im := E₉.im R₆
        exact ⟨E₆.inner E₉ hL1, it₆.keep (fun o e => by rw [show ({ s₅ with heap := h', toks := tk } : Shared).heap = h' from rfl] at *; rw [eI] at e; cases e; exact eI') im, SI₉, SD₉, eD', hr₆.mono im⟩
      cases b with
      | false =>
        obtain ⟨a1, a2, a3, a4, a5, a6⟩ := step (E₇.trans E₈) R₈
        obtain ⟨hs₈, w₈⟩ := w₈
        simp only [Option.toList_none, List.append_nil] at w₈
        exact ⟨vs.length - (i + 1), by (clear hDe hID hLe hIL hsz hDL ha₅ hs₈; omega), σ₈, i + 1, acc, ws, kk, rfl, R₈, a1, a2, a3, a4, a5, a6, ha₅, w₈⟩
      | true =>
        have hA₈ : AOk (inComp M sc L) A n σ₈.hd := by rw [E₈.hd]; exact hA₇
        refine wpAny_mono (helt _ F' hS' A σ₈ s₈ _ noX hA₈ R₈ w₈) (fun x s₉ g => ?_) fun _ _ b => by obtain ⟨_, _, _, _, _, x⟩ := b; exact x.elim
        obtain ⟨ax, σ₉, R₉, E₉, r₉, hs₉, w₉⟩ := g
        obtain ⟨a1, a2, a3, a4, a5, a6⟩ := step ((E₇.trans E₈).trans E₉) R₉
        have hlen := rvs_length a6
        refine append_raw a5 (by (clear hDe hID hLe hIL hsz hDL hm hlt hs₉; omega)) fun h'' k'' hL'' sb'' => ?_
        have hmD : ∀ o, s₉.heap.get? D = some o → Mut o := fun o e => by rw [a5] at e; cases e; exact .list (items := ws.toArray) (n := kk) rfl rfl
        have im : Im s₉.heap h'' := .extBut sb''.extBut hmD
        exact ⟨vs.length - (i + 1), by (clear hDe hID hLe hIL hsz hDL ha₅ hs₉ hlen; omega), σ₉, i + 1, acc ++ [ax], ws ++ [x], k'', rfl, R₉.side F' a4 sb''.extBut hmD s₉.toks, a1.side sb''.extBut hD1 s₉.toks,
          a2.keep (fun o e => sb''.extBut I o hID e) im, a3, a4, hL'', rvs_append (a6.mono im) ⟨r₉.mono im, trivial⟩, hs₉, w₉⟩
  exact codeAny_compStart_list loop (iter_self it₄ loop)
end
end Mine
end
section
open PySem
open PyProof.Rows
namespace Mine

section
variable {C : Cx} {M : Fm} {σ σ₀ σ' : AS} {s s₀ s' : Shared}

theorem Rel.ownData (R : Rel C M σ s) {b : Addr} (hb : Own M b) {o : Obj} (e : s.heap.get? b = some o) : (∃ es n, o.data = .dict es n) ∨ ∃ v, o.data = .cell v := by
  rcases hb with rfl | ⟨x, hx⟩ | ⟨ce, hc, rfl⟩
  · obtain ⟨m, ⟨o', es, n, e', hd, _⟩, _⟩ := R.ns; rw [e'] at e; cases e; exact .inl ⟨es, n, hd⟩
  · obtain ⟨vo, o', e', hd⟩ := R.celld _ _ hx; rw [e'] at e; cases e; exact .inr ⟨vo, hd⟩
  · obtain ⟨m, ⟨o', es, n, e', hd, _⟩, _⟩ := R.cns _ hc; rw [e'] at e; cases e; exact .inl ⟨es, n, hd⟩

/-- a record that is none of the abstract heap's, nor of the ground's -/
theorem Side.fields (R : Rel C M σ s) {b : Addr} {o : Obj} {vs : Array Value} (e : s.heap.get? b = some o) (hd : o.data = .fields vs) (hH : σ.H b = none) (hb : C.base.get? b = none) : Side C M σ b where
  H := hH
  own q := by
    rcases R.ownData q e with ⟨es, n, z⟩ | ⟨v, z⟩ <;> rw [hd] at z <;> cases z
  fr q := by
    refine byc fun no => ?_
    obtain ⟨o', es, n, e', z⟩ := R.frD b q
    refine no ?_; clear no
    rw [e'] at e; cases e; rw [hd] at z; cases z
  base := hb

theorem Ns.slots {h h' : Heap} {a : Addr} {m : Str → Option Value} (x : h.Ns a m) (k : ∀ o, h.get? a = some o → ∃ sl, h'.get? a = some { o with slots := sl }) : h'.Ns a m := by
  refine byc fun no => ?_
  obtain ⟨o, es, ep, e, hd, r⟩ := x
  obtain ⟨sl, e'⟩ := k o e
  refine no ?_; clear no
  exact ⟨_, es, ep, e', hd, r⟩

theorem Rel.dirty (F : FmOk C M) (R : Rel C M σ s) {h' : Heap} (D : Addr → Prop) (hD : ∀ b, D b → Side C M σ b)
    (hm : ∀ b o, D b → s.heap.get? b = some o → ¬ Imm o ∧ ∀ c vs, o.cls = .ref c → o.data = .fields vs → ∃ o' vs', h'.get? b = some o' ∧ o'.cls = .ref c ∧ o'.data = .fields vs')
    (k : ∀ b o, s.heap.get? b = some o → ¬ D b → (b ≠ M.env.locals → b ∉ frs M → h'.get? b = some o) ∧ ∃ sl, h'.get? b = some { o with slots := sl }) (t : Nat) : Rel C M σ { s with heap := h', toks := t } := by
  have ow : ∀ b, Own M b → ¬ D b := fun b ho q => (hD b q).own ho
  have fr : ∀ b, b ∈ frs M → ¬ D b := fun b ho q => (hD b q).fr ho
  have im : Im s.heap h' := by
    refine ⟨fun b o e hi => ?_, fun b o c vs e hc hd => ?_⟩
    · have nD : ¬ D b := fun q => (hm b o q e).1 hi
      exact (k b o e nD).1 (fun q => (R.ownMut (.inl q) e).1 hi) fun q => (R.frMut q e).1 hi
    · by_cases hb : D b
      · exact (hm b o hb e).2 c vs hc hd
      · exact ⟨o, vs, (k b o e hb).1 (fun q => (R.ownMut (.inl q) e).2 ⟨c, vs, hc, hd⟩) fun q => (R.frMut q e).2 ⟨c, vs, hc, hd⟩, hc, hd⟩
  have kc : ∀ x c, (x, c) ∈ M.env.cells → ∀ o, s.heap.get? c = some o → h'.get? c = some o := fun x c hx o e =>
    (k c o e (ow c (.inr (.inl ⟨x, hx⟩)))).1 (F.cellsL x c hx) fun q => F.out c q (.inr (.inl ⟨x, hx⟩))
  refine ⟨fun b o e => ?_, R.os, R.gens, ?_, ?_, ?_, fun b o e => ?_, R.own, ?_, ?_, R.frsH, ?_⟩
  · refine (k b o (R.keep b o e) fun q => by rw [(hD b q).base] at e; cases e).1 (fun q => by rw [q, (R.own _ (.inl rfl)).2] at e; cases e) fun q => ?_
    have := (R.frames.mem (b := b) (by
      obtain ⟨en, h1, h2⟩ := List.mem_filterMap.mp q
      exact List.mem_filterMap.mpr ⟨en, .tail _ h1, h2⟩)).1
    rw [this] at e; cases e
  · obtain ⟨m, hn, h⟩ := R.ns
    exact ⟨m, Ns.slots hn fun o e => (k _ o e (ow _ (.inl rfl))).2, fun i' x av e1 e2 => let ⟨v, hv, r⟩ := h i' x av e1 e2; ⟨v, hv, r.mono im⟩⟩
  · intro j x e
    refine byc fun no => ?_
    obtain ⟨c, vo, e1, e2, h⟩ := R.cells j x e
    refine no ?_; clear no
    exact ⟨c, vo, e1, IsCell.keeps1 e2 (kc x c (mem_of_lookup e1)), fun av e3 => let ⟨v, hv, r⟩ := h av e3; ⟨v, hv, r.mono im⟩⟩
  · intro e he
    obtain ⟨m, hn, h⟩ := R.cns e he
    exact ⟨m, Ns.slots hn fun o q => (k _ o q (ow _ (.inr (.inr ⟨e, he, rfl⟩)))).2, fun i' x av e1 e2 => let ⟨v, hv, r⟩ := h i' x av e1 e2; ⟨v, hv, r.mono im⟩⟩
  · have nD : ¬ D b := fun q => by rw [show σ.H b = none from (hD b q).H] at e; cases e
    refine ⟨(R.ho b o e).1.keeps (fun ob q => (k b ob q nD).1 (fun z => ?_) fun z => ?_) im, (R.ho b o e).2⟩
    · rw [z, show σ.H M.env.locals = none from (R.own _ (.inl rfl)).1] at e; cases e
    · rw [show σ.H b = none from R.frsH b z] at e; cases e
  · intro x c e
    obtain ⟨vo, h⟩ := R.celld x c e
    exact ⟨vo, IsCell.keeps1 h (kc x c e)⟩
  · refine funFrames_of R.frames fun e he L hL o ho => (k L o ho ?_).2
    rcases List.mem_cons.mp he with rfl | he
    · rw [F.frame] at hL; cases hL; exact ow _ (.inl rfl)
    · exact fr _ (mem_frs he hL)
  · intro b hb
    refine byc fun no => ?_
    obtain ⟨o, es, n, e, hd⟩ := R.frD b hb
    obtain ⟨sl, e'⟩ := (k b o e (fr b hb)).2
    refine no ?_; clear no
    exact ⟨_, es, n, e', hd⟩

theorem Ext.dirty (E : Ext M σ₀ s₀ σ s) {h' : Heap} (D : Addr → Prop) (h0 : ∀ b, D b → s₀.heap.get? b = none)
    (k : ∀ b o, s.heap.get? b = some o → ¬ D b → (b ≠ M.env.locals → b ∉ frs M → h'.get? b = some o) ∧ ∃ sl, h'.get? b = some { o with slots := sl }) (t : Nat) : Ext M σ₀ s₀ σ { s with heap := h', toks := t } := by
  have nD : ∀ b o, s₀.heap.get? b = some o → ¬ D b := fun b o e q => by rw [h0 b q] at e; cases e
  refine ⟨fun b o e no nH => ?_, fun b o e => ?_, E.new, E.hd⟩
  · obtain ⟨k1, sl, k2⟩ := E.kept b o e no nH
    refine ⟨fun hb => (k b o (k1 hb) (nD b o e)).1 (fun q => no (.inl q)) hb, ?_⟩
    obtain ⟨sl', k3⟩ := (k b _ k2 (nD b o e)).2
    exact ⟨sl', k3⟩
  · refine byc fun no => ?_
    obtain ⟨o', e'⟩ := E.stay b o e
    obtain ⟨sl, k3⟩ := (k b o' e' (nD b o e)).2
    refine no ?_; clear no
    exact ⟨_, k3⟩

noncomputable def Held (s : Shared) (e : Addr) : Prop := ∃ oe vs T, s.heap.get? e = some oe ∧ oe.data = .fields vs ∧ vs[1]? = some (.ref T)

theorem not_imm_fields {o : Obj} {vs : Array Value} (hd : o.data = .fields vs) (hc : o.cls ≠ .type "tuple") (hr : o.cls ≠ .type "range") : ¬ Imm o := fun ⟨q, _⟩ => by
  rcases q with q | q | ⟨c, _, q⟩
  · exact hc q
  · exact hr q
  · rw [hd] at q; cases q

variable {A : Around} {c : Nat} {e : Addr}

theorem Fly.sideE (R₀ : Rel C M σ s) (fl : Fly C M σ s c e σ' s') : Side C M σ' e := by
  refine byc fun no => ?_
  obtain ⟨oe, vs, he, _, hd, _⟩ := fl.obj
  refine no ?_; clear no
  exact .fields fl.rel he hd fl.notH (Side.new R₀ fl.new).base

/-- the field of the last entry is written -/
theorem Fly.setT (F : FmOk C M) (R₀ : Rel C M σ s) (fl : Fly C M σ s c e σ' s') {oe oT : Obj} {vs ts : Array Value} {T : Addr} (he : s'.heap.get? e = some oe) (hc : oe.cls = .ref (C.ca c)) (hd : oe.data = .fields vs) (h1 : vs[1]? = some (.ref T)) (hne : T ≠ e) (hTs : s.heap.get? T = none)
    (hTH : σ'.H T = none) (hTo : s'.heap.get? T = some oT) (hTc : oT.cls = .type "traceback") (hTd : oT.data = .fields ts) (h3 : 3 < ts.size) (x : Value) :
    Fly C M σ s c e σ' { s' with heap := s'.heap.update T (Obj.mapFields (·.setIfInBounds 3 x)) } ∧ Held { s' with heap := s'.heap.update T (Obj.mapFields (·.setIfInBounds 3 x)) } e := by
  have hd' := Obj.data_mapFields hTd (·.setIfInBounds 3 x)
  have hT' := Heap.get?_update_self (Obj.mapFields (·.setIfInBounds 3 x)) hTo (Obj.isFreed_of_fields hd')
  have he' : (s'.heap.update T (Obj.mapFields (·.setIfInBounds 3 x))).get? e = some oe := by rw [Heap.get?_update_other _ _ hne]; exact he
  have k : ∀ b o, s'.heap.get? b = some o → ¬ b = T → (b ≠ M.env.locals → b ∉ frs M → (s'.heap.update T (Obj.mapFields (·.setIfInBounds 3 x))).get? b = some o) ∧ ∃ sl, (s'.heap.update T (Obj.mapFields (·.setIfInBounds 3 x))).get? b = some { o with slots := sl } := fun b o q n => by
    have : (s'.heap.update T (Obj.mapFields (·.setIfInBounds 3 x))).get? b = some o := by rw [Heap.get?_update_other _ _ (Ne.symm n)]; exact q
    exact ⟨fun _ _ => this, o.slots, this⟩
  have S : Side C M σ' T := .fields fl.rel hTo hTd hTH (Side.new R₀ hTs).base
  refine ⟨⟨fl.rel.dirty F (· = T) (fun b q => q ▸ S) (fun b o q z => ?_) k s'.toks, fl.ext.dirty (· = T) (fun b q => q ▸ hTs) k s'.toks, fl.le, fl.new, fl.notH, oe, vs, he', hc, hd, .inr ⟨T, _, _, h1, hne, hTs, hTH, hT', ?_, hd', by simpa using h3⟩⟩, oe, vs, T, he', hd, h1⟩
  · subst q
    rw [hTo] at z; cases z
    exact ⟨not_imm_fields hTd (by rw [hTc]; simp) (by rw [hTc]; simp), fun c vs q => by rw [hTc] at q; cases q⟩
  · rw [Obj.cls_mapFields]; exact hTc

/-- where an exception stands is written down -/
theorem flight_ok (F : FmOk C M) (R₀ : Rel C M σ s) (fl : Fly C M σ s c e σ' s') {fr : Option Addr} {P : Unit → Shared → Prop} {E : Value → Shared → Prop}
    (k : ∀ s'', Fly C M σ s c e σ' s'' → (Held s' e → Held s'' e) → P () s'') : wpAny (model C.prog C.w) A (setFlight (.ref e) fr) P E s' := by
  refine byc fun no => ?_
  obtain ⟨oe, vs, he, hc, hd, hT⟩ := id fl.obj
  refine no ?_; clear no
  unfold setFlight
  rcases hT with h1 | ⟨T, oT, ts, h1, hne, hTs, hTH, hTo, hTc, hTd, h3⟩
  · refine wpAny_bind (wpAny_field he hd h1 ?_)
    rw [if_neg (by simp)]
    exact wpAny_pure (k s' fl id)
  · refine wpAny_bind (wpAny_field he hd h1 ?_)
    rw [if_pos (show (Value.ref T != Value.none) = true from by simp)]
    refine wpAny_setField hTo hTd h3 ?_
    obtain ⟨f1, f2⟩ := fl.setT F R₀ he hc hd h1 hne hTs hTH hTo hTc hTd h3 (fr.elim .none fun f => rawInt f)
    exact k _ f1 fun _ => f2

theorem came_ok (F : FmOk C M) (R₀ : Rel C M σ s) (fl : Fly C M σ s c e σ' s') (hh : Held s' e) {E : Value → Shared → Prop} (k : ∀ s'', Fly C M σ s c e σ' s'' → E (.ref e) s'') : cameBackBy (model C.prog C.w) A M.env E (.ref e) s' := by
  refine byc fun no => ?_
  obtain ⟨oe, vs, T, he, hd, h1⟩ := id hh
  refine no ?_; clear no
  unfold cameBackBy
  refine wpAny_bind (wpAny_field he hd h1 ?_)
  rw [if_neg (by simp)]
  exact flight_ok F R₀ fl fun s'' f _ => k s'' f

theorem entry_ok (F : FmOk C M) (hfr : A.frames = some (M.env :: M.outer)) (R₀ : Rel C M σ s) (fl : Fly C M σ s c e σ' s') {head : Value} {b : Bool} {P : Unit → Shared → Prop} {E : Value → Shared → Prop}
    (k : ∀ s'', Fly C M σ s c e σ' s'' → Held s'' e → P () s'') :
    wpAny (model C.prog C.w) A (do let a ← frameOf M.env; let pl ← entryPlaceOf M.env.locals b; let x ← EntryCells.newEntry head a .none (rawInt M.env.locals) .none pl; setField (.ref e) 1 x) P E s' := by
  refine byc fun no => ?_
  obtain ⟨oe, vs, he, hc, hd, hT⟩ := id fl.obj
  refine no ?_; clear no
  have hsz : 1 < vs.size := by
    rcases hT with h1 | ⟨T, oT, ts, h1, _⟩ <;> exact (Array.getElem?_eq_some_iff.mp h1).1
  refine wpAny_bind (wpAny_frameOf_fun hfr fl.rel.frames F.frame fun h₁ hs₁ => ?_)
  refine wpAny_bind (wpAny_entryPlaceOf fun pl hpl => ?_)
  unfold EntryCells.newEntry newFields
  refine wpAny_bind (wpAny_newObj_type ?_ (hpl.sizeOk5 _ _ _ _ _))
  have hne : e ∉ (M.env :: M.outer).filterMap (·.frame) := fun hm => by
    refine byc fun no => ?_
    obtain ⟨_, o, ho, hnf⟩ := fl.rel.frames.mem hm
    refine no ?_; clear no
    rw [he] at ho; injection ho with ho; subst ho; exact hnf vs hd
  have he₁ : h₁.get? e = some oe := (hs₁.2.1 e hne).trans he
  generalize hob : ({ cls := .type "traceback", dict := none, data := .fields ([head, .ref M.env.locals, .none, rawInt M.env.locals, .none] ++ (if pl.isEmpty then List.replicate 6 Value.none else pl)).toArray } : Obj) = tb
  have he₂ := Heap.get?_push_of_some (h := h₁) tb he₁
  refine wpAny_setField he₂ hd hsz ?_
  have hTe : h₁.objs.size ≠ e := Nat.ne_of_gt (Heap.lt_size he₁)
  have hd₃ := Obj.data_mapFields hd (·.setIfInBounds 1 (Value.ref h₁.objs.size))
  have he₃ := Heap.get?_update_self (Obj.mapFields (·.setIfInBounds 1 (Value.ref h₁.objs.size))) he₂ (Obj.isFreed_of_fields hd₃)
  have hT₃ : ((h₁.push tb).update e (Obj.mapFields (·.setIfInBounds 1 (Value.ref h₁.objs.size)))).get? h₁.objs.size = some tb := by
    rw [Heap.get?_update_other _ _ (Ne.symm hTe)]; exact Heap.get?_push_size h₁ (by rw [← hob]; rfl)
  have kk : ∀ b o, s'.heap.get? b = some o → ¬ b = e → (b ≠ M.env.locals → b ∉ frs M → ((h₁.push tb).update e (Obj.mapFields (·.setIfInBounds 1 (Value.ref h₁.objs.size)))).get? b = some o) ∧ ∃ sl, ((h₁.push tb).update e (Obj.mapFields (·.setIfInBounds 1 (Value.ref h₁.objs.size)))).get? b = some { o with slots := sl } := fun b o q n => by
    have up : ∀ o', h₁.get? b = some o' → ((h₁.push tb).update e (Obj.mapFields (·.setIfInBounds 1 (Value.ref h₁.objs.size)))).get? b = some o' := fun o' z => by
      rw [Heap.get?_update_other _ _ (Ne.symm n)]; exact Heap.get?_push_of_some _ z
    obtain ⟨sl, q'⟩ := hs₁.2.2 b o q
    refine ⟨fun n1 n2 => up o ((hs₁.2.1 b fun hm => ?_).trans q), sl, up _ q'⟩
    rw [List.filterMap_cons, F.frame] at hm
    rcases List.mem_cons.mp hm with z | z
    · exact n1 z
    · exact n2 z
  have hTn : s'.heap.get? h₁.objs.size = none := get_none_of_ge (by rw [hs₁.1]; exact Nat.le_refl _)
  have hcls : ((Obj.mapFields (·.setIfInBounds 1 (Value.ref h₁.objs.size))) oe).cls = .ref (C.ca c) := by rw [Obj.cls_mapFields]; exact hc
  have fl' : Fly C M σ s c e σ' { s' with heap := (h₁.push tb).update e (Obj.mapFields (·.setIfInBounds 1 (Value.ref h₁.objs.size))) } := by
    refine ⟨fl.rel.dirty F (· = e) (fun b q => q ▸ fl.sideE R₀) (fun b o q z => ?_) kk s'.toks, fl.ext.dirty (· = e) (fun b q => q ▸ fl.new) kk s'.toks, fl.le, fl.new, fl.notH, _, _, he₃, hcls, hd₃,
      .inr ⟨h₁.objs.size, tb, _, by simp [hsz], hTe, fl.ext.none_of hTn, (Side.new fl.rel hTn).H, hT₃, by rw [← hob], by rw [← hob], by simp⟩⟩
    subst q
    rw [he] at z; cases z
    refine ⟨not_imm_fields hd (by rw [hc]; simp) (by rw [hc]; simp), fun c' vs' q1 q2 => ⟨_, _, he₃, ?_, hd₃⟩⟩
    rw [Obj.cls_mapFields]; exact q1
  exact k _ fl' ⟨_, _, h₁.objs.size, he₃, hd₃, by simp [hsz]⟩

/-- an exception passes a frame -/
theorem note_ok (F : FmOk C M) (hfr : A.frames = some (M.env :: M.outer)) (R₀ : Rel C M σ s) (fl : Fly C M σ s c e σ' s') {P : Unit → Shared → Prop} {E : Value → Shared → Prop}
    (k : ∀ s'', Fly C M σ s c e σ' s'' → Held s'' e → P () s'') : wpAny (model C.prog C.w) A (noteFrame (.ref e) M.env) P E s' := by
  refine byc fun no => ?_
  obtain ⟨oe, vs, he, hc, hd, hT⟩ := id fl.obj
  refine no ?_; clear no
  unfold noteFrame
  rw [F.frame]
  rcases hT with h1 | ⟨T, oT, ts, h1, hne, hTs, hTH, hTo, hTc, hTd, h3⟩
  · refine wpAny_bind (wpAny_field he hd h1 ?_)
    show wpAny _ A (if (Value.none != Value.none) = true then _ else _) P E s'
    rw [if_neg (by simp)]
    exact entry_ok F hfr R₀ fl k
  · refine wpAny_bind (wpAny_field he hd h1 ?_)
    show wpAny _ A (if (Value.ref T != Value.none) = true then _ else _) P E s'
    rw [if_pos (by simp)]
    refine wpAny_bind (wpAny_field hTo hTd (Array.getElem?_eq_getElem h3) ?_)
    split
    · exact wpAny_pure (k s' fl ⟨oe, vs, T, he, hd, h1⟩)
    · refine wpAny_bind (wpAny_setField hTo hTd h3 ?_)
      obtain ⟨f1, f2⟩ := fl.setT F R₀ he hc hd h1 hne hTs hTH hTo hTc hTd h3 .none
      exact entry_ok F hfr R₀ f1 k
end
end Mine
end
section
open PySem
open PyProof.Rows
namespace Mine

noncomputable def FlowIs (C : Cx) (h : Heap) : Flow → Out → Prop
  | .next, .next => True
  | .ret v, .ret a => RV C h v a
  | _, _ => False
inductive GoodS (C : Cx) (M : Fm) (σ : AS) (s : Shared) (Q : Out → AS → Prop) (f : Flow) (s' : Shared) : Prop
  | mk (o : Out) (σ' : AS) (h : FlowIs C s'.heap f o) (r : Rel C M σ' s') (e : Ext M σ s σ' s') (q : Q o σ') : GoodS C M σ s Q f s'
noncomputable def SS (C : Cx) (T : Tab) (hk : Hook) (n : Nat) (M : Fm) (m : MS) (st : Stmt) : Prop :=
  ∀ (A : Around) (σ : AS) (s : Shared) (Q : Out → AS → Prop) (X : Nat → AS → Prop), AOk M A n σ.hd → Rel C M σ s → WS T hk m σ Q X →
    wpAny (model C.prog C.w) A (exec st M.env) (GoodS C M σ s Q) (Bad C M σ s X) s
noncomputable def SSs (C : Cx) (T : Tab) (hk : Hook) (n : Nat) (M : Fm) (ms : List MS) (sts : List Stmt) : Prop :=
  ∀ (A : Around) (σ : AS) (s : Shared) (Q : Out → AS → Prop) (X : Nat → AS → Prop), AOk M A n σ.hd → Rel C M σ s → WSs T hk ms σ Q X →
    wpAny (model C.prog C.w) A (execs sts M.env) (GoodS C M σ s Q) (Bad C M σ s X) s

theorem GoodS.after {C : Cx} {M : Fm} {σ σ₁ : AS} {s s₁ s' : Shared} {Q : Out → AS → Prop} {f : Flow} (E : Ext M σ s σ₁ s₁) (g : GoodS C M σ₁ s₁ Q f s') : GoodS C M σ s Q f s' :=
  let ⟨o, σ', h, r, e, q⟩ := g; ⟨o, σ', h, r, E.trans e, q⟩

section
variable {C : Cx} {T : Tab} {hk : Hook} {n : Nat} {M : Fm} {S : Sc}

theorem ss_nil' : SSs C T hk n M [] [] := fun _ σ _ _ _ _ R w => wpAny_execs_nil ⟨.next, σ, trivial, R, .refl .., w⟩
theorem ss_cons' {m : MS} {st : Stmt} {ms : List MS} {sts : List Stmt} (h : SS C T hk n M m st) (hs : SSs C T hk n M ms sts) : SSs C T hk n M (m :: ms) (st :: sts) := by
  intro A σ s Q X hA R w
  refine wpAny_execs_cons (wpAny_mono (h A σ s _ X hA R w) (fun f s₁ g => ?_) fun _ _ b => b)
  refine byc fun no => ?_
  obtain ⟨o, σ₁, hf, R₁, E₁, w₁⟩ := g
  refine no ?_; clear no
  cases f with
  | next =>
    cases o with
    | next => exact wpAny_mono (hs A σ₁ s₁ Q X (by rw [E₁.hd]; exact hA) R₁ w₁) (fun _ _ g => g.after E₁) fun _ _ b => b.after E₁
    | ret v => exact hf.elim
  | ret v =>
    cases o with
    | next => exact hf.elim
    | ret av => exact ⟨.ret av, σ₁, hf, R₁, E₁, w₁⟩
  | brk => exact hf.elim
  | cont => exact hf.elim

theorem so_pass {pos : Pos} : SS C T hk n M .pass (.Pass pos) := fun _ σ _ _ _ _ R w => wpAny_Pass ⟨.next, σ, trivial, R, .refl .., w⟩

theorem interactive_fn {e : Env} (h : e.scope.kind = .function) : interactive e = false := by unfold interactive; rw [h]; rfl

theorem swaps_not {e : Expr} (h : notComp e = true) {t : Option Expr} {l : Nat} {env : Env} : swapsWith e t l env = pure false := by
  unfold swapsWith
  cases e <;> first | rfl | (exact absurd h Bool.false_ne_true)

theorem so_expr {e : ME} {e' : Expr} {pos : Pos} (F : FmOk C M) (hce : M.ce = none) (hn : notComp e' = true) (he : SE C T hk n M e e') : SS C T hk n M (.expr e) (.Expr e' pos) := by
  intro A σ s Q X hA R w
  have := he.then hA R w (P := fun _ s₁ => GoodS C M σ s Q .next s₁) fun v av σ₁ s₁ R₁ E₁ r₁ w₁ hA₁ => ⟨.next, σ₁, trivial, R₁, E₁, w₁.2⟩
  rw [cur_none hce] at this
  exact wpAny_Expr_any this (interactive_fn F.kind) (swaps_not hn)

theorem so_ret {e : ME} {e' : Expr} {pos : Pos} (hce : M.ce = none) (he : SE C T hk n M e e') : SS C T hk n M (.ret e) (.Return (some e') pos) := by
  intro A σ s Q X hA R w
  have := he.then hA R w (P := fun v s₁ => GoodS C M σ s Q (.ret v) s₁) fun v av σ₁ s₁ R₁ E₁ r₁ w₁ hA₁ => ⟨.ret av, σ₁, r₁, R₁, E₁, w₁⟩
  rw [cur_none hce] at this
  exact wpAny_Return_some this

theorem so_ite {c : MT} {b o : List MS} {c' : Expr} {b' o' : List Stmt} {pos : Pos} (hce : M.ce = none) (hc : ST C T hk n M c c') (hb : SSs C T hk n M b b') (ho : SSs C T hk n M o o') : SS C T hk n M (.ite c b o) (.If c' b' o' pos) := by
  intro A σ s Q X hA R w
  have := hc A σ s _ X hA R w
  rw [cur_none hce] at this
  rw [arm_exec_If]
  refine wpAny_bind (wpAny_standAt (wpAny_bind (wpAny_mono this (fun t s₁ g => ?_) fun _ _ b => b)))
  refine byc fun no => ?_
  obtain ⟨σ₁, R₁, E₁, w₁⟩ := g
  refine no ?_; clear no
  have hA₁ : AOk M A n σ₁.hd := by rw [E₁.hd]; exact hA
  cases t with
  | true => exact wpAny_mono (hb A σ₁ s₁ Q X hA₁ R₁ w₁) (fun _ _ g => g.after E₁) fun _ _ b => b.after E₁
  | false => exact wpAny_mono (ho A σ₁ s₁ Q X hA₁ R₁ w₁) (fun _ _ g => g.after E₁) fun _ _ b => b.after E₁

theorem folded_all {vs : List Expr} (h : (vs.all fun | .Constant .. => true | _ => false) = true) : vs.all (foldedForSure 8) = true := by
  rw [List.all_eq_true] at h ⊢
  intro x hx
  have := h x hx
  cases x <;> first | rfl | (simp at this)

theorem swapped_none {ts : List Expr} {e : Expr} {x} {p : Pos} {env : Env} (h : valueOk e = true) : swappedStores [.Tuple ts x p] e env = pure none := by
  cases e with
  | Tuple vs _ _ =>
    have := folded_all h
    unfold swappedStores
    dsimp only
    rw [this]
    repeat' split
    all_goals first | rfl | (rename_i q _; exact absurd rfl q) | (rename_i q; exact absurd rfl q)
  | _ => rfl

/-- a target that is a name or a tuple of names -/
theorem all_one {S : Sc} {t : Tgt} {t' : Expr} {env : Env} {v : Value} (h : tgtOk S t t' = true) : assignAll v ((assignEach [t'] env).map (·.2)) = assign t' env v := by
  cases t with
  | loc i => obtain ⟨x, p, rfl, _⟩ := onName_of h; rfl
  | cv i => obtain ⟨x, p, rfl, _⟩ := onName_of h; rfl
  | tupl is => obtain ⟨es, x1, p, rfl, _⟩ := onTup_of h; rfl
  | tupc is => obtain ⟨es, x1, p, rfl, _⟩ := onTup_of h; rfl

theorem so_asg_plain {t : Tgt} {e : ME} {t' e' : Expr} {pos : Pos} (F : FmOk C M) (hS : ScOk S M) (hce : M.ce = none) (ht : tgtOk S t t' = true) (hsw : swapsWith e' (some t') pos.line M.env = pure false) (hw : swappedStores [t'] e' M.env = pure none) (he : SE C T hk n M e e') :
    SS C T hk n M (.asg t e) (.Assign [t'] e' pos) := by
  intro A σ s Q X hA R w
  have := he.then hA R w (P := fun v s₁ => wpAny (model C.prog C.w) A (assignAll v ((assignEach [t'] M.env).map (·.2))) (fun _ => GoodS C M σ s Q .next) (Bad C M σ s X) s₁) fun v av σ₁ s₁ R₁ E₁ r₁ w₁ hA₁ => by
    rw [all_one ht, ← cur_none hce]
    exact asg_ok F hS ht hA₁.handled R₁ r₁ w₁ fun σ₂ s₂ R₂ E₂ w₂ => ⟨.next, σ₂, trivial, R₂, E₁.trans E₂, w₂⟩
  rw [cur_none hce] at this
  exact wpAny_Assign_stores this hsw hw

/-- what a comprehension is to a store on its own line -/
noncomputable def SU (C : Cx) (T : Tab) (hk : Hook) (n : Nat) (M : Fm) (e : ME) (e' : Expr) : Prop :=
  ∀ (A : Around) (σ : AS) (s : Shared) (Q : AV → AS → Prop) (X : Nat → AS → Prop) (u : Value → Sem Unit) (P : Unit → Shared → Prop), AOk M A n σ.hd → Rel C M σ s → WE T hk e σ Q X →
    (∀ D σ₁ s₁, Rel C M σ₁ s₁ → Ext M σ s σ₁ s₁ → Q (.lst D) σ₁ → wpAny (model C.prog C.w) A (u (.ref D)) (fun _ s₂ => ∃ σ₂, Rel C M σ₂ s₂ ∧ Ext M σ₁ s₁ σ₂ s₂ ∧ ∀ s₃, Rel C M σ₂ s₃ → Ext M σ s σ₂ s₃ → P () s₃) (Bad C M σ s X) s₁) →
    wpAny (model C.prog C.w) A (evalThenUse e' M.env u) P (Bad C M σ s X) s

theorem so_asg_comp {t : Tgt} {e : ME} {t' e' : Expr} {pos : Pos} (F : FmOk C M) (hS : ScOk S M) (hce : M.ce = none) (ht : tgtOk S t t' = true) (hsw : swapsWith e' (some t') pos.line M.env = pure true) (he : SU C T hk n M e e') :
    SS C T hk n M (.asg t e) (.Assign [t'] e' pos) := by
  intro A σ s Q X hA R w
  rw [exec_Assign_arm]
  refine wpAny_bind (wpAny_standAt ?_)
  rw [show swapsWithSole [t'] e' pos.line M.env = pure true from hsw]
  refine wpAny_bind (wpAny_pure ?_)
  rw [if_pos rfl]
  refine wpAny_bind (he A σ s _ X _ _ hA R w fun D σ₁ s₁ R₁ E₁ w₁ => ?_)
  have hA₁ : AOk M A n σ₁.hd := by rw [E₁.hd]; exact hA
  rw [all_one ht, ← cur_none hce]
  exact asg_ok F hS ht hA₁.handled R₁ (v := .ref D) (av := .lst D) rfl w₁ fun σ₂ s₂ R₂ E₂ w₂ => ⟨σ₂, R₂, E₂, fun s₃ R₃ E₃ => wpAny_pure ⟨.next, σ₂, trivial, R₃, E₃, w₂⟩⟩

/-- an item of a list is set -/
theorem setItem_raw {A : Around} {s : Shared} {l : Addr} {ws : List Value} {kk : Nat} {k : Int} {t : Tok} {v : Value} {Q : Unit → Shared → Prop} {E : Value → Shared → Prop} (hl : IsL s.heap l ws.toArray kk)
    (h0 : 0 ≤ k) (hfit : k < 2 ^ 63) (hn : k < ws.length)
    (hQ : ∀ h' k', IsL h' l (ws.set k.toNat v).toArray k' → Heap.SameBut l s.heap h' → Q () { s with heap := h' }) :
    wpAny (model C.prog C.w) A (setItem (.ref l) (.int k t) v) Q E s := by
  have hil := isList_of hl
  unfold setItem
  try with_reducible refine wpAny_holding ?_
  first | refine wpAny_bind (wpAny_pure ?_) | skip
  refine wpAny_bind (wpAny_sequenceKey hil.typeIs (by decide) ?_)
  refine wpAny_bind (wpAny_callSpecial?_slot (name := Str.ofString "__setitem__") hil.typeIs slot_list_setitem
    (wpAny_call_entry slot_list_setitem hil.typeIs entry_list_setitem ?_ (args_list_setitem _ _ _)))
  show wpAny _ _ (Builtin.List.listSubscript? (.int k t) >>= _) _ _ s
  refine wpAny_bind (wpAny_listSubscript_int (fitsIndex_of h0 hfit) ?_)
  clear hfit
  obtain ⟨j, rfl⟩ := Int.eq_ofNat_of_zero_le h0
  have hj : j < ws.toArray.size := by rw [List.size_toArray]; (clear h0; omega)
  have hx' : ws.toArray[j]? = some ws.toArray[j] := Array.getElem?_eq_getElem hj
  show wpAny _ _ ((seqItemAt l j >>= fun r => pure (r.map (j, ·))) >>= _) _ _ s
  refine wpAny_bind (wpAny_bind (wpAny_seqItemAt hl rfl (wpAny_pure ?_)))
  rw [hx']
  show wpAny _ _ (setSeqItemAt l j v >>= _) _ _ s
  obtain ⟨k', hk'⟩ := isL_update hl (·.setIfInBounds j v) (ws.set j v) (by simp)
  refine wpAny_bind (wpAny_setSeqItemAt hl rfl ?_)
  first
    | exact wpAny_bind (wpAny_pure (wpAny_pure ⟨.none, rfl, wpAny_pure (hQ _ k' hk' (Heap.SameBut.update ..))⟩))
    | exact wpAny_pure ⟨.none, rfl, wpAny_pure (hQ _ k' hk' (Heap.SameBut.update ..))⟩

theorem so_setIdx {o i e : ME} {o' i' e' : Expr} {p pos : Pos} (F : FmOk C M) (hce : M.ce = none) (hn : notComp e' = true) (ho : SE C T hk n M o o') (hi : SE C T hk n M i i') (he : SE C T hk n M e e') : SS C T hk n M (.setIdx o i e) (.Assign [.Subscript o' i' p] e' pos) := by
  intro A σ s Q X hA R w
  refine wpAny_Assign_Subscript ?_ (swaps_not hn)
  rw [← cur_none hce]
  refine he.then hA R w fun v av σ₁ s₁ R₁ E₁ r₁ w₁ hA₁ => ?_
  refine wpAny_mono (ho.then hA₁ R₁ w₁ fun ov ao σ₂ s₂ R₂ E₂ r₂ w₂ hA₂ => ?_) (fun _ _ g => g) fun _ _ b => b.after E₁
  refine wpAny_mono (hi.then hA₂ R₂ w₂ fun iv ai σ₃ s₃ R₃ E₃ r₃ w₃ hA₃ => ?_) (fun _ _ g => g) fun _ _ b => b.after (E₁.trans E₂)
  split at w₃
  · rename_i a k
    refine byc fun no => ?_
    obtain rfl : ov = .ref a := r₂
    obtain ⟨t, rfl⟩ := r₃
    obtain ⟨h0, w₃⟩ := w₃
    obtain ⟨vs, hvs, hk, q⟩ := need_of w₃
    obtain ⟨ws, kk, hw, hr, hs'⟩ := R₃.list hvs
    refine no ?_; clear no
    have hlen := rvs_length hr
    have r₁' := (r₁.mono (E₂.im R₁)).mono (E₃.im R₂)
    refine setItem_raw hw h0 (by (clear h0; omega)) (by (clear h0 hs'; omega)) fun h' k' hL sb => ?_
    have im : Im s₃.heap h' := .extBut sb.extBut fun o e => (R₃.ho a _ (getL_of hvs)).1.mut e
    obtain ⟨h5, h6⟩ := R₃.change F.frame (a := a) (ao := .lst (vs.set k.toNat av)) sb.extBut ⟨_, k', hL, rvs_set (r₁'.mono im) _ (hr.mono im), by rw [List.length_set]; exact hs'⟩ (.inl (by rw [getL_of hvs]; simp)) s₃.toks
    exact ⟨.next, _, trivial, h5, ((E₁.trans E₂).trans E₃).trans h6, q⟩
  · exact w₃.elim

theorem Bad.noted {A : Around} (F : FmOk C M) (hfr : A.frames = some (M.env :: M.outer)) {σ : AS} {s : Shared} (R₀ : Rel C M σ s) {X : Nat → AS → Prop} {v : Value} {s' : Shared} (b : Bad C M σ s X v s') {A' : Around} {K : Value → Shared → Prop}
    (k : ∀ s'', Bad C M σ s X v s'' → K v s'') : notedBy (model C.prog C.w) A M.env (cameBackBy (model C.prog C.w) A' M.env K) v s' := by
  refine byc fun no => ?_
  obtain ⟨c, e, σ', rfl, fl, x⟩ := b
  refine no ?_; clear no
  unfold notedBy
  exact note_ok F hfr R₀ fl fun s'' fl' hh => came_ok F R₀ fl' hh fun s₃ fl₃ => k s₃ ⟨c, e, σ', rfl, fl₃, x⟩

/-- between a loop's turns -/
inductive ForI (C : Cx) (M : Fm) (σ : AS) (s : Shared) (vs : List AV) (iv : AV) (I : Addr) (K : List AV → AS → Prop) (m : Nat) (s₅ : Shared) : Prop
  | mk (σ₅ : AS) (i : Nat) (hm : m = vs.length - i) (R : Rel C M σ₅ s₅) (E : Ext M σ s σ₅ s₅) (it : Iter C s₅.heap I i iv) (SI : Side C M σ₅ I) (w : K (vs.drop i) σ₅) : ForI C M σ s vs iv I K m s₅

theorem so_for {t : Tgt} {it : ME} {b : List MS} {t' it' : Expr} {b' : List Stmt} {pos : Pos} (F : FmOk C M) (hS : ScOk S M) (hce : M.ce = none) (ht : tgtOk S t t' = true) (hset : ∀ x, foldedSetIterable it' M.env x = pure x)
    (hit : SE C T hk n M it it') (hb : SSs C T hk n M b b') : SS C T hk n M (.for t it b) (.For t' it' b' [] pos) := by
  intro A σ s Q X hA R w
  refine wpAny_For ?_ hset
  have hit' := hit.then hA R w (P := fun x s₁ => wpAny (model C.prog C.w) A (pyIter x) (fun it s₂ =>
      codeAny (model C.prog C.w) A (.forLoop t' it b' [] M.env) (fun r s' => match r with | .ok f => GoodS C M σ s Q f s' | .error e => cameBackBy (model C.prog C.w) A M.env (Bad C M σ s X) e s') s₂) (Bad C M σ s X) s₁)
  rw [cur_none hce] at hit'
  refine hit' fun v iv σ₁ s₁ R₁ E₁ r₁ w₁ hA₁ => ?_
  refine byc fun no => ?_
  obtain ⟨hd, w₁⟩ := w₁
  obtain ⟨vs, hvs, w₁⟩ := need_of w₁
  refine no ?_; clear no
  have hh : A.handled = none := hA₁.handled hd
  refine iter_start R₁ r₁ hvs fun I h₂ hI kp₂ it₂ => ?_
  have hIs : s.heap.get? I = none := E₁.none_of hI
  refine codeAny_forLoop_any (ForI C M σ s vs iv I fun r σ₅ => forW (fun σ₂ => src σ₂.H iv = some vs) (fun v σ₂ k => asgW t v σ₂ fun σ₃ => WSs T hk b σ₃ k X) r σ₅ Q) ?_ vs.length
    ⟨σ₁, 0, by simp, R₁.keeps kp₂, E₁.trans (.keeps kp₂), it₂, .new R₁ hI, by simpa using w₁⟩
  rintro m s₅ ⟨σ₅, i, hm, R₅, E₅, it₅, SI₅, w₅⟩
  have hok : src σ₅.H iv = some vs := by
    cases q : vs.drop i with
    | nil => rw [q] at w₅; exact w₅.1
    | cons x r => rw [q] at w₅; exact w₅.1
  have hA₅ : AOk M A n σ₅.hd := by rw [E₅.hd]; exact hA
  refine iter_next hh R₅ it₅ hok (fun hv h' hx => ?_) fun av v h' tk hv rv hx it₆ => ?_
  · have hdrop : vs.drop i = [] := List.drop_eq_nil_of_le (by simpa using hv)
    rw [hdrop] at w₅
    exact wpAny_execs_nil ⟨.next, σ₅, trivial, R₅.side F SI₅ hx (fun o e => it₅.mut e) s₅.toks, E₅.side hx hIs s₅.toks, w₅.2⟩
  · have hlt : i < vs.length := (List.getElem?_eq_some_iff.mp hv).1
    have hdrop : vs.drop i = av :: vs.drop (i + 1) := by rw [List.drop_eq_getElem_cons hlt, (List.getElem?_eq_some_iff.mp hv).2]
    rw [hdrop] at w₅
    obtain ⟨_, w₅⟩ := w₅
    have R₆ := R₅.side F SI₅ hx (fun o e => it₅.mut e) tk
    have E₆ := E₅.side hx hIs tk
    refine own_go it₆ ?_
    rw [← cur_none hce]
    refine asg_ok F hS ht (fun _ => hh) R₆ rv w₅ fun σ₇ s₇ R₇ E₇ w₇ => ?_
    have hA₇ : AOk M A n σ₇.hd := by rw [E₇.hd]; exact hA₅
    rw [cur_none hce]
    refine wpAny_mono (hb A σ₇ s₇ _ X hA₇ R₇ w₇) (fun f s₈ g => ?_) fun e s₈ bd => bd.noted F hA.frames R₇ fun s₉ b₉ => b₉.after (E₆.trans E₇)
    refine byc fun no => ?_
    obtain ⟨o, σ₈, hf, R₈, E₈, w₈⟩ := g
    refine no ?_; clear no
    cases f with
    | next =>
      cases o with
      | next =>
        refine byc fun no => ?_
        obtain ⟨oI, _, eI, _⟩ := it₆.obj
        obtain ⟨SI₈, eI'⟩ := SI₅.ext (E₇.trans E₈) eI
        refine no ?_; clear no
        have im := (E₇.trans E₈).im R₆
        exact ⟨vs.length - (i + 1), by omega, σ₈, i + 1, rfl, R₈, E₆.trans (E₇.trans E₈), it₆.keep (fun o e => by rw [show ({ s₅ with heap := h', toks := tk } : Shared).heap = h' from rfl] at *; rw [eI] at e; cases e; exact eI') im, SI₈, w₈⟩
      | ret v => exact hf.elim
    | ret v =>
      cases o with
      | next => exact hf.elim
      | ret av => exact ⟨.ret av, σ₈, hf, R₈, E₆.trans (E₇.trans E₈), w₈⟩
    | brk => exact hf.elim
    | cont => exact hf.elim

theorem so_while {c : MT} {b : List MS} {c' : Expr} {b' : List Stmt} {pos : Pos} (hce : M.ce = none) (hc : ST C T hk n M c c') (hb : SSs C T hk n M b b') : SS C T hk n M (.while c b) (.While c' b' [] pos) := by
  intro A σ s Q X hA R w
  refine byc fun no => ?_
  obtain ⟨I, ⟨k₀, hI⟩, w⟩ := w
  refine no ?_; clear no
  refine wpAny_While ?_
  refine codeAny_whileLoop (fun m s₁ => ∃ σ₁, Rel C M σ₁ s₁ ∧ Ext M σ s σ₁ s₁ ∧ I m σ₁) ?_ k₀ ⟨σ, R, .refl .., hI⟩
  rintro m s₁ ⟨σ₁, R₁, E₁, hI₁⟩
  have hA₁ : AOk M A n σ₁.hd := by rw [E₁.hd]; exact hA
  have hc' := hc A σ₁ s₁ _ noX hA₁ R₁ (w m σ₁ hI₁)
  rw [cur_none hce] at hc'
  refine wpAny_mono hc' (fun t s₂ g => ?_) fun _ _ b => by obtain ⟨_, _, _, _, _, x⟩ := b; exact x.elim
  refine byc fun no => ?_
  obtain ⟨σ₂, R₂, E₂, w₂⟩ := g
  refine no ?_; clear no
  have hA₂ : AOk M A n σ₂.hd := by rw [E₂.hd]; exact hA₁
  cases t with
  | false => exact wpAny_execs_nil ⟨.next, σ₂, trivial, R₂, E₁.trans E₂, w₂⟩
  | true =>
    refine wpAny_mono (hb A σ₂ s₂ _ noX hA₂ R₂ w₂) (fun f s₃ g => ?_) fun _ _ b => by obtain ⟨_, _, _, _, _, x⟩ := b; exact x.elim
    refine byc fun no => ?_
    obtain ⟨o, σ₃, hf, R₃, E₃, w₃⟩ := g
    refine no ?_; clear no
    cases f with
    | next =>
      cases o with
      | next => obtain ⟨m', hm', hI'⟩ := w₃; exact ⟨m', hm', σ₃, R₃, (E₁.trans E₂).trans E₃, hI'⟩
      | ret v => exact hf.elim
    | ret v =>
      cases o with
      | next => exact hf.elim
      | ret av => exact ⟨.ret av, σ₃, hf, R₃, (E₁.trans E₂).trans E₃, w₃⟩
    | brk => exact hf.elim
    | cont => exact hf.elim
end
end Mine
end
section
open PySem
open PyProof.Rows Builtin Builtin.ObjectAttr
namespace Mine

theorem stored_length (ps : List (Str × Value)) (x : Str) (v : Value) : (stored ps x v).length ≤ ps.length + 1 := by
  unfold stored
  split
  · rw [List.length_map]; exact Nat.le_succ _
  · rw [List.length_append]; exact Nat.le_refl _
theorem kvSet_same : ∀ {kvs : List (Nat × AV)} {k : Nat} {v : AV}, (kvs.lookup k).isSome = true → (kvSet kvs k v).length = kvs.length
  | [], _, _, h => nomatch h
  | (j, u) :: r, k, v, h => by
    unfold kvSet
    split
    · rfl
    · rename_i c
      rw [List.lookup_cons, beq_eq_false_iff_ne.mpr c] at h
      exact congrArg (· + 1) (kvSet_same h)
/-- a dict of texts, one name put -/
theorem put_dict {C : Cx} {h : Heap} {d : Addr} {ps : List (Str × Value)} {name : Str} {v : Value} {tk : Tok} (x : h.DictOf (strKind C.prog C.w) d ps) :
    ∃ od es ep, h.get? d = some od ∧ od.data = .dict es ep ∧ aRefKeyMayBeTheName name es = false ∧ (h.update d (Obj.putName name (PyData.keyHash C.w.params name) (.str name tk) v)).DictOf (strKind C.prog C.w) d (stored ps name v) := by
  refine byc fun no => ?_
  obtain ⟨o, es, ep, ho, hc, hd, hk, hp, hn⟩ := x
  refine no ?_; clear no
  have hkey : (strKind C.prog C.w).is name (.str name tk) = true := strKind_is ..
  have eis : (fun e : DictEntry => (strKind C.prog C.w).is name e.key) = fun e => e.key.isStr name := funext fun e => strOf_eq name e.key
  have hr : es.any (·.refKey) = false := by
    rw [Bool.eq_false_iff]
    intro q
    refine byc fun no => ?_
    obtain ⟨i, hi, h2⟩ := Array.any_eq_true.mp q
    obtain ⟨k, hk1, _⟩ := hk es[i] (Array.getElem_mem hi)
    obtain ⟨t, ht⟩ := Value.isStrOf_shape hk1
    refine no ?_; clear no
    unfold DictEntry.refKey at h2
    rw [ht] at h2
    exact absurd h2 Bool.false_ne_true
  have hidx : (es.findIdx? fun e => e.key.isStr name) = ps.findIdx? fun kv => decide (kv.1 = name) := by
    rw [← eis, ← hp.findIdx name]; obtain ⟨l⟩ := es; simp
  refine ⟨o, es, ep, ho, hd, by rw [aRefKeyMayBeTheName_at, hr, Bool.and_false], ?_⟩
  refine byc fun no => ?_
  obtain ⟨oc, odc, oda, osl⟩ := o
  obtain rfl : oda = .dict es ep := hd
  refine no ?_; clear no
  cases hi : es.findIdx? fun e => e.key.isStr name with
  | some i =>
    have e : Obj.putName name (PyData.keyHash C.w.params name) (.str name tk) v ⟨oc, odc, .dict es ep, osl⟩ = ⟨oc, odc, .dict (es.modify i fun e => { e with val := v }) ep, osl⟩ := by
      rw [Obj.putName_eq]; unfold Obj.putNameByArray; dsimp only; rw [hi]
    have g := Heap.get?_update_self (Obj.putName name (PyData.keyHash C.w.params name) (.str name tk) v) ho (by rw [e]; rfl)
    rw [e] at g
    refine ⟨_, _, ep, g, hc, rfl, hk.modify _ _, ?_, ?_⟩
    · rw [stored, if_pos (any_of_findIdx_some (hidx ▸ hi))]
      have hl : (es.toList.findIdx? fun e => (strKind C.prog C.w).is name e.key) = some i := by rw [eis, ← hi]; obtain ⟨l⟩ := es; simp
      have := hp.modify hn hl v
      obtain ⟨l⟩ := es
      simpa using this
    · rw [stored, if_pos (any_of_findIdx_some (hidx ▸ hi)), keys_map_store]; exact hn
  | none =>
    have hnot : name ∉ ps.map (·.1) := not_mem_of_findIdx_none (hidx ▸ hi)
    have hany : ¬ (ps.any fun kv => decide (kv.1 = name)) = true := by
      rw [List.any_eq_true]; rintro ⟨kv, hkv, he⟩
      exact hnot (List.mem_map.mpr ⟨kv, hkv, of_decide_eq_true he⟩)
    have e : Obj.putName name (PyData.keyHash C.w.params name) (.str name tk) v ⟨oc, odc, .dict es ep, osl⟩ = ⟨oc, odc, .dict (es.push ⟨PyData.keyHash C.w.params name, .str name tk, v⟩) (ep + 1), osl⟩ := by
      rw [Obj.putName_eq]; unfold Obj.putNameByArray; dsimp only; rw [hi]
    have g := Heap.get?_update_self (Obj.putName name (PyData.keyHash C.w.params name) (.str name tk) v) ho (by rw [e]; rfl)
    rw [e] at g
    refine ⟨_, _, ep + 1, g, hc, rfl, hk.push hkey _, ?_, ?_⟩
    · rw [stored, if_neg hany]
      have := hp.append hkey (PyData.keyHash C.w.params name) v
      obtain ⟨l⟩ := es
      simpa using this
    · rw [stored, if_neg hany, List.map_append, List.nodup_append]
      refine ⟨hn, by simp, ?_⟩
      intro a ha b hb
      simp only [List.map_cons, List.map_nil, List.mem_singleton] at hb
      subst hb
      exact fun e => hnot (e ▸ ha)

section
variable {C : Cx} {T : Tab} {hk : Hook} {n : Nat} {M : Fm}
theorem set_attr {A : Around} {s : Shared} {K : PySem.W.Frag} {c : Nat} {a d : Addr} {ps : List (Str × Value)} {k : Nat} {v : Value} {Q : Unit → Shared → Prop} {E : Value → Shared → Prop} (KX : K.In s.heap) (O : OneObj K C T c) (hk12 : k ≤ 12)
    (hx : s.heap.get? a = some ⟨.ref (C.ca c), some d, .plain, #[]⟩) (hd : s.heap.DictOf (strKind C.prog C.w) d ps) (hz : ps.length ≤ 1000)
    (h : ∀ h' t, h'.DictOf (strKind C.prog C.w) d (stored ps (kyName k) v) → Heap.SameBut d s.heap h' → Q () { s with heap := h', toks := t }) : wpAny (model C.prog C.w) A (setAttr (.ref a) (kyName k) v) Q E s := by
  refine byc fun no => ?_
  obtain ⟨od, es, ep, hod, hdat, hno, hput⟩ := put_dict (name := kyName k) (v := v) (tk := s.toks + 1) hd
  refine no ?_; clear no
  have I := inst_at (C := C) hx hod
  refine PySem.W.set_plain KX I O.seta ?_
  refine PySem.W.osa_open (s := { s with toks := s.toks + 1 }) (r := none) KX I O.plain (by unfold PySem.W.takerIn; rw [O.keys k hk12]; rfl) fun b => ?_
  obtain ⟨cd, hc, hdd⟩ := PySem.W.any_some O.hasd
  show wpAny _ _ (storeInOwnDict _ _ _ _ _ _) _ _ _
  refine wpAny_bind (wpAny_pure (wpAny_bind (wpAny_bind (wpAny_loadPart hx (wpAny_bind (PySem.W.Looks.here (s := { s with toks := s.toks + 1 }) (PySem.W.looks_clsIn KX hc) ?_))))))
  rw [hdd]
  refine wpAny_pure (a := some d) (wpAny_bind (wpAny_pure (wpAny_bind ?_)))
  unfold nsSet
  refine wpAny_bind (wpAny_bind (wpAny_askSetting (wpAny_pure (wpAny_bind (wpAny_mkText (wpAny_bind (wpAny_loadPart hod ?_)))))))
  rw [hdat]
  dsimp only
  rw [hno]
  refine wpAny_updatePart hod ?_
  refine byc fun no => ?_
  obtain ⟨od', es', ep', hod', _, hdat', _, hp', _⟩ := id hput
  refine no ?_; clear no
  have hl := hp'.length
  refine wpAny_bind (wpAny_lookBehind hod' (by rw [hdat']; exact pastItsLine_dict (by have := stored_length ps (kyName k) v; rw [Array.length_toList] at hl; rw [sizeLine_eq]; (clear hk12; omega))) ?_)
  exact wpAny_pure (h _ (s.toks + 1 + 1) hput (.update ..))

theorem so_setAttr {o e : ME} {k : Nat} {o' e' : Expr} {nm : Str} {p pos : Pos} (XO : XObj C T) (F : FmOk C M) (hce : M.ce = none) (hn : notComp e' = true) (hky : kyTab.lookup nm = some k) (ho : SE C T hk n M o o') (he : SE C T hk n M e e') : SS C T hk n M (.setAttr o k e) (.Assign [.Attribute o' nm p] e' pos) := by
  intro A σ s Q X hA R w
  obtain ⟨rfl, hk12⟩ := ky_of hky
  refine plainObj_wpAny_Assign_Attribute ?_ (swaps_not hn)
  rw [← cur_none hce]
  refine he.then hA R w fun v av σ₁ s₁ R₁ E₁ r₁ w₁ hA₁ => ?_
  refine wpAny_mono (ho.then hA₁ R₁ w₁ fun ov ao σ₂ s₂ R₂ E₂ r₂ w₂ hA₂ => ?_) (fun _ _ g => g) fun _ _ b => b.after E₁
  refine byc fun no => ?_
  cases ao with
  | obj c a d =>
    refine no ?_; clear no
    refine byc fun no => ?_
    obtain ⟨rfl, hx, hhc, h6⟩ := r₂
    obtain ⟨kvs, hkv, hl, q⟩ := need_of w₂
    obtain ⟨K, KX, HO⟩ := XO
    obtain ⟨ps, hd, hp, hl30⟩ := R₂.dct hkv
    obtain ⟨_, _, _, _, _, _, _, _, hnd⟩ := id hd
    refine no ?_; clear no
    refine set_attr (KX.keeps R₂.keep) (HO c hhc h6) hk12 hx hd (by rw [rps_length hp]; (clear hk12 h6 hl30; omega)) fun h' t hd' sb => ?_
    have im : Im s₂.heap h' := .extBut sb.extBut fun o e => (R₂.ho d _ (getD_of hkv)).1.mut e
    obtain ⟨h5, h7⟩ := R₂.change F.frame (a := d) (ao := .dct (kvSet kvs k av)) sb.extBut ⟨_, hd', rps_set hk12 ((r₁.mono (E₂.im R₁)).mono im) (hp.mono im) hnd, by have := kvSet_length kvs k av; (clear hk12 h6 hl30; omega)⟩ (.inl (by rw [getD_of hkv]; simp)) t
    exact ⟨.next, _, trivial, h5, (E₁.trans E₂).trans h7, q⟩
  | _ => exact w₂.elim
theorem so_setKey {o e : ME} {k : Nat} {o' e' : Expr} {i : Nat} {q p pos : Pos} (F : FmOk C M) (hce : M.ce = none) (hn : notComp e' = true) (hk12 : k ≤ 12) (ho : SE C T hk n M o o') (he : SE C T hk n M e e') : SS C T hk n M (.setKey o k e) (.Assign [.Subscript o' (.Constant (.str (kyName k)) i q) p] e' pos) := by
  intro A σ s Q X hA R w
  refine wpAny_Assign_Subscript ?_ (swaps_not hn)
  rw [← cur_none hce]
  refine he.then hA R w fun v av σ₁ s₁ R₁ E₁ r₁ w₁ hA₁ => ?_
  refine wpAny_mono (ho.then hA₁ R₁ w₁ fun ov ao σ₂ s₂ R₂ E₂ r₂ w₂ hA₂ => Calls.Constant_str ?_) (fun _ _ g => g) fun _ _ b => b.after E₁
  refine byc fun no => ?_
  cases ao with
  | dct d =>
    refine no ?_; clear no
    obtain rfl : ov = .ref d := r₂
    obtain ⟨kvs, hkv, hl, q⟩ := need_of w₂
    obtain ⟨ps, hd, hp, hl30⟩ := R₂.dct hkv
    obtain ⟨_, _, _, _, _, _, _, _, hnd⟩ := id hd
    refine wpAny_setItem_pairs (knd := strKind C.prog C.w) (s := { s₂ with toks := s₂.toks + 1 }) (strKind_is ..) hd (fun h' hd' sb => ?_) (by rw [rps_length hp, sizeLine_eq]; (clear hk12; omega))
    have im : Im s₂.heap h' := .extBut sb.extBut fun o e => (R₂.ho d _ (getD_of hkv)).1.mut e
    obtain ⟨h5, h7⟩ := R₂.change F.frame (a := d) (ao := .dct (kvSet kvs k av)) sb.extBut ⟨_, hd', rps_set hk12 ((r₁.mono (E₂.im R₁)).mono im) (hp.mono im) hnd, by rw [kvSet_same hl]; exact hl30⟩ (.inl (by rw [getD_of hkv]; simp)) (s₂.toks + 1 + 1)
    exact ⟨.next, _, trivial, h5, (E₁.trans E₂).trans h7, q⟩
  | _ => exact w₂.elim
end
end Mine
end
section
open PySem
open PyProof.Rows
namespace Mine

/-! ## Own exception classes -/
inductive XAt (C : Cx) (c : Nat) : Prop
  | mk (nm q : Str) (N : Addr) (bs bm bmB : List Value) (hdct : Bool) (sn : List Str) (sub : List Value) (ab : Bool) (col : Option Bool) (dd : Option Addr) (k0 k1 k2 k3 k5 : Option Value)
    (newId B Bn nid initId inN : String) (bmN : List Value) (mN : Str → Option Value)
    (h1 : ExcBaseFacts Bn newId inN bmN) (h2 : bmB.contains (.type Bn) = true) (h3 : ExcBaseFacts B nid initId bmB) (h4 : bm.contains (.type "BaseException") = true) (h5 : mN "__init__" = none)
    (h6 : C.base.get? (C.ca c) = some (excClassObj nm q (C.ca c) N bs bm hdct sn sub ab col dd k0 k1 k2 k3 k5 newId)) (h7 : C.base.Ns N mN) (h8 : OwnTail C.base bmB bm) (h9 : (Value.ref (C.ca c) :: bm).contains (.ref (C.ca 0)) = true)
structure XCls (C : Cx) : Prop where
  obj : ∀ c, C.hc c → c ≤ 5 → XAt C c

section
variable {C : Cx} {T : Tab} {hk : Hook} {n : Nat} {M : Fm} {S : Sc} {G : GT}

theorem cls_value (F : FmOk C M) (hS : ScOk S M) (hG : GOk C G) {A : Around} {σ : AS} {s : Shared} (R : Rel C M σ s) {x : Str} {c : Nat} {np : Pos} (hx : S.f.lookup x = some .globalImplicit) (hd : noDebug x = true) (hc : G.cls.lookup x = some c)
    {P : Value → Shared → Prop} {E : Value → Shared → Prop} (k : P (.ref (C.ca c)) s) : wpAny (model C.prog C.w) A (eval (.Name x np) M.env) P E s := by
  refine byc fun no => ?_
  obtain ⟨mg, mb, hg, hb, _, k1, _⟩ := hG.ns
  refine no ?_; clear no
  refine Calls.Name_function_global F.kind (by rw [kindOf_eq, ← hS.1]; exact hx) ?_ (noDebug_of hd)
  exact Calls.loadGlobal_global (by rw [F.glob]; exact hg.keeps R.keep) (k1 x c hc).1 k

theorem so_raise {c : Nat} {x t : Str} {np ap cp pos : Pos} {k : Nat} (XC : XCls C) (F : FmOk C M) (hce : M.ce = none) (hS : ScOk S M) (hG : GOk C G) (hx : S.f.lookup x = some .globalImplicit) (hd : noDebug x = true) (hc : G.cls.lookup x = some c) (hle : c ≤ 5) :
    SS C T hk n M (.raise c t) (.Raise (some (.Call (.Name x np) [.Constant (.str t) k ap] [] cp)) none pos) := by
  intro A σ s Q X hA R w
  refine byc fun no => ?_
  obtain ⟨hh, w⟩ := w
  have hhc : C.hc c := by obtain ⟨_, _, _, _, _, k1, _⟩ := hG.ns; exact (k1 x c hc).2
  obtain ⟨nm, q, N, bs, bm, bmB, hdct, sn, sub, ab, col, dd, k0, k1, k2, k3, k5, newId, B, Bn, nid, initId, inN, bmN, mN, h1, h2, h3, h4, h5, h6, h7, h8, _⟩ := XC.obj c hhc hle
  refine no ?_; clear no
  refine wpAny_Raise_call_subU (C := C.ca c) (nm := nm) (q := q) (N := N) (bs := bs) (bm := bm) (hdct := hdct) (sn := sn) (sub := sub) (ab := ab) (col := col) (dd := dd) (k0 := k0) (k1 := k1) (k2 := k2) (k3 := k3) (k5 := k5) (newId := newId) h1 h2 h3 h4 (hA.handled hh) rfl h5 ?_
  refine cls_value F hS hG R hx hd hc ⟨rfl, ?_⟩
  rw [← cur_none hce]
  have hs : SEs C T hk n M [.cStr t] [.Constant (.str t) k ap] := ses_cons se_cStr ses_nil rfl
  refine args_ok hs rfl hA R (Q := fun as σ' => as.length = 1 ∧ X c σ') (X := X) ⟨rfl, w⟩ fun vs as σ₁ s₁ R₁ E₁ r₁ w₁ hA₁ => ?_
  obtain ⟨hl₁, w₁⟩ := w₁
  have hlen : vs.length ≤ sizeLine := by
    have := rvs_length r₁
    have hz : sizeLine = 16777216 := sizeLine_eq
    (clear hle; omega)
  refine ⟨rfl, hlen, R₁.keep _ _ h6, h7.keeps R₁.keep, h8.keeps fun b o e => R₁.keep b o e, fun h' e hm => ?_⟩
  refine byc fun no => ?_
  obtain ⟨tt, he, ht, _⟩ := hm.there
  refine no ?_; clear no
  have R₂ : Rel C M σ₁ { s₁ with heap := h' } := R₁.keeps hm.keeps
  exact ⟨c, e, σ₁, rfl, ⟨R₂, E₁.trans (.keeps hm.keeps), ⟨hhc, hle⟩, E₁.none_of hm.new, (Side.new R₁ hm.new).H, _, _, he, rfl, rfl, .inl rfl⟩, w₁⟩

/-! ## A name goes -/
theorem find_eraseIdx {α : Type} {p : α → Bool} : ∀ (l : List α) (i : Nat), (∀ a, l[i]? = some a → p a = false) → (l.eraseIdx i).find? p = l.find? p
  | [], _, _ => by simp
  | a :: l, 0, h => by
    have := h a (by simp)
    simp [this]
  | a :: l, i + 1, h => by
    rw [List.eraseIdx_cons_succ, List.find?_cons, List.find?_cons, find_eraseIdx l i (fun b hb => h b (by simpa using hb))]

theorem nsFind_eraseNe {es : Array DictEntry} {name : Str} {i : Nat} (hk : StrKeys es) (hi : es.findIdx? (fun e => e.key.isStr name) = some i) {x : Str} (hx : x ≠ name) : nsFind (es.eraseIdxIfInBounds i) x = nsFind es x := by
  obtain ⟨l⟩ := es
  simp only [nsFind, findBy, List.eraseIdxIfInBounds_toArray, List.find?_toArray, List.findIdx?_toArray] at hi ⊢
  rw [find_eraseIdx]
  intro a ha
  have hlt : i < l.length := (List.getElem?_eq_some_iff.mp ha).1
  have h1 := (List.findIdx?_eq_some_iff_getElem.mp hi).2.1
  rw [(List.getElem?_eq_some_iff.mp ha).2] at h1
  obtain ⟨n', t, hkk⟩ := hk a (by
    have := List.mem_of_getElem? ha
    simpa using this)
  rw [hkk] at h1 ⊢
  simp only [Value.isStr, beq_iff_eq] at h1 ⊢
  subst h1
  simp only [beq_eq_false_iff_ne]
  exact fun q => hx q.symm

theorem nsDel_keep {M : Model} {A : Around} {E : Value → Shared → Prop} {s : Shared} {a : Addr} {m : Str → Option Value} {name : Str} {Q : Bool → Shared → Prop} (hn : s.heap.Ns a m)
    (hQ : ∀ h' m', h'.Ns a m' → (∀ x, x ≠ name → m' x = m x) → Heap.SameBut a s.heap h' → Q (m name).isSome { s with heap := h' }) : wpAny M A (nsDel a name) Q E s := by
  refine byc fun no => ?_
  obtain ⟨o, es, ep, ho, hd, hk, hm⟩ := id hn
  refine no ?_; clear no
  have hany : es.any (·.refKey) = false := by
    rw [Array.any_eq_false']; intro e he; obtain ⟨n, t, h⟩ := hk e he; simp [DictEntry.refKey, h]
  have hsome : (m name).isSome = es.any (·.key.isStr name) := by
    rw [← hm name]; simp only [nsFind, findBy, Option.isSome_map]
    rw [Bool.eq_iff_iff]; simp only [Array.find?_isSome, Array.any_eq_true]
    constructor
    · rintro ⟨x, hx, hp⟩; obtain ⟨i, hi, rfl⟩ := Array.mem_iff_getElem.mp hx; exact ⟨i, hi, hp⟩
    · rintro ⟨i, hi, hp⟩; exact ⟨_, Array.getElem_mem hi, hp⟩
  have hhas : nsHas name o = pure (es.any (·.key.isStr name)) := by
    rw [nsHas_eq]; unfold nsHasByArray; rw [hd]
    show (if (es.any fun x => x.key.isStr name) = true then _ else _) = _
    generalize (es.any fun x => x.key.isStr name) = b
    cases b <;> simp [hany]
  unfold nsDel
  refine wpAny_bind (wpAny_loadPart ho ?_)
  rw [hhas]
  refine wpAny_bind (wpAny_pure ?_)
  rw [← hsome]
  cases hmn : (m name).isSome
  · have := hQ s.heap m hn (fun _ _ => rfl) (.refl ..)
    rw [hmn] at this
    exact wpAny_pure this
  · refine wpAny_bind (wpAny_updatePart ho (wpAny_pure ?_))
    have key : ∃ m', (s.heap.update a (Obj.dropName name)).Ns a m' ∧ ∀ x, x ≠ name → m' x = m x := by
      refine byc fun no => ?_
      obtain ⟨cl, d, dt, sl⟩ := o
      refine no ?_; clear no
      subst hd
      cases hi : es.findIdx? (·.key.isStr name) with
      | some i => exact ⟨_, ⟨_, _, ep + 1, Heap.get?_update_self _ ho (by simp only [Obj.dropName_eq, Obj.dropNameByArray, hi] <;> rfl), (by simp only [Obj.dropName_eq, Obj.dropNameByArray, hi] <;> rfl), hk.erase i, fun _ => rfl⟩, fun x hx => by rw [nsFind_eraseNe hk hi hx, hm]⟩
      | none => exact ⟨_, ⟨_, _, ep, Heap.get?_update_self _ ho (by simp only [Obj.dropName_eq, Obj.dropNameByArray, hi] <;> rfl), (by simp only [Obj.dropName_eq, Obj.dropNameByArray, hi] <;> rfl), hk, fun _ => rfl⟩, fun x _ => hm x⟩
    obtain ⟨m', hm', hne⟩ := key
    have := hQ _ m' hm' hne (Heap.SameBut.update ..)
    rw [hmn] at this
    exact this

theorem nameGoes {M : Model} {A : Around} {E : Value → Shared → Prop} {s : Shared} {env : Env} {n : Str} {pos : Pos} {m : Str → Option Value} {Q : Unit → Shared → Prop} (hl : env.kindOf n = some .local) (hn : s.heap.Ns env.locals m)
    (hp : (env.scope.kind == .class || (env.scope.kind == .module && env.locals != env.globals)) = false)
    (h : ∀ h' m', h'.Ns env.locals m' → (∀ x, x ≠ n → m' x = m x) → Heap.SameBut env.locals s.heap h' → Q () { s with heap := h', toks := s.toks + 1 }) :
    wpAny M A (do bindName env n .none; unbindBehindTheSuite env n pos) Q E s := by
  refine wpAny_bind (wpAny_bindName (wpAny_storeName_local hl hn (fun h₁ hn₁ hs₁ => ?_) hp))
  unfold unbindBehindTheSuite
  refine wpAny_onRaise ?_
  unfold unbindName
  refine wpAny_bind (wpAny_point (wpAny_bind ?_))
  unfold deleteName
  simp only [hl, hp]
  rw [if_neg (by decide)]
  refine wpAny_bind (nsDel_keep hn₁ fun h₂ m₂ hn₂ hk₂ hs₂ => ?_)
  simp only [if_true, Option.isSome_some, Bool.not_true, Bool.false_eq_true, if_false]
  exact wpAny_pure (wpAny_point (h h₂ m₂ hn₂ (fun x hx => by rw [hk₂ x hx, if_neg hx]) (hs₁.trans hs₂)))

/-- a local is let go -/
theorem Rel.dropL (F : FmOk C M) {σ : AS} {s : Shared} (R : Rel C M σ s) {i : Nat} {x : Str} (hi : M.env.scope.names[i]? = some (x, .local)) {m m' : Str → Option Value} {h' : Heap}
    (hm : ∀ i x av, M.env.scope.names[i]? = some (x, .local) → lk σ.loc i = some av → ∃ v, m x = some v ∧ RV C s.heap v av)
    (hn : h'.Ns M.env.locals m') (hne : ∀ y, y ≠ x → m' y = m y) (hx : Heap.SameBut M.env.locals s.heap h') (t : Nat) :
    Rel C M { σ with loc := σ.loc.set i none } { s with heap := h', toks := t } ∧ Ext M σ s { σ with loc := σ.loc.set i none } { s with heap := h', toks := t } := by
  have own : Own M M.env.locals := .inl rfl
  have im : Im s.heap h' := .extBut hx.extBut fun o e => R.ownMut own e
  have k : ∀ b, b ≠ M.env.locals → h'.get? b = s.heap.get? b := hx.2
  refine byc fun no => ?_
  obtain ⟨o', _, _, ho', _⟩ := id hn
  refine no ?_; clear no
  refine R.store own hx.extBut ho' (fun q => F.out _ q own) t ⟨_, hn, fun j y a e1 e2 => ?_⟩ (fun j y e => ?_) (fun e he => ?_) (fun y c e => ?_) F.frame F.kind
  · rcases lk_set _ _ _ _ _ e2 with ⟨q, e⟩ | ⟨q, e⟩
    · cases e
    · obtain ⟨v', h1, h2⟩ := hm j y a e1 e
      have : y ≠ x := fun z => q (nodup_idx F.nodup (z ▸ e1) hi)
      exact ⟨v', by rw [hne y this]; exact h1, h2.mono im⟩
  · refine byc fun no => ?_
    obtain ⟨c, vo, e1, e2, h⟩ := R.cells j y e
    refine no ?_; clear no
    refine ⟨c, vo, e1, IsCell.keeps1 e2 fun o q => (k c (F.cellsL _ _ (mem_of_lookup e1))).trans q, fun a e3 => ?_⟩
    rcases lk_set _ _ _ _ _ e3 with ⟨q, e'⟩ | ⟨q, e'⟩
    · cases e'
    · obtain ⟨v', h1, h2⟩ := h a e'
      exact ⟨v', h1, h2.mono im⟩
  · obtain ⟨m', hn', h⟩ := R.cns e he
    exact ⟨m', Ns.keeps1 hn' fun o q => (k _ (F.cek e he).2.2.2.2.2).trans q, fun j y a e1 e2 => let ⟨v', h1, h2⟩ := h j y a e1 e2; ⟨v', h1, h2.mono im⟩⟩
  · obtain ⟨vo, h⟩ := R.celld y c e
    exact ⟨vo, IsCell.keeps1 h fun o q => (k c (F.cellsL _ _ e)).trans q⟩

theorem matches_ok (XC : XCls C) (h00 : C.hc 0) {A : Around} {s : Shared} {c : Nat} {e : Addr} {oe : Obj} (hk : ∀ b o, C.base.get? b = some o → s.heap.get? b = some o) (hle : C.hc c ∧ c ≤ 5) (he : s.heap.get? e = some oe) (hcls : oe.cls = .ref (C.ca c)) {Q : Bool → Shared → Prop} {E : Value → Shared → Prop} (q : Q true s) :
    wpAny (model C.prog C.w) A (excMatches (.ref e) (.ref (C.ca 0))) Q E s := by
  refine byc fun no => ?_
  obtain ⟨nm, q', N, bs, bm, bmB, hdct, sn, sub, ab, col, dd, k0, k1, k2, k3, k5, newId, B, Bn, nid, initId, inN, bmN, mN, h1, h2, h3, h4, h5, h6, h7, h8, h9⟩ := XC.obj c hle.1 hle.2
  obtain ⟨nm₀, q₀, N₀, bs₀, bm₀, bmB₀, hdct₀, sn₀, sub₀, ab₀, col₀, dd₀, k0₀, k1₀, k2₀, k3₀, k5₀, newId₀, B₀, Bn₀, nid₀, initId₀, inN₀, bmN₀, mN₀, _, _, _, h4₀, _, h6₀, _⟩ := XC.obj 0 h00 (by (clear hle; omega))
  obtain ⟨h, g, d, t, os⟩ := s
  refine no ?_; clear no
  have hC := hk _ _ h6
  have hC₀ := hk _ _ h6₀
  have hcB : (Value.ref (C.ca 0) :: bm₀).contains (.type "BaseException") = true := by rw [List.contains_cons, h4₀, Bool.or_true]
  have f := tc_notTuple
  unfold excMatches
  repeat (first | (with_reducible refine wpAny_loadPart_at he ?_; rw [hcls]) | with_reducible refine wpAny_loadPart_at hC₀ ?_ | (with_reducible refine wpAny_isSubtype_exc hC₀ ?_; rw [hcB]) | (with_reducible refine wpAny_isSubtype_exc hC ?_; rw [h9]) | wp_step)
  exact q

theorem so_try {b h : List MS} {m : Nat} {b' : List Stmt} {h₀ : Stmt} {h' : List Stmt} {x y : Str} {np ep pos : Pos} (XC : XCls C) (F : FmOk C M) (hS : ScOk S M) (hG : GOk C G) (hx : S.f.lookup x = some .globalImplicit) (hd : noDebug x = true)
    (hc : G.cls.lookup x = some 0) (hy : S.f[m]? = some (y, .local)) (hb : SSs C T hk n M b b') (hh : SSs C T hk n M h (h₀ :: h')) : SS C T hk n M (.try b 0 m h) (.Try b' [.ExceptHandler (some (.Name x np)) (some y) (h₀ :: h') ep] [] [] pos) := by
  intro A σ s Q X hA R w
  obtain ⟨hhd, w⟩ := w
  have h00 : C.hc 0 := by obtain ⟨_, _, _, _, _, k1, _⟩ := hG.ns; exact (k1 x 0 hc).2
  have hy' : M.env.scope.names[m]? = some (y, .local) := by rw [← hS.1]; exact hy
  refine wpAny_Try_except (wpAny_mono (hb A σ s _ _ hA R w) (fun f s₁ g => ?_) fun v s₁ bd => ?_)
  · refine byc fun no => ?_
    obtain ⟨o, σ₁, hf, R₁, E₁, w₁⟩ := g
    refine no ?_; clear no
    cases f with
    | next => exact wpAny_execs_nil ⟨o, σ₁, hf, R₁, E₁, w₁⟩
    | ret v => exact ⟨o, σ₁, hf, R₁, E₁, w₁⟩
    | brk => exact ⟨o, σ₁, hf, R₁, E₁, w₁⟩
    | cont => exact ⟨o, σ₁, hf, R₁, E₁, w₁⟩
  · refine byc fun no => ?_
    obtain ⟨c, e, σ₁, rfl, fl, hd₁, hsub, w₁⟩ := bd
    refine no ?_; clear no
    refine note_ok F hA.frames R fl fun s₂ fl₂ _ => flight_ok F R fl₂ fun s₃ fl₃ _ => ?_
    refine wpAny_handleBy_cons (codeAny_handlers_test (cls_value F hS hG fl₃.rel hx hd hc ?_)) (by intro q; cases q)
    refine byc fun no => ?_
    obtain ⟨oe, vs, he, hcls, hdat, _⟩ := fl₃.obj
    refine no ?_; clear no
    refine matches_ok XC h00 fl₃.rel.keep fl₃.le he hcls ?_
    refine codeAny_handlers_suite_as ?_
    refine flight_ok F R fl₃ fun s₄ fl₄ _ => ?_
    obtain ⟨mm, hn, hm⟩ := fl₄.rel.ns
    refine wpAny_storeName_local (lookup_of_idx F.nodup hy') hn (fun h₅ hn₅ hs₅ => ?_) (fnot F.kind)
    refine byc fun no => ?_
    obtain ⟨oe, vs, he, hcls, hdat, _⟩ := fl₄.obj
    obtain ⟨R₅, E₅⟩ := fl₄.rel.storeL F hy' (v := .ref e) (av := .exc c e) ⟨rfl, fl₄.le.1, oe, vs, he, hcls, hdat⟩ hm hn₅ hs₅ (s₄.toks + 1)
    refine no ?_; clear no
    have R₅' : Rel C M { σ₁ with loc := σ₁.loc.set m (some (.exc c e)), hd := true } { s₄ with heap := h₅, toks := s₄.toks + 1 } := ⟨R₅.keep, R₅.os, R₅.gens, R₅.ns, R₅.cells, R₅.cns, R₅.ho, R₅.own, R₅.celld, R₅.frames, R₅.frsH, R₅.frD⟩
    have hA' : AOk M (A.mark (some (.ref e))) n true := ⟨hA.frames, hA.depth, hA.units, fun q => by cases q⟩
    refine wpAny_mono (hh (A.mark (some (.ref e))) _ _ _ noX hA' R₅' (w₁ e)) (fun f s₆ g => ?_) fun _ _ b => by obtain ⟨_, _, _, _, _, x⟩ := b; exact x.elim
    refine byc fun no => ?_
    obtain ⟨o, σ₆, hf, R₆, E₆, w₆⟩ := g
    obtain ⟨mm₆, hn₆, hm₆⟩ := R₆.ns
    refine no ?_; clear no
    refine nameGoes (lookup_of_idx F.nodup hy') hn₆ (fnot F.kind) fun h₇ m₇ hn₇ hne₇ hs₇ => ?_
    obtain ⟨R₇, E₇⟩ := R₆.dropL F hy' hm₆ hn₇ hne₇ hs₇ (s₆.toks + 1)
    have hf' : FlowIs C h₇ f o := by
      have im := E₇.im R₆
      cases f with
      | next => cases o with
        | next => trivial
        | ret _ => exact hf.elim
      | ret v => cases o with
        | next => exact hf.elim
        | ret a => exact RV.mono im a hf
      | brk => exact hf.elim
      | cont => exact hf.elim
    have e3 : Ext M { σ₁ with loc := σ₁.loc.set m (some (.exc c e)) } { s₄ with heap := h₅, toks := s₄.toks + 1 } { σ₆ with loc := σ₆.loc.set m none, hd := σ₁.hd } { s₆ with heap := h₇, toks := s₆.toks + 1 } :=
      let z := E₆.trans E₇; ⟨z.kept, z.stay, z.new, rfl⟩
    have z := (fl₄.ext.trans E₅).trans e3
    exact ⟨o, { σ₆ with loc := σ₆.loc.set m none, hd := false }, hf', ⟨R₇.keep, R₇.os, R₇.gens, R₇.ns, R₇.cells, R₇.cns, R₇.ho, R₇.own, R₇.celld, R₇.frames, R₇.frsH, R₇.frD⟩, ⟨z.kept, z.stay, z.new, hhd.symm⟩, w₆⟩
end
end Mine
end
section
open PySem
open PyProof.Rows
namespace Mine

section
variable {C : Cx} {T : Tab} {hk : Hook} {n : Nat} {G : GT}

theorem notStar_of {S : Sc} {m : ME} {e : Expr} (h : chkE G S m e = true) : notStar e = true := by
  cases e with
  | Starred => cases m <;> exact absurd h Bool.false_ne_true
  | _ => rfl
theorem notSetE_of {S : Sc} {m : ME} {e : Expr} (h : chkE G S m e = true) {env : Env} (x : Value) : foldedSetIterable e env x = pure x := by
  cases e with
  | Set => cases m <;> exact absurd h Bool.false_ne_true
  | _ => rfl
theorem all_notStar {S : Sc} : ∀ {ms : List ME} {es : List Expr}, chkEs G S ms es = true → es.all notStar = true
  | [], [], _ => rfl
  | m :: ms, e :: es, h => by
    simp only [chkEs, Bool.and_eq_true] at h
    rw [List.all_cons, notStar_of h.1, all_notStar h.2]; rfl
  | [], _ :: _, h => by simp [chkEs] at h
  | _ :: _, [], h => by simp [chkEs] at h

/-- what the ground gives -/
structure Wld (C : Cx) (T : Tab) (hk : Hook) (n : Nat) (G : GT) : Prop where
  XI : XIsi C
  HK : HkOk C hk n
  MK : MkOk C T hk n
  hG : GOk C G
  XC : XCls C
  XO : XObj C T

theorem ce_of {S : Sc} {M : Fm} (hS : ScOk S M) (h : S.c.isNone = true) : M.ce = none := by
  have := hS.2
  rw [Option.isNone_iff_eq_none.mp h] at this
  cases z : M.ce with
  | none => rfl
  | some x => rw [z] at this; cases this

mutual
theorem chkE_ok (W : Wld C T hk n G) (S : Sc) (M : Fm) (F : FmOk C M) (hS : ScOk S M) : ∀ (m : ME) (e : Expr), chkE G S m e = true → SE C T hk n M m e
  | .cNone, _, g0 => by
    apply onConst_ind g0
    intro c i p g1
    apply eq_ind (kNone_of g1)
    exact se_cNone
  | .cBool b, _, g0 => by
    apply onConst_ind g0
    intro c i p g1
    apply eq_ind (kBool_of g1)
    exact se_cBool
  | .cInt b, _, g0 => by
    apply onConst_ind g0
    intro c i p g1
    apply eq_ind (kInt_of g1)
    exact se_cInt
  | .cStr b, _, g0 => by
    apply onConst_ind g0
    intro c i p g1
    apply eq_ind (kStr_of g1)
    exact se_cStr
  | .loc i, _, g0 => by
    apply onName_ind g0
    intro x p g1
    exact se_loc F hS (ands g1).2 (ands g1).1
  | .cv i, _, g0 => by
    apply onName_ind g0
    intro x p g1
    exact se_cv F hS (ands g1).2 (ands g1).1
  | .gfn f, _, g0 => by
    apply onName_ind g0
    intro x p g1
    exact se_gfn F hS W.hG g1
  | .gcls f, _, g0 => by
    apply onName_ind g0
    intro x p g1
    exact se_gcls F hS W.hG g1
  | .gty f, _, g0 => by
    apply onName_ind g0
    intro x p g1
    exact se_gty F hS W.hG g1
  | .gbi f, _, g0 => by
    apply onName_ind g0
    intro x p g1
    exact se_gbi F hS W.hG g1
  | .gint f, _, g0 => by
    apply onName_ind g0
    intro x p g1
    exact se_gint F hS W.hG g1
  | .gtup f, _, g0 => by
    apply onName_ind g0
    intro x p g1
    exact se_gtup F hS W.hG g1
  | .bin op l r, _, g0 => by
    apply onBin_ind g0
    intro l' o' r' p g1
    have h' := ands g1
    have h'' := ands h'.1
    exact se_bin F h''.1 (chkE_ok W S M F hS l _ h''.2) (chkE_ok W S M F hS r _ h'.2)
  | .neg m, _, g0 => by
    apply onUn_ind g0
    intro o e' p g1
    apply eq_ind (isSub_of (ands g1).1)
    exact se_neg (chkE_ok W S M F hS m _ (ands g1).2)
  | .not m, _, g0 => by
    apply onUn_ind g0
    intro o e' p g1
    apply eq_ind (isNot_of (ands g1).1)
    exact se_not (chkE_ok W S M F hS m _ (ands g1).2)
  | .and ms, _, g0 => by
    apply onBool_ind g0
    intro o es p g1
    apply eq_ind (isAnd_of (ands g1).1)
    have h' := ands (ands g1).2
    exact se_and fun Q X A σ s hA R w => chkAnd_ok W S M F hS ms es h'.2 p Q X A σ s hA R w
  | .or ms, _, g0 => by
    apply onBool_ind g0
    intro o es p g1
    apply eq_ind (isOr_of (ands g1).1)
    have h' := ands (ands g1).2
    exact se_or fun Q X A σ s hA R w => chkOr_ok W S M F hS ms es h'.2 p Q X A σ s hA R w
  | .cmp op l r, _, g0 => by
    apply onCmp_ind g0
    intro l' os rs p g1
    apply un1_ind g1
    intro op' g2
    apply un1_ind g2
    intro r' g3
    have h' := ands g3
    have h'' := ands h'.1
    exact se_cmp h''.1 (notSet_marks h'.2) (chkE_ok W S M F hS l _ h''.2) (chkE_ok W S M F hS r _ h'.2)
  | .cmp2 o1 o2 l m r, _, g0 => by
    apply onCmp_ind g0
    intro l' os rs p g1
    apply un2_ind g1
    intro o1' o2' g2
    apply un2_ind g2
    intro m' r' g3
    have h' := ands g3
    have h2 := ands h'.1
    have h3 := ands h2.1
    have h4 := ands h3.1
    exact se_cmp2 h4.1 h4.2 (notSet_marks h'.2) (chkE_ok W S M F hS l _ h3.2) (chkE_ok W S M F hS m _ h2.2) (chkE_ok W S M F hS r _ h'.2)
  | .tup ms, _, g0 => by
    apply onTup_ind g0
    intro es i p g1
    exact se_tup (chkEs_ok W S M F hS ms _ g1)
  | .lst ms, _, g0 => by
    apply onList_ind g0
    intro es p g1
    exact se_lst F (chkEs_ok W S M F hS ms _ g1)
  | .dict ks vs, _, g0 => by
    apply onDict_ind g0
    intro keys vals p g1
    have h1 := ands g1
    have h2 := ands h1.2
    have h3 := ands h2.2
    have h4 := ands h3.2
    exact se_dict F (beq_iff_eq.mp h1.1) (Nat.le_of_ble_eq_true h2.1) h3.1 h4.1 (chkDs_ok W S M F hS vs _ h4.2)
  | .idx m i, _, g0 => by
    apply onSub_ind g0
    intro e' i' p g1
    have h' := ands g1
    have h2 := ands h'.1
    exact se_idx h2.1 (chkE_ok W S M F hS m _ h2.2) (chkE_ok W S M F hS i _ h'.2)
  | .slc m lo hi, _, g0 => by
    apply onSub_ind g0
    intro e' i' p g1
    apply onSlice_ind g1
    intro l u st p' g2
    apply isN_ind (ands g2).1
    have h' := ands (ands g2).2
    have h2 := ands h'.1
    refine se_slc F (chkE_ok W S M F hS m _ h2.1) ?_ ?_
    · cases l with
      | none => cases lo <;> first | rfl | (exact absurd h2.2 Bool.false_ne_true)
      | some x => exact chkE_ok W S M F hS lo _ h2.2
    · cases u with
      | none => cases hi <;> first | rfl | (exact absurd h'.2 Bool.false_ne_true)
      | some x => exact chkE_ok W S M F hS hi _ h'.2
  | .rev m, _, g0 => by
    apply onSub_ind g0
    intro e' i' p g1
    apply onSlice_ind g1
    intro l u st p' g2
    apply isN_ind (ands g2).1
    have h1 := ands (ands g2).2
    apply isN_ind h1.1
    apply some_ind h1.2
    intro y g3
    apply onUn_ind g3
    intro o c p2 g4
    apply eq_ind (isSub_of (ands g4).1)
    have h2 := ands (ands g4).2
    apply onConst_ind h2.1
    intro cc k p1 h3
    apply eq_ind (kInt_of h3)
    exact se_rev F (chkE_ok W S M F hS m _ h2.2)
  | .call f as, _, g0 => by
    apply onCall_ind g0
    intro f' as' kw p g1
    have g2 := (ands g1).2
    revert g2
    apply isNameE_ind (ands g1).1
    intro x q g2
    have h1 := ands g2
    apply nil_ind h1.1
    have h' := ands h1.2
    exact se_call W.XI W.HK W.MK F (chkE_ok W S M F hS f _ h'.1) (chkEs_ok W S M F hS as _ h'.2) (all_notStar h'.2)
  | .meth o m as, _, g0 => by
    apply onCall_ind g0
    intro f' as' kw p g1
    apply onAttr_ind g1
    intro o' n' ap g2
    apply nil_ind (ands g2).1
    have h' := ands (ands g2).2
    have h2 := ands h'.1
    have h3 := ands h2.1
    have h4 := ands h3.1
    have h5 := ands h4.1
    exact se_meth W.HK W.XO F (beq_iff_eq.mp h4.2) h5.2 (all_notStar h'.2) (of_decide_eq_true h3.2) h5.1 (chkE_ok W S M F hS o _ h2.2) (chkEs_ok W S M F hS as _ h'.2)
  | .attr o k, _, g0 => by
    apply onAttr_ind g0
    intro o' n' p g1
    have g2 := (ands g1).2
    revert g2
    apply isNameE_ind (ands g1).1
    intro x q g2
    have h1 := ands g2
    exact se_attr W.XO (beq_iff_eq.mp h1.1) (chkE_ok W S M F hS o _ h1.2)
  | .key o k, _, g0 => by
    apply onSub_ind g0
    intro e' i' p g1
    have h1 := ands g1
    apply onConst_ind h1.1
    intro c i q g2
    obtain ⟨rfl, hk⟩ := isKey_of g2
    exact se_key hk (chkE_ok W S M F hS o _ h1.2)
  | .comp nc elt t it ifs, _, g0 => by
    apply onComp_ind g0
    intro elt' gens sc p g1
    apply un1_ind g1
    intro gg g2
    obtain ⟨t', it', ifs', a⟩ := gg
    obtain rfl : a = 0 := beq_iff_eq.mp (ands g2).1
    have h1 := ands (ands g2).2
    have h2 := ands h1.1
    have h3 := ands h2.1
    have h4 := ands h3.1
    have h5 := ands h4.1
    have h6 := ands h5.1
    have h7 := ands h6.1
    have hce := ce_of hS h7.1
    intro A σ s Q X hA R w
    rw [cur_none hce, eval_ListComp]
    exact comp_ok (use := none) F hS hce (beq_iff_eq.mp h7.2) h5.2 h3.2 (notSetE_of h4.2) (chkE_ok W S M F hS it _ h4.2) (fun M' F' hS' => chkE_ok W _ M' F' hS' elt _ h1.2) (fun M' F' hS' => chkTs_ok W _ M' F' hS' ifs _ h2.2) hA R w
      fun D σ₁ s₁ R₁ E₁ q => ⟨.lst D, σ₁, R₁, E₁, rfl, q⟩
theorem chkEs_ok (W : Wld C T hk n G) (S : Sc) (M : Fm) (F : FmOk C M) (hS : ScOk S M) : ∀ (ms : List ME) (es : List Expr), chkEs G S ms es = true → SEs C T hk n M ms es
  | [], [], _ => ses_nil
  | m :: ms, e :: es, h => by
    have h' := Bool.and_eq_true_iff.mp h
    exact ses_cons (chkE_ok W S M F hS m e h'.1) (chkEs_ok W S M F hS ms es h'.2) (notStar_of h'.1)
  | [], _ :: _, h => absurd h Bool.false_ne_true
  | _ :: _, [], h => absurd h Bool.false_ne_true
theorem chkDs_ok (W : Wld C T hk n G) (S : Sc) (M : Fm) (F : FmOk C M) (hS : ScOk S M) : ∀ (ms : List ME) (es : List Expr), chkEs G S ms es = true → SDs C T hk n M ms es
  | [], [], _ => trivial
  | m :: ms, e :: es, h => ⟨chkE_ok W S M F hS m e (Bool.and_eq_true_iff.mp h).1, chkDs_ok W S M F hS ms es (Bool.and_eq_true_iff.mp h).2⟩
  | [], _ :: _, h => absurd h Bool.false_ne_true
  | _ :: _, [], h => absurd h Bool.false_ne_true
theorem chkAnd_ok (W : Wld C T hk n G) (S : Sc) (M : Fm) (F : FmOk C M) (hS : ScOk S M) : ∀ (ms : List ME) (es : List Expr), chkEs G S ms es = true → SAnd C T hk n M ms es
  | [], [], _ => fun _ _ _ _ _ _ _ _ w => w.elim
  | [m], [e], h => sand_one (chkE_ok W S M F hS m e (Bool.and_eq_true_iff.mp h).1)
  | m :: m' :: ms, e :: e' :: es, h => sand_cons (chkE_ok W S M F hS m e (Bool.and_eq_true_iff.mp h).1) (chkAnd_ok W S M F hS (m' :: ms) (e' :: es) (Bool.and_eq_true_iff.mp h).2)
  | [], _ :: _, h => absurd h Bool.false_ne_true
  | _ :: _, [], h => absurd h Bool.false_ne_true
  | [_], _ :: _ :: _, h => absurd (Bool.and_eq_true_iff.mp h).2 Bool.false_ne_true
  | _ :: _ :: _, [_], h => absurd (Bool.and_eq_true_iff.mp h).2 Bool.false_ne_true
theorem chkOr_ok (W : Wld C T hk n G) (S : Sc) (M : Fm) (F : FmOk C M) (hS : ScOk S M) : ∀ (ms : List ME) (es : List Expr), chkEs G S ms es = true → SOr C T hk n M ms es
  | [], [], _ => fun _ _ _ _ _ _ _ _ w => w.elim
  | [m], [e], h => sor_one (chkE_ok W S M F hS m e (Bool.and_eq_true_iff.mp h).1)
  | m :: m' :: ms, e :: e' :: es, h => sor_cons (chkE_ok W S M F hS m e (Bool.and_eq_true_iff.mp h).1) (chkOr_ok W S M F hS (m' :: ms) (e' :: es) (Bool.and_eq_true_iff.mp h).2)
  | [], _ :: _, h => absurd h Bool.false_ne_true
  | _ :: _, [], h => absurd h Bool.false_ne_true
  | [_], _ :: _ :: _, h => absurd (Bool.and_eq_true_iff.mp h).2 Bool.false_ne_true
  | _ :: _ :: _, [_], h => absurd (Bool.and_eq_true_iff.mp h).2 Bool.false_ne_true
theorem chkT_ok (W : Wld C T hk n G) (S : Sc) (M : Fm) (F : FmOk C M) (hS : ScOk S M) : ∀ (m : MT) (e : Expr), chkT G S m e = true → ST C T hk n M m e
  | .not t, e, h => by
    apply onUn_ind h
    intro o e' p h1
    apply eq_ind (isNot_of (ands h1).1)
    exact st_not (chkT_ok W S M F hS t _ (ands h1).2)
  | .all ts, e, h => by
    apply onBool_ind h
    intro o es p h1
    apply eq_ind (isAnd_of (ands h1).1)
    exact st_all (chkAll_ok W S M F hS ts _ (ands h1).2)
  | .any ts, e, h => by
    apply onBool_ind h
    intro o es p h1
    apply eq_ind (isOr_of (ands h1).1)
    exact st_any (chkAny_ok W S M F hS ts _ (ands h1).2)
  | .e m, e, h => by
    have h' : _ ∧ chkE G S m e = true := Bool.and_eq_true_iff.mp h
    rcases Bool.or_eq_true_iff.mp h'.1 with q | q
    · have g2 := h'.2
      revert g2
      apply onCmp_ind q
      intro l' ops rs p _ g2
      cases m with
      | cmp op l r =>
        apply un1_ind (l := ops) (k := fun op' => un1? rs fun r' => sameC op op' && chkE G S l l' && chkE G S r r') g2
        intro op' k1
        apply un1_ind k1
        intro r' k2
        have q1 := ands k2
        have q2 := ands q1.1
        exact st_cmp q2.1 (notSet_marks q1.2) (chkE_ok W S M F hS l _ q2.2) (chkE_ok W S M F hS r _ q1.2)
      | cmp2 o1 o2 l m r =>
        apply un2_ind (l := ops) (k := fun o1' o2' => un2? rs fun m' r' => sameC o1 o1' && sameC o2 o2' && chkE G S l l' && chkE G S m m' && chkE G S r r') g2
        intro o1' o2' k1
        apply un2_ind k1
        intro m' r' k2
        have q1 := ands k2
        have q2 := ands q1.1
        have q3 := ands q2.1
        have q4 := ands q3.1
        exact st_cmp2 q4.1 q4.2 (notSet_marks q1.2) (chkE_ok W S M F hS l _ q3.2) (chkE_ok W S M F hS m _ q2.2) (chkE_ok W S M F hS r _ q1.2)
      | _ => exact absurd g2 Bool.false_ne_true
    · exact st_e q (chkE_ok W S M F hS m _ h'.2)
theorem chkTs_ok (W : Wld C T hk n G) (S : Sc) (M : Fm) (F : FmOk C M) (hS : ScOk S M) : ∀ (ms : List MT) (es : List Expr), chkTs G S ms es = true → STs C T hk n M ms es
  | [], [], _ => trivial
  | m :: ms, e :: es, h => ⟨chkT_ok W S M F hS m e (Bool.and_eq_true_iff.mp h).1, chkTs_ok W S M F hS ms es (Bool.and_eq_true_iff.mp h).2⟩
  | [], _ :: _, h => absurd h Bool.false_ne_true
  | _ :: _, [], h => absurd h Bool.false_ne_true
theorem chkAll_ok (W : Wld C T hk n G) (S : Sc) (M : Fm) (F : FmOk C M) (hS : ScOk S M) : ∀ (ms : List MT) (es : List Expr), chkTs G S ms es = true → SAll C T hk n M ms es
  | [], [], _ => sall_nil
  | m :: ms, e :: es, h => sall_cons (chkT_ok W S M F hS m e (Bool.and_eq_true_iff.mp h).1) (chkAll_ok W S M F hS ms es (Bool.and_eq_true_iff.mp h).2)
  | [], _ :: _, h => absurd h Bool.false_ne_true
  | _ :: _, [], h => absurd h Bool.false_ne_true
theorem chkAny_ok (W : Wld C T hk n G) (S : Sc) (M : Fm) (F : FmOk C M) (hS : ScOk S M) : ∀ (ms : List MT) (es : List Expr), chkTs G S ms es = true → SAny C T hk n M ms es
  | [], [], _ => sany_nil
  | m :: ms, e :: es, h => sany_cons (chkT_ok W S M F hS m e (Bool.and_eq_true_iff.mp h).1) (chkAny_ok W S M F hS ms es (Bool.and_eq_true_iff.mp h).2)
  | [], _ :: _, h => absurd h Bool.false_ne_true
  | _ :: _, [], h => absurd h Bool.false_ne_true
end
end
end Mine
end
section
open PySem
open PyProof.Rows
namespace Mine

section
variable {C : Cx} {T : Tab} {hk : Hook} {n : Nat} {G : GT}

theorem su_comp (W : Wld C T hk n G) {S : Sc} {M : Fm} (F : FmOk C M) (hS : ScOk S M) {e : ME} {elt' : Expr} {gens : List Comprehension} {sc : Scope} {p : Pos} (h : chkE G S e (.ListComp elt' gens sc p) = true) : SU C T hk n M e (.ListComp elt' gens sc p) := by
  cases e <;> first | (exact absurd h Bool.false_ne_true) | skip
  rename_i nc elt t it ifs
  apply un1_ind (l := gens) (k := fun g => g.is_async == 0 && (S.c.isNone && sc.kind == .function && sc.names.length == nc && namesOk S.f sc.names && chkE G S it g.iter &&
      tgtOk ⟨S.f, some (cnames S.f sc.names)⟩ t g.target && chkTs G ⟨S.f, some (cnames S.f sc.names)⟩ ifs g.ifs && chkE G ⟨S.f, some (cnames S.f sc.names)⟩ elt elt')) h
  intro gg g1
  obtain ⟨t', it', ifs', a⟩ := gg
  obtain rfl : a = 0 := beq_iff_eq.mp (ands g1).1
  have h1 := ands (ands g1).2
  have h2 := ands h1.1
  have h3 := ands h2.1
  have h4 := ands h3.1
  have h5 := ands h4.1
  have h6 := ands h5.1
  have h7 := ands h6.1
  have hce := ce_of hS h7.1
  intro A σ s Q X u P hA R w k
  show wpAny _ A (do let _ ← comprehension (.ListComp elt' [⟨t', it', ifs', 0⟩] sc p) sc M.env _ (newList []) false (eval it' M.env) (some u)) P _ s
  refine wpAny_bind (comp_ok (use := some u) F hS hce (beq_iff_eq.mp h7.2) h5.2 h3.2 (notSetE_of h4.2) (chkE_ok W S M F hS it _ h4.2) (fun M' F' hS' => chkE_ok W _ M' F' hS' elt _ h1.2) (fun M' F' hS' => chkTs_ok W _ M' F' hS' ifs _ h2.2) hA R w ?_)
  intro D σ₁ s₁ R₁ E₁ q
  refine wpAny_mono (k D σ₁ s₁ R₁ E₁ q) (fun _ s₂ g => ?_) fun _ _ b => b
  obtain ⟨σ₂, R₂, E₂, g⟩ := g
  exact ⟨σ₂, R₂, E₂, fun s₃ R₃ E₃ => wpAny_pure (g s₃ R₃ E₃)⟩

theorem chkAsg_ok (W : Wld C T hk n G) {f : List (Str × NameKind)} {M : Fm} (F : FmOk C M) (hS : ScOk ⟨f, none⟩ M) {t : Tgt} {e : ME} {t' e' : Expr} {pos : Pos} (ht : tgtOk ⟨f, none⟩ t t' = true) (hv : (!isTupT t || (valueOk e' && notComp e')) = true) (he : chkE G ⟨f, none⟩ e e' = true) :
    SS C T hk n M (.asg t e) (.Assign [t'] e' pos) := by
  have hce := ce_of hS rfl
  by_cases hn : notComp e' = true
  · have hw : swappedStores [t'] e' M.env = pure none := by
      cases t with
      | loc i => obtain ⟨x, p, rfl, _⟩ := onName_of ht; rfl
      | cv i => obtain ⟨x, p, rfl, _⟩ := onName_of ht; rfl
      | tupl is =>
        obtain ⟨es, k, p, rfl, _⟩ := onTup_of ht
        exact swapped_none (ands hv).1
      | tupc is =>
        obtain ⟨es, k, p, rfl, h1⟩ := onTup_of ht
        cases is with
        | nil =>
          cases es with
          | nil => cases e' <;> rfl
          | cons => exact absurd h1 Bool.false_ne_true
        | cons i is =>
          cases es with
          | nil => exact absurd h1 Bool.false_ne_true
          | cons x es =>
            obtain ⟨_, _, rfl, h2⟩ := onName_of (ands h1).1
            exact absurd h2 Bool.false_ne_true
    exact so_asg_plain F hS hce ht (swaps_not hn) hw (chkE_ok W _ M F hS e _ he)
  · cases e' <;> first | (exact absurd rfl hn) | skip
    · rename_i elt' gens sc p
      cases t with
      | cv i => obtain ⟨_, _, rfl, h2⟩ := onName_of ht; exact absurd h2 Bool.false_ne_true
      | tupl is => obtain ⟨_, _, _, rfl, _⟩ := onTup_of ht; exact so_asg_plain F hS hce ht rfl rfl (chkE_ok W _ M F hS e _ he)
      | tupc is => obtain ⟨_, _, _, rfl, _⟩ := onTup_of ht; exact so_asg_plain F hS hce ht rfl rfl (chkE_ok W _ M F hS e _ he)
      | loc i =>
      obtain ⟨y, py, rfl, _⟩ := onName_of ht
      cases hb : (M.env.blockKind == .function && M.env.kindOf y == some .local && py.line == p.line && !(sc.names.any fun (n, k) => n == y && (k == .local || k == .cell))) with
      | true =>
        refine so_asg_comp F hS hce ht ?_ (su_comp W F hS he)
        show (pure (M.env.blockKind == .function && M.env.kindOf y == some .local && py.line == p.line && !(sc.names.any fun (n, k) => n == y && (k == .local || k == .cell))) : Sem Bool) = pure true
        rw [hb]
      | false =>
        refine so_asg_plain F hS hce ht ?_ rfl (chkE_ok W _ M F hS e _ he)
        show (pure (M.env.blockKind == .function && M.env.kindOf y == some .local && py.line == p.line && !(sc.names.any fun (n, k) => n == y && (k == .local || k == .cell))) : Sem Bool) = pure false
        rw [hb]
    · cases e <;> exact absurd he Bool.false_ne_true
    · cases e <;> exact absurd he Bool.false_ne_true

mutual
theorem chkS_ok (W : Wld C T hk n G) (f : List (Str × NameKind)) (M : Fm) (F : FmOk C M) (hS : ScOk ⟨f, none⟩ M) : ∀ (m : MS) (st : Stmt), chkS G f m st = true → SS C T hk n M m st
  | .pass, _, g0 => by
    apply onPass_ind g0
    intro p
    exact so_pass
  | .expr e, _, g0 => by
    apply onExprS_ind g0
    intro x p g1
    have h' := ands g1
    exact so_expr F (ce_of hS rfl) h'.1 (chkE_ok W _ M F hS e _ h'.2)
  | .ret e, _, g0 => by
    apply onRet_ind g0
    intro x p g1
    apply some_ind g1
    intro v g2
    exact so_ret (ce_of hS rfl) (chkE_ok W _ M F hS e _ g2)
  | .asg t e, _, g0 => by
    apply onAsg_ind g0
    intro ts e' p g1
    apply un1_ind g1
    intro t' g2
    have h1 := ands g2
    have h2 := ands h1.1
    exact chkAsg_ok W F hS h2.1 h2.2 h1.2
  | .setIdx o i e, _, g0 => by
    apply onAsg_ind g0
    intro ts e' p g1
    apply un1_ind g1
    intro t' g2
    apply onSub_ind g2
    intro o' i' p' g3
    have h1 := ands g3
    have h2 := ands h1.1
    have h3 := ands h2.1
    have h4 := ands h3.1
    exact so_setIdx F (ce_of hS rfl) h4.1 (chkE_ok W _ M F hS o _ h3.2) (chkE_ok W _ M F hS i _ h2.2) (chkE_ok W _ M F hS e _ h1.2)
  | .setKey o k e, _, g0 => by
    apply onAsg_ind g0
    intro ts e' p g1
    apply un1_ind g1
    intro t' g2
    apply onSub_ind g2
    intro o' i' p' g3
    have h1 := ands (ands g3).2
    have h2 := ands h1.2
    apply onConst_ind h1.1
    intro c i q g4
    obtain ⟨rfl, hk⟩ := isKey_of g4
    exact so_setKey F (ce_of hS rfl) (ands g3).1 hk (chkE_ok W _ M F hS o _ h2.1) (chkE_ok W _ M F hS e _ h2.2)
  | .setAttr o k e, _, g0 => by
    apply onAsg_ind g0
    intro ts e' p g1
    apply un1_ind g1
    intro t' g2
    apply onAttr_ind g2
    intro o' n' p' g3
    have h1 := ands (ands g3).2
    have h2 := ands h1.2
    exact so_setAttr W.XO F (ce_of hS rfl) (ands g3).1 (beq_iff_eq.mp h1.1) (chkE_ok W _ M F hS o _ h2.1) (chkE_ok W _ M F hS e _ h2.2)
  | .ite c b o, _, g0 => by
    apply onIf_ind g0
    intro c' b' o' p g1
    have h1 := ands g1
    have h2 := ands h1.1
    exact so_ite (ce_of hS rfl) (chkT_ok W _ M F hS c _ h2.1) (chkSs_ok W f M F hS b _ h2.2) (chkSs_ok W f M F hS o _ h1.2)
  | .for t it b, _, g0 => by
    apply onFor_ind g0
    intro t' it' b' o' p g1
    apply nil_ind (ands g1).1
    have h1 := ands (ands g1).2
    have h2 := ands h1.1
    have h3 := ands h2.1
    exact so_for F hS (ce_of hS rfl) h3.1 (notSetE_of h2.2) (chkE_ok W _ M F hS it _ h2.2) (chkSs_ok W f M F hS b _ h1.2)
  | .while c b, _, g0 => by
    apply onWhile_ind g0
    intro c' b' o' p g1
    apply nil_ind (ands g1).1
    have h1 := ands (ands g1).2
    exact so_while (ce_of hS rfl) (chkT_ok W _ M F hS c _ h1.1) (chkSs_ok W f M F hS b _ h1.2)
  | .raise c s, _, g0 => by
    apply onRaise_ind g0
    intro ex ca p g1
    apply isN_ind (ands g1).1
    apply some_ind (ands g1).2
    intro ex g2
    apply onCall_ind g2
    intro fe as kw cp g3
    apply nil_ind (ands g3).1
    apply onName_ind (ands g3).2
    intro x np g4
    apply un1_ind g4
    intro a g5
    apply onConst_ind g5
    intro cc k ap g6
    have h1 := ands g6
    have h2 := ands h1.1
    have h3 := ands h2.1
    have h4 := ands h3.1
    apply eq_ind (kStr_of h2.2)
    exact so_raise (S := ⟨f, none⟩) W.XC F (ce_of hS rfl) hS W.hG (beq_iff_eq.mp h4.2) h4.1 (beq_iff_eq.mp h3.2) (Nat.le_of_ble_eq_true h1.2)
  | .try b c m hh, _, g0 => by
    apply onTry_ind g0
    intro b' hs oe fi p g1
    apply nil_ind (ands g1).1
    have h0 := ands (ands g1).2
    apply nil_ind h0.1
    apply un1_ind h0.2
    intro hx g2
    obtain ⟨ty, nm, hb, ep⟩ := hx
    apply some_ind (o := ty) g2
    intro ty g3
    apply onName_ind g3
    intro x np g4
    apply some_ind g4
    intro y g5
    have h1 := ands g5
    have h2 := ands h1.1
    have h3 := ands h2.1
    have h4 := ands h3.1
    have h5 := ands h4.1
    have h6 := ands h5.1
    have h7 := ands h6.1
    obtain rfl : c = 0 := beq_iff_eq.mp h5.2
    cases hb with
    | nil => cases hh with
      | nil => exact absurd h1.2 Bool.false_ne_true
      | cons => exact absurd h2.2 Bool.false_ne_true
    | cons h₀ hb => exact so_try (S := ⟨f, none⟩) W.XC F hS W.hG (beq_iff_eq.mp h7.2) h7.1 (beq_iff_eq.mp h6.2) (beq_iff_eq.mp h4.2) (chkSs_ok W f M F hS b _ h3.2) (chkSs_ok W f M F hS hh _ h2.2)
theorem chkSs_ok (W : Wld C T hk n G) (f : List (Str × NameKind)) (M : Fm) (F : FmOk C M) (hS : ScOk ⟨f, none⟩ M) : ∀ (ms : List MS) (sts : List Stmt), chkSs G f ms sts = true → SSs C T hk n M ms sts
  | [], [], _ => ss_nil'
  | m :: ms, st :: sts, h => ss_cons' (chkS_ok W f M F hS m st (Bool.and_eq_true_iff.mp h).1) (chkSs_ok W f M F hS ms sts (Bool.and_eq_true_iff.mp h).2)
  | [], _ :: _, h => absurd h Bool.false_ne_true
  | _ :: _, [], h => absurd h Bool.false_ne_true
end
end
end Mine
end
section
open PySem
open PyProof.Rows
namespace Mine

/-! ## A call's frame -/
theorem cellsFrom_nodup : ∀ (names : List (Str × NameKind)) (k : Nat) (acc : List (Str × Addr)), (names.map (·.1)).Nodup → (acc.map (·.1)).Nodup → (∀ x ∈ acc.map (·.1), x ∉ names.map (·.1)) → ((cellsFrom k names acc).map (·.1)).Nodup
  | [], _, _, _, h, _ => h
  | (n, kd) :: r, k, acc, h1, h2, h3 => by
    simp only [List.map_cons, List.nodup_cons] at h1
    unfold cellsFrom
    split
    · refine cellsFrom_nodup r _ _ h1.2 ?_ ?_
      · simp only [List.map_cons, List.nodup_cons]
        exact ⟨fun q => h3 n q (by simp), h2⟩
      · intro x hx
        simp only [List.map_cons, List.mem_cons] at hx
        rcases hx with rfl | hx
        · exact h1.1
        · exact fun q => h3 x hx (by simp only [List.map_cons, List.mem_cons]; exact .inr q)
    · exact cellsFrom_nodup r _ _ h1.2 h2 fun x hx q => h3 x hx (by simp only [List.map_cons, List.mem_cons]; exact .inr q)
theorem cellsFrom_has {x : Str} : ∀ {names : List (Str × NameKind)} {k : Nat} {acc : List (Str × Addr)}, ((x, .cell) ∈ names ∨ ∃ c, (x, c) ∈ acc) → ∃ c, (x, c) ∈ cellsFrom k names acc
  | [], _, _, h => by
    rcases h with h | h
    · cases h
    · exact h
  | (n, kd) :: r, k, acc, h => by
    unfold cellsFrom
    split
    · refine cellsFrom_has ?_
      rcases h with h | ⟨c, h⟩
      · rcases List.mem_cons.mp h with q | q
        · cases q; exact .inr ⟨_, .head _⟩
        · exact .inl q
      · exact .inr ⟨c, .tail _ h⟩
    · rename_i hk
      refine cellsFrom_has ?_
      rcases h with h | h
      · rcases List.mem_cons.mp h with q | q
        · cases q; exact absurd rfl hk
        · exact .inl q
      · exact .inr h

theorem lookup_mem {x : Str} {c : Addr} : ∀ {l : List (Str × Addr)}, (l.map (·.1)).Nodup → (x, c) ∈ l → l.lookup x = some c
  | [], _, h => by cases h
  | (y, d) :: r, hn, h => by
    simp only [List.map_cons, List.nodup_cons] at hn
    rw [List.lookup_cons]
    rcases List.mem_cons.mp h with q | q
    · cases q; simp
    · have : x ≠ y := fun z => hn.1 (z ▸ List.mem_map_of_mem (f := (·.1)) q)
      rw [beq_eq_false_iff_ne.mpr this]
      exact lookup_mem hn.2 q

theorem bindL_not {kd : Str → Option NameKind} {x : Str} : ∀ (ps : List Str) (vals : List Value) (m : Str → Option Value), x ∉ ps → bindL kd (ps.zip vals) m x = m x
  | [], _, _, _ => rfl
  | _ :: _, [], _, _ => rfl
  | p :: ps, v :: vals, m, h => by
    rw [List.mem_cons, not_or] at h
    show bindL kd (ps.zip vals) _ x = m x
    rw [bindL_not ps vals _ h.2]
    split
    · simp [h.1]
    · rfl
theorem bindC_not {kd : Str → Option NameKind} {x : Str} : ∀ (ps : List Str) (vals : List Value) (m : Str → Option Value), x ∉ ps → bindC kd (ps.zip vals) m x = m x
  | [], _, _, _ => rfl
  | _ :: _, [], _, _ => rfl
  | p :: ps, v :: vals, m, h => by
    rw [List.mem_cons, not_or] at h
    show bindC kd (ps.zip vals) _ x = m x
    rw [bindC_not ps vals _ h.2]
    split
    · rfl
    · simp [h.1]
theorem bindL_at {kd : Str → Option NameKind} {x : Str} {v : Value} (hk : kd x = some .local) : ∀ (ps : List Str) (vals : List Value) (m : Str → Option Value) (i : Nat), ps.Nodup → ps[i]? = some x → vals[i]? = some v → bindL kd (ps.zip vals) m x = some v
  | [], _, _, i, _, h, _ => by simp at h
  | _ :: _, [], _, i, _, _, h => by simp at h
  | p :: ps, u :: vals, m, 0, hn, h1, h2 => by
    simp only [List.getElem?_cons_zero, Option.some.injEq] at h1 h2
    subst h1 h2
    show bindL kd (ps.zip vals) _ p = some u
    rw [bindL_not ps vals _ (List.nodup_cons.mp hn).1, if_pos hk]
    simp
  | p :: ps, u :: vals, m, i + 1, hn, h1, h2 => by
    simp only [List.getElem?_cons_succ] at h1 h2
    exact bindL_at hk ps vals _ i (List.nodup_cons.mp hn).2 h1 h2
theorem bindC_at {kd : Str → Option NameKind} {x : Str} {v : Value} (hk : kd x ≠ some .local) : ∀ (ps : List Str) (vals : List Value) (m : Str → Option Value) (i : Nat), ps.Nodup → ps[i]? = some x → vals[i]? = some v → bindC kd (ps.zip vals) m x = some v
  | [], _, _, i, _, h, _ => by simp at h
  | _ :: _, [], _, i, _, _, h => by simp at h
  | p :: ps, u :: vals, m, 0, hn, h1, h2 => by
    simp only [List.getElem?_cons_zero, Option.some.injEq] at h1 h2
    subst h1 h2
    show bindC kd (ps.zip vals) _ p = some u
    rw [bindC_not ps vals _ (List.nodup_cons.mp hn).1, if_neg hk]
    simp
  | p :: ps, u :: vals, m, i + 1, hn, h1, h2 => by
    simp only [List.getElem?_cons_succ] at h1 h2
    exact bindC_at hk ps vals _ i (List.nodup_cons.mp hn).2 h1 h2

theorem lk_args {k : Nat} : ∀ {as : List AV} {i : Nat} {a : AV}, lk (as.map some ++ List.replicate k none) i = some a → as[i]? = some a
  | [], i, a, h => by
    rw [List.map_nil, List.nil_append, lk_replicate] at h; cases h
  | x :: as, 0, a, h => by
    change some x = some a at h
    simpa using h
  | x :: as, i + 1, a, h => by
    simp only [List.getElem?_cons_succ]
    exact lk_args (k := k) h

theorem not_of {b : Bool} (h : (!b) = true) : b = false := by cases b <;> first | rfl | cases h
/-- what the checker says of a function -/
structure CF (G : GT) (d : FunDef) (params : Arguments) (body : List Stmt) (sc : Scope) : Prop where
  p1 : params.posonlyargs = []
  p2 : params.vararg = none
  p3 : params.kwonlyargs = []
  p4 : params.kwarg = none
  c7 : params.args.length = d.args
  c9 : (sc.names.take d.args).map (·.1) = params.args.map (·.arg)
  c10 : ∀ x ∈ sc.names.take d.args, x.2 = .local ∨ x.2 = .cell
  c11 : sc.kind = .function
  c12 : sc.isGenerator = false
  c13 : sc.isCoroutine = false
  c14 : nodupB (sc.names.map (·.1)) = true
  c16 : chkSs G sc.names d.body body = true
theorem cf_of {G : GT} {d : FunDef} {params : Arguments} {body : List Stmt} {sc : Scope} (h : chkF G d params body sc = true) : CF G d params body sc := by
  have a1 := ands h
  have a2 := ands a1.1
  have a3 := ands a2.1
  have a4 := ands a3.1
  have a5 := ands a4.1
  have a6 := ands a5.1
  have a7 := ands a6.1
  have a8 := ands a7.1
  have a9 := ands a8.1
  have a10 := ands a9.1
  have a11 := ands a10.1
  have a12 := ands a11.1
  have a13 := ands a12.1
  have a14 := ands a13.1
  have a15 := ands a14.1
  refine ⟨List.isEmpty_iff.mp a15.1, Option.isNone_iff_eq_none.mp a15.2, List.isEmpty_iff.mp a14.2, Option.isNone_iff_eq_none.mp a13.2, beq_iff_eq.mp a10.2, beq_iff_eq.mp a8.2, fun x hx => ?_, beq_iff_eq.mp a6.2, not_of a5.2, not_of a4.2, a3.2, a1.2⟩
  have := List.all_eq_true.mp a7.2 x hx
  exact (Bool.or_eq_true_iff.mp this).imp beq_iff_eq.mp beq_iff_eq.mp

/-- a function of the program -/
inductive FunOk (C : Cx) (G : GT) (f : Nat) (d : FunDef) : Prop
  | mk (o : Obj) (fd : FuncData) (params : Arguments) (body : List Stmt) (h1 : C.base.get? (C.fa f) = some o) (h2 : o.data = .func fd) (h3 : C.base.CodeRec fd.code fd.qualname) (h4 : fd.body = .stmts body) (h5 : fd.closure = []) (h6 : fd.globals = mainGlobals) (h7 : fd.builtins = builtinsNs)
    (h8 : chkF G d params body fd.scope = true) (h9 : ∀ vals : List Value, vals.length = d.args → bindArgs fd ⟨vals, []⟩ = pure ((params.args.map (·.arg)).zip vals)) : FunOk C G f d

section
variable {C : Cx} {M : Fm} {σ : AS} {s : Shared}

/-- back in the caller -/
theorem back_ok (F : FmOk C M) (R : Rel C M σ s) {M' : Fm} (hout : M'.outer = M.env :: M.outer) (hown : ∀ b o, s.heap.get? b = some o → ¬ Own M' b) {σ₁ σ₂ : AS} {s₁ s₂ : Shared} (kp : ∀ b o, s.heap.get? b = some o → s₁.heap.get? b = some o) (hH : σ₁.H = σ.H)
    (R₁ : Rel C M' σ₁ s₁) (R₂ : Rel C M' σ₂ s₂) (E : Ext M' σ₁ s₁ σ₂ s₂) : Rel C M { σ with H := σ₂.H } s₂ ∧ Ext M σ s { σ with H := σ₂.H } s₂ := by
  have hfrs : frs M' = M.env.locals :: frs M := by
    unfold frs
    rw [hout, List.filterMap_cons, F.frame]
  have im : Im s.heap s₂.heap := by
    have i1 : Im s.heap s₁.heap := .keeps kp
    have i2 := E.im R₁
    exact ⟨fun b o e hi => i2.obj b o (i1.obj b o e hi) hi, fun b o c vs e hc hd => by
      refine byc fun no => ?_
      obtain ⟨o', vs', e', hc', hd'⟩ := i1.exc b o c vs e hc hd
      refine no ?_; clear no
      exact i2.exc b o' c vs' e' hc' hd'⟩
  -- what the caller had, but for its lists
  have kept : ∀ b o, s.heap.get? b = some o → σ.H b = none → (b ≠ M.env.locals → b ∉ frs M → s₂.heap.get? b = some o) ∧ ∃ sl, s₂.heap.get? b = some { o with slots := sl } := fun b o e nH => by
    obtain ⟨k1, k2⟩ := E.kept b o (kp b o e) (hown b o e) (by rw [hH]; exact nH)
    exact ⟨fun n1 n2 => k1 (by rw [hfrs]; simp [n1, n2]), k2⟩
  have stay : ∀ b o, s.heap.get? b = some o → ∃ o', s₂.heap.get? b = some o' := fun b o e => E.stay b o (kp b o e)
  have nH : ∀ b o, s.heap.get? b = some o → σ.H b = none → σ₂.H b = none := fun b o e n => by
    cases q : σ₂.H b with
    | none => rfl
    | some x =>
      rcases E.new b (by rw [q]; simp) with z | z
      · rw [hH] at z; exact absurd n z
      · rw [kp b o e] at z; cases z
  have owns : ∀ b, Own M b → ∃ o, s.heap.get? b = some o := fun b hb => by
    rcases hb with rfl | ⟨x, hx⟩ | ⟨e, he, rfl⟩
    · obtain ⟨m, ⟨o, _, _, e, _⟩, _⟩ := R.ns; exact ⟨o, e⟩
    · obtain ⟨vo, o, e, _⟩ := R.celld _ _ hx; exact ⟨o, e⟩
    · obtain ⟨m, ⟨o, _, _, e, _⟩, _⟩ := R.cns _ he; exact ⟨o, e⟩
  have cellk : ∀ x c, (x, c) ∈ M.env.cells → ∀ o, s.heap.get? c = some o → s₂.heap.get? c = some o := fun x c hx o e =>
    (kept c o e (R.own c (.inr (.inl ⟨x, hx⟩))).1).1 (F.cellsL x c hx) fun q => F.out c q (.inr (.inl ⟨x, hx⟩))
  refine ⟨⟨R₂.keep, R₂.os, R₂.gens, ?_, ?_, ?_, R₂.ho, fun b hb => ?_, ?_, ?_, fun b hb => R₂.frsH b (by rw [hfrs]; exact .tail _ hb), fun b hb => R₂.frD b (by rw [hfrs]; exact .tail _ hb)⟩, ⟨fun b o e no n => ?_, stay, fun a h => ?_, rfl⟩⟩
  · obtain ⟨m, hn, h⟩ := R.ns
    exact ⟨m, Ns.slots hn fun o e => (kept _ o e (R.own _ (.inl rfl)).1).2, fun i x av e1 e2 => let ⟨v, hv, r⟩ := h i x av e1 e2; ⟨v, hv, r.mono im⟩⟩
  · intro j x e
    refine byc fun no => ?_
    obtain ⟨c, vo, e1, e2, h⟩ := R.cells j x e
    refine no ?_; clear no
    exact ⟨c, vo, e1, IsCell.keeps1 e2 (cellk x c (mem_of_lookup e1)), fun av e3 => let ⟨v, hv, r⟩ := h av e3; ⟨v, hv, r.mono im⟩⟩
  · intro e he
    obtain ⟨m, hn, h⟩ := R.cns e he
    exact ⟨m, Ns.slots hn fun o q => (kept _ o q (R.own _ (.inr (.inr ⟨e, he, rfl⟩))).1).2, fun i x av e1 e2 => let ⟨v, hv, r⟩ := h i x av e1 e2; ⟨v, hv, r.mono im⟩⟩
  · obtain ⟨o, e⟩ := owns b hb
    exact ⟨nH b o e (R.own b hb).1, (R.own b hb).2⟩
  · intro x c e
    obtain ⟨vo, h⟩ := R.celld x c e
    exact ⟨vo, IsCell.keeps1 h (cellk x c e)⟩
  · have := R₂.frames.2.2
    rw [hout] at this
    exact this
  · obtain ⟨k1, k2⟩ := kept b o e n
    exact ⟨fun hb => k1 (fun q => no (.inl q)) hb, k2⟩
  · rcases E.new a h with z | z
    · rw [hH] at z; exact .inl z
    · right
      cases q : s.heap.get? a with
      | none => rfl
      | some o => rw [kp a o q] at z; cases z
end

section
variable {C : Cx} {T : Tab} {G : GT}

theorem hook_ok (XI : XIsi C) (hG : GOk C G) (XC : XCls C) (XO : XObj C T) (NL : C.base.NoLimit) (hF : ∀ f d, C.hf f → T.funs f = some d → FunOk C G f d) (MK : ∀ n, HkOk C (CallN T n) n → MkOk C T (CallN T n) n) : ∀ n, HkOk C (CallN T n) n
  | 0 => fun _ _ _ _ _ _ _ h => h.elim
  | n + 1 => by
    have ih := hook_ok XI hG XC XO NL hF MK n
    have W : Wld C T (CallN T n) n G := ⟨XI, ih, MK n ih, hG, XC, XO⟩
    intro f as H hd Q X hff w
    refine byc fun no => ?_
    obtain ⟨d, hd', hlen, w⟩ := need_of w
    obtain ⟨o, fd, params, body, h1, h2, h3, h4, h5, h6, h7, h8, h9⟩ := hF f d hff hd'
    refine no ?_; clear no
    refine ⟨⟨o, fd, h1, h2⟩, ?_⟩
    intro M A σ s vs F hA R hH hhd r
    subst hH hhd
    have cf := cf_of h8
    have hnd := nodup_of cf.c14
    have hvl := rvs_length r
    -- parameters
    have hps : ∀ i, i < d.args → (params.args.map (·.arg))[i]? = (fd.scope.names[i]?).map (·.1) := fun i hi => by
      rw [← cf.c9, List.getElem?_map, List.getElem?_take, if_pos hi]
    have hpn : (params.args.map (·.arg)).Nodup := by
      rw [← cf.c9]
      exact hnd.sublist (List.Sublist.map _ (List.take_sublist ..))
    have hkd : ∀ x ∈ (params.args.map (·.arg)).zip vs, fd.scope.names.lookup x.1 = some .local ∨ (fd.scope.names.lookup x.1 = some .cell ∧ ((cellsFrom (s.heap.objs.size + 1) fd.scope.names []).lookup x.1).isSome = true) := fun x hx => by
      have hx1 : x.1 ∈ params.args.map (·.arg) := (List.of_mem_zip hx).1
      rw [← cf.c9] at hx1
      refine byc fun no => ?_
      obtain ⟨y, hy, e⟩ := List.mem_map.mp hx1
      have hy' := List.mem_of_mem_take hy
      obtain ⟨i, hi⟩ := List.mem_iff_getElem?.mp hy'
      refine no ?_; clear no
      have hlk : fd.scope.names.lookup x.1 = some y.2 := lookup_of_idx hnd (show fd.scope.names[i]? = some (x.1, y.2) by rw [hi, ← e])
      rcases cf.c10 y hy with q | q
      · exact .inl (by rw [hlk, q])
      · refine .inr ⟨by rw [hlk, q], ?_⟩
        refine byc fun no => ?_
        obtain ⟨c, hc⟩ := cellsFrom_has (k := s.heap.objs.size + 1) (acc := []) (.inl (show (x.1, NameKind.cell) ∈ fd.scope.names by rw [← e, ← q]; exact hy'))
        obtain ⟨d', hd'⟩ := lookup_some hc
        refine no ?_; clear no
        rw [hd']; rfl
    have kk : ∀ b o', C.base.get? b = some o' → s.heap.get? b = some o' := R.keep
    refine codeAny_call_cells (binds := (params.args.map (·.arg)).zip vs) (by have := hA.depth; (clear hlen h6 h7 hvl; omega)) (R.keep _ _ h1) h2 (NL.keeps kk) (h3.keeps kk) h4 (h9 vs (by (clear h6 h7; omega))) h5 hkd (fun s₁ x => ?_) cf.c13 cf.c12 cf.c11
    generalize henv : callEnvC fd s.heap.objs.size (C.fa f) = env at x ⊢
    have e1 : env.locals = s.heap.objs.size := by rw [← henv]; rfl
    have e2 : env.scope = fd.scope := by rw [← henv]; rfl
    have e3 : env.frame = some env.locals := by rw [← henv]; rfl
    have e4 : env.cells = cellsFrom (s.heap.objs.size + 1) fd.scope.names [] := by rw [← henv]; rfl
    have e5 : env.globals = mainGlobals := by rw [← henv]; exact h6
    have e6 : env.builtins = builtinsNs := by rw [← henv]; exact h7
    have cn : (env.cells.map (·.1)).Nodup := by rw [e4]; exact cellsFrom_nodup _ _ _ hnd (by simp) (by simp)
    have kp : ∀ b o', s.heap.get? b = some o' → s₁.heap.get? b = some o' := x.toInCall.keep
    have lt : ∀ b o', s.heap.get? b = some o' → b < env.locals := fun b o' e => by rw [e1]; exact Heap.lt_size e
    have hown : ∀ b o', s.heap.get? b = some o' → ¬ Own ⟨env, M.env :: M.outer, none⟩ b := fun b o' e q => by
      have := lt b o' e
      rcases q with q | ⟨y, hy⟩ | ⟨e', he, _⟩
      · rw [q] at this; exact Nat.lt_irrefl _ this
      · exact Nat.lt_irrefl _ (Nat.lt_trans this (x.above y b hy))
      · cases he
    have fresh : ∀ b, Own ⟨env, M.env :: M.outer, none⟩ b → s.heap.get? b = none := fun b hb => by
      cases q : s.heap.get? b with
      | none => rfl
      | some o' => exact absurd hb (hown b o' q)
    refine byc fun no => ?_
    obtain ⟨mL, hnL, _⟩ := R.ns
    have F' : FmOk C ⟨env, M.env :: M.outer, none⟩ := by
      refine ⟨by rw [e2]; exact cf.c11, e5, e6, e3, ?_, by rw [e2]; exact hnd, cn, x.apart, fun y c hy => Nat.ne_of_gt (x.above y c hy), fun b hb q => ?_, fun _ h => no_some h, fun _ h => no_some h, fun _ h => no_some h⟩
      · show C.base.objs.size ≤ env.locals
        rw [e1]
        exact Nat.le_trans F.above (Nat.le_of_lt hnL.lt)
      · have : ∃ o', s.heap.get? b = some o' := by
          have hb : b ∈ (M.env :: M.outer).filterMap (·.frame) := hb
          obtain ⟨_, o', ho', _⟩ := R.frames.mem hb
          exact ⟨o', ho'⟩
        obtain ⟨o', ho'⟩ := this
        exact hown b o' ho' q
    obtain ⟨h', tk, hs₁⟩ := x.toInCall.same
    refine no ?_; clear no
    have hk : env.kindOf = fun y => fd.scope.names.lookup y := by funext y; rw [kindOf_eq, e2]
    have im : Im s.heap s₁.heap := .keeps kp
    have hat : ∀ {i : Nat} {y : Str} {kd : NameKind} {av : AV}, fd.scope.names[i]? = some (y, kd) → lk (as.map some ++ List.replicate (d.locs - d.args) none) i = some av → ∃ v, (params.args.map (·.arg))[i]? = some y ∧ vs[i]? = some v ∧ RV C s₁.heap v av := by
      intro i y kd av hi hav
      have ha := lk_args hav
      have hlt : i < d.args := by have := (List.getElem?_eq_some_iff.mp ha).1; (clear h6 h7 e1 e5 e6; omega)
      obtain ⟨v, hv, rv⟩ := (rvs_at r i).2 av ha
      exact ⟨v, by rw [hps i hlt, hi]; rfl, hv, rv.mono im⟩
    have R₁ : Rel C ⟨env, M.env :: M.outer, none⟩ ⟨as.map some ++ List.replicate (d.locs - d.args) none, [], σ.H, σ.hd⟩ s₁ := by
      refine ⟨fun b o' e => kp b o' (R.keep b o' e), by rw [hs₁]; exact R.os, by rw [hs₁]; exact R.gens, ⟨_, x.toInCall.ns, fun i y av e1' e2' => ?_⟩, fun i y e => ?_, fun _ h => no_some h, fun b o' e => ⟨(R.ho b o' e).1.keeps (fun ob q => kp b ob q) im, (R.ho b o' e).2⟩, fun b hb => ?_, fun y c hy => ?_, ?_, fun b hb => ?_, fun b hb => ?_⟩
      · have e1' : fd.scope.names[i]? = some (y, .local) := by rw [← e2]; exact e1'
        refine byc fun no => ?_
        obtain ⟨v, a1, a2, a3⟩ := hat e1' e2'
        refine no ?_; clear no
        exact ⟨v, bindL_at (by rw [hk]; exact lookup_of_idx hnd e1') _ _ _ i hpn a1 a2, a3⟩
      · have e' : fd.scope.names[i]? = some (y, .cell) := by rw [← e2]; exact e
        obtain ⟨c, hc⟩ := cellsFrom_has (k := s.heap.objs.size + 1) (acc := []) (.inl (List.mem_of_getElem? e'))
        have hc' : env.cells.lookup y = some c := lookup_mem cn (by rw [e4]; exact hc)
        refine ⟨c, _, hc', x.cell y c hc', fun av hav => ?_⟩
        refine byc fun no => ?_
        obtain ⟨v, a1, a2, a3⟩ := hat e' hav
        refine no ?_; clear no
        exact ⟨v, bindC_at (by rw [hk]; show fd.scope.names.lookup y ≠ _; rw [lookup_of_idx hnd e']; simp) _ _ _ i hpn a1 a2, a3⟩
      · have S := Side.new R (fresh b hb)
        exact ⟨S.H, S.base⟩
      · exact ⟨_, x.cell y c (lookup_mem cn hy)⟩
      · refine Heap.FunFrames.cons (by rw [e2, cf.c11]; decide) e3 x.toInCall.ns ?_ (R.frames.of_keeps fun b o' e _ => ⟨o', kp b o' e, rfl⟩)
        exact (Side.new R (fresh env.locals (.inl rfl))).base
      · have hb : b ∈ (M.env :: M.outer).filterMap (·.frame) := hb
        rw [List.filterMap_cons, F.frame] at hb
        rcases List.mem_cons.mp hb with q | q
        · rw [q]; exact (R.own _ (.inl rfl)).1
        · exact R.frsH b q
      · have hb : b ∈ (M.env :: M.outer).filterMap (·.frame) := hb
        rw [List.filterMap_cons, F.frame] at hb
        rcases List.mem_cons.mp hb with q | q
        · refine byc fun no => ?_
          obtain ⟨o', es, ep, e, hd, _⟩ := hnL
          refine no ?_; clear no
          exact ⟨o', es, ep, by rw [q]; exact kp _ _ e, hd⟩
        · refine byc fun no => ?_
          obtain ⟨o', es, ep, e, hd⟩ := R.frD b q
          refine no ?_; clear no
          exact ⟨o', es, ep, kp _ _ e, hd⟩
    have hA' : AOk ⟨env, M.env :: M.outer, none⟩ (A.deeper env) n σ.hd := by
      refine ⟨Around.frames_deeper hA.frames, ?_, ?_, fun q => hA.handled q⟩
      · have := hA.depth
        show A.depth + 1 + 3 * n + 20 < recursionLimit
        (clear hlen h6 h7 hvl e1 e5 e6; omega)
      · have := hA.units
        show A.units + 3 + 20 * n + 200 < cLine
        (clear hlen h6 h7 hvl e1 e5 e6; omega)
    have hS : ScOk ⟨fd.scope.names, none⟩ ⟨env, M.env :: M.outer, none⟩ := ⟨by rw [e2], rfl⟩
    have run := chkSs_ok W fd.scope.names ⟨env, M.env :: M.outer, none⟩ F' hS d.body body cf.c16 (A.deeper env) ⟨as.map some ++ List.replicate (d.locs - d.args) none, [], σ.H, σ.hd⟩ s₁ _ _ hA' R₁ w
    refine wpAny_mono run (fun fl s₂ g => ?_) fun v s₂ b => ?_
    · refine byc fun no => ?_
      obtain ⟨o', σ₂, hfl, R₂, E₂, q⟩ := g
      obtain ⟨R₃, E₃⟩ := back_ok F R (M' := ⟨env, M.env :: M.outer, none⟩) rfl hown kp (σ₁ := ⟨as.map some ++ List.replicate (d.locs - d.args) none, [], σ.H, σ.hd⟩) rfl R₁ R₂ E₂
      refine no ?_; clear no
      cases fl with
      | next => cases o' with
        | next => exact ⟨.none, _, R₃, E₃, rfl, rfl, q⟩
        | ret _ => exact hfl.elim
      | ret v => cases o' with
        | next => exact hfl.elim
        | ret av => exact ⟨av, _, R₃, E₃, hfl, rfl, q⟩
      | brk => exact hfl.elim
      | cont => exact hfl.elim
    · refine byc fun no => ?_
      obtain ⟨c, e, σ₂, rfl, fl, q⟩ := b
      refine no ?_; clear no
      unfold leaving
      refine wpAny_bind (note_ok F' hA'.frames R₁ fl fun s₃ fl₃ _ => flight_ok F' R₁ fl₃ fun s₄ fl₄ _ => ?_)
      refine byc fun no => ?_
      obtain ⟨R₅, E₅⟩ := back_ok F R (M' := ⟨env, M.env :: M.outer, none⟩) rfl hown kp (σ₁ := ⟨as.map some ++ List.replicate (d.locs - d.args) none, [], σ.H, σ.hd⟩) rfl R₁ fl₄.rel fl₄.ext
      have nn : ∀ b, s₁.heap.get? b = none → s.heap.get? b = none := fun b hb => by
        cases z : s.heap.get? b with
        | none => rfl
        | some o' => rw [kp b o' z] at hb; cases hb
      obtain ⟨oe, vs', a1, a2, a3, a4⟩ := fl₄.obj
      refine no ?_; clear no
      refine ⟨c, e, _, rfl, ⟨R₅, E₅, fl₄.le, nn _ fl₄.new, fl₄.notH, oe, vs', a1, a2, a3, a4.imp id fun ⟨T', oT, ts, b1, b2, b3, b4⟩ => ⟨T', oT, ts, b1, b2, nn _ b3, b4⟩⟩, rfl, q⟩
end
end Mine
end
section
open PySem
open PyProof.Rows
namespace Mine

/-! ## The law's own call -/
section
variable {C : Cx} {T : Tab} {G : GT}

theorem top_ok (XI : XIsi C) (hG : GOk C G) (XC : XCls C) (XO : XObj C T) (NL : C.base.NoLimit) (hF : ∀ f d, C.hf f → T.funs f = some d → FunOk C G f d) (MK : ∀ n, HkOk C (CallN T n) n → MkOk C T (CallN T n) n)
    {n f : Nat} (hff : C.hf f) {s : Shared} (hs : s.heap = C.base) (hos : s.os = C.os) (hg : s.gens = #[]) {vs : List Value} {as : List AV} (r : RVs C C.base vs as)
    (w : CallN T (n + 1) f as (fun _ => none) false (fun v _ => v = .bool true) (fun _ _ => False)) (h1' : 2 + claimMargin + 3 * n + 20 < recursionLimit) (h2' : 7 + 20 * n + 200 < cLine) :
    wpAny (model C.prog C.w) callerA (call (.ref (C.fa f)) vs) (fun v s' => v = .bool true ∧ (∀ b o, s.heap.get? b = some o → s'.heap.get? b = some o) ∧ s'.os = s.os ∧ s'.gens = #[]) (fun _ _ => False) s := by
  have ih := hook_ok XI hG XC XO NL hF MK n
  have W : Wld C T (CallN T n) n G := ⟨XI, ih, MK n ih, hG, XC, XO⟩
  refine byc fun no => ?_
  obtain ⟨d, hd', hlen, w⟩ := need_of w
  obtain ⟨o, fd, params, body, h1, h2, h3, h4, h5, h6, h7, h8, h9⟩ := hF f d hff hd'
  refine no ?_; clear no
  have cf := cf_of h8
  have hnd := nodup_of cf.c14
  have hvl := rvs_length r
  have hps : ∀ i, i < d.args → (params.args.map (·.arg))[i]? = (fd.scope.names[i]?).map (·.1) := fun i hi => by
    rw [← cf.c9, List.getElem?_map, List.getElem?_take, if_pos hi]
  have hpn : (params.args.map (·.arg)).Nodup := by
    rw [← cf.c9]
    exact hnd.sublist (List.Sublist.map _ (List.take_sublist ..))
  have hkd : ∀ x ∈ (params.args.map (·.arg)).zip vs, fd.scope.names.lookup x.1 = some .local ∨ (fd.scope.names.lookup x.1 = some .cell ∧ ((cellsFrom (s.heap.objs.size + 1) fd.scope.names []).lookup x.1).isSome = true) := fun x hx => by
    have hx1 : x.1 ∈ params.args.map (·.arg) := (List.of_mem_zip hx).1
    rw [← cf.c9] at hx1
    refine byc fun no => ?_
    obtain ⟨y, hy, e⟩ := List.mem_map.mp hx1
    have hy' := List.mem_of_mem_take hy
    obtain ⟨i, hi⟩ := List.mem_iff_getElem?.mp hy'
    refine no ?_; clear no
    have hlk : fd.scope.names.lookup x.1 = some y.2 := lookup_of_idx hnd (show fd.scope.names[i]? = some (x.1, y.2) by rw [hi, ← e])
    rcases cf.c10 y hy with q | q
    · exact .inl (by rw [hlk, q])
    · refine .inr ⟨by rw [hlk, q], ?_⟩
      refine byc fun no => ?_
      obtain ⟨c, hc⟩ := cellsFrom_has (k := s.heap.objs.size + 1) (acc := []) (.inl (show (x.1, NameKind.cell) ∈ fd.scope.names by rw [← e, ← q]; exact hy'))
      obtain ⟨d', hd'⟩ := lookup_some hc
      refine no ?_; clear no
      rw [hd']; rfl
  refine wpAny_call (codeAny_call_cells (binds := (params.args.map (·.arg)).zip vs) (by show 1 + claimMargin < recursionLimit; (clear h2' hlen h6 h7 hvl; omega)) (by rw [hs]; exact h1) h2 (by rw [hs]; exact NL) (by rw [hs]; exact h3) h4 (h9 vs (by (clear h1' h2' h6 h7; omega))) h5 hkd (fun s₁ x => ?_) cf.c13 cf.c12 cf.c11)
  generalize henv : callEnvC fd s.heap.objs.size (C.fa f) = env at x ⊢
  have e1 : env.locals = s.heap.objs.size := by rw [← henv]; rfl
  have e2 : env.scope = fd.scope := by rw [← henv]; rfl
  have e3 : env.frame = some env.locals := by rw [← henv]; rfl
  have e4 : env.cells = cellsFrom (s.heap.objs.size + 1) fd.scope.names [] := by rw [← henv]; rfl
  have e5 : env.globals = mainGlobals := by rw [← henv]; exact h6
  have e6 : env.builtins = builtinsNs := by rw [← henv]; exact h7
  have cn : (env.cells.map (·.1)).Nodup := by rw [e4]; exact cellsFrom_nodup _ _ _ hnd (by simp) (by simp)
  have kp : ∀ b o', C.base.get? b = some o' → s₁.heap.get? b = some o' := fun b o' e => x.toInCall.keep b o' (by rw [hs]; exact e)
  have fresh : ∀ b, Own ⟨env, [], none⟩ b → C.base.get? b = none := fun b hb => by
    refine get_none_of_ge ?_
    rw [← hs, ← e1]
    rcases hb with q | ⟨y, hy⟩ | ⟨e', he, _⟩
    · rw [q]; exact Nat.le_refl _
    · exact Nat.le_of_lt (x.above y b hy)
    · cases he
  have F' : FmOk C ⟨env, [], none⟩ :=
    ⟨by rw [e2]; exact cf.c11, e5, e6, e3, by show C.base.objs.size ≤ env.locals; rw [e1, hs]; exact Nat.le_refl _, by rw [e2]; exact hnd, cn, x.apart, fun y c hy => Nat.ne_of_gt (x.above y c hy), fun b hb => (by cases hb), fun _ h => no_some h, fun _ h => no_some h, fun _ h => no_some h⟩
  obtain ⟨h', tk, hs₁⟩ := x.toInCall.same
  have hk : env.kindOf = fun y => fd.scope.names.lookup y := by funext y; rw [kindOf_eq, e2]
  have im : Im C.base s₁.heap := .keeps kp
  have hat : ∀ {i : Nat} {y : Str} {kd : NameKind} {av : AV}, fd.scope.names[i]? = some (y, kd) → lk (as.map some ++ List.replicate (d.locs - d.args) none) i = some av → ∃ v, (params.args.map (·.arg))[i]? = some y ∧ vs[i]? = some v ∧ RV C s₁.heap v av := by
    intro i y kd av hi hav
    have ha := lk_args hav
    have hlt : i < d.args := by have := (List.getElem?_eq_some_iff.mp ha).1; (clear h1' h2' h6 h7 e1 e5 e6; omega)
    obtain ⟨v, hv, rv⟩ := (rvs_at r i).2 av ha
    exact ⟨v, by rw [hps i hlt, hi]; rfl, hv, rv.mono im⟩
  have R₁ : Rel C ⟨env, [], none⟩ ⟨as.map some ++ List.replicate (d.locs - d.args) none, [], fun _ => none, false⟩ s₁ := by
    refine ⟨kp, by rw [hs₁]; exact hos, by rw [hs₁]; exact hg, ⟨_, x.toInCall.ns, fun i y av e1' e2' => ?_⟩, fun i y e => ?_, fun _ h => no_some h, fun _ _ h => no_some h, fun b hb => ⟨rfl, fresh b hb⟩, fun y c hy => ⟨_, x.cell y c (lookup_mem cn hy)⟩, ?_, fun b hb => (by cases hb), fun b hb => (by cases hb)⟩
    · have e1' : fd.scope.names[i]? = some (y, .local) := by rw [← e2]; exact e1'
      refine byc fun no => ?_
      obtain ⟨v, a1, a2, a3⟩ := hat e1' e2'
      refine no ?_; clear no
      exact ⟨v, bindL_at (by rw [hk]; exact lookup_of_idx hnd e1') _ _ _ i hpn a1 a2, a3⟩
    · have e' : fd.scope.names[i]? = some (y, .cell) := by rw [← e2]; exact e
      obtain ⟨c, hc⟩ := cellsFrom_has (k := s.heap.objs.size + 1) (acc := []) (.inl (List.mem_of_getElem? e'))
      have hc' : env.cells.lookup y = some c := lookup_mem cn (by rw [e4]; exact hc)
      refine ⟨c, _, hc', x.cell y c hc', fun av hav => ?_⟩
      refine byc fun no => ?_
      obtain ⟨v, a1, a2, a3⟩ := hat e' hav
      refine no ?_; clear no
      exact ⟨v, bindC_at (by rw [hk]; show fd.scope.names.lookup y ≠ _; rw [lookup_of_idx hnd e']; simp) _ _ _ i hpn a1 a2, a3⟩
    · exact Heap.FunFrames.cons (by rw [e2, cf.c11]; decide) e3 x.toInCall.ns (fresh env.locals (.inl rfl)) trivial
  have hA' : AOk ⟨env, [], none⟩ (callerA.deeper env) n false := ⟨Around.frames_deeper rfl, by show 1 + claimMargin + 1 + 3 * n + 20 < recursionLimit; (clear h2' hlen h6 h7 hvl e1 e5 e6; omega), by show 4 + 3 + 20 * n + 200 < cLine; (clear h1' hlen h6 h7 hvl e1 e5 e6; omega), fun _ => rfl⟩
  have hS : ScOk ⟨fd.scope.names, none⟩ ⟨env, [], none⟩ := ⟨by rw [e2], rfl⟩
  have run := chkSs_ok W fd.scope.names ⟨env, [], none⟩ F' hS d.body body cf.c16 (callerA.deeper env) ⟨as.map some ++ List.replicate (d.locs - d.args) none, [], fun _ => none, false⟩ s₁ _ _ hA' R₁ w
  refine wpAny_mono run (fun fl s₂ g => ?_) fun v s₂ b => ?_
  · refine byc fun no => ?_
    obtain ⟨o', σ₂, hfl, R₂, E₂, q⟩ := g
    refine no ?_; clear no
    have fin : ∀ v : Value, v = Value.bool true → v = Value.bool true ∧ (∀ b o, s.heap.get? b = some o → s₂.heap.get? b = some o) ∧ s₂.os = s.os ∧ s₂.gens = #[] := fun v e => ⟨e, fun b o hb => R₂.keep b o (by rw [← hs]; exact hb), R₂.os.trans hos.symm, R₂.gens⟩
    cases fl with
    | next => cases o' with
      | next => cases q
      | ret _ => exact hfl.elim
    | ret v => cases o' with
      | next => exact hfl.elim
      | ret av =>
        obtain rfl : av = .bool true := q
        exact fin v hfl
    | brk => exact hfl.elim
    | cont => exact hfl.elim
  · obtain ⟨_, _, _, _, _, x⟩ := b; exact x.elim
end
end Mine
end
section
open PySem
open PyProof.Rows
namespace Mine

theorem seqNone : seqItems? Value.none = pure none := rfl

theorem zip_has {n : Str} : ∀ {ps : List Str} {vals : List Value}, ps.length = vals.length → n ∈ ps → ∃ v, (ps.zip vals).lookup n = some v
  | [], _, _, h => by cases h
  | p :: ps, [], hl, _ => by simp at hl
  | p :: ps, v :: vals, hl, h => by
    rw [List.zip_cons_cons, List.lookup_cons]
    cases q : n == p with
    | true => exact ⟨v, rfl⟩
    | false =>
      rcases List.mem_cons.mp h with z | z
      · simp [z] at q
      · exact zip_has (by simpa using hl) z
theorem filterMap_cons_not {p : Str} {v : Value} {ps : List Str} {l : List (Str × Value)} (h : p ∉ ps) : ps.filterMap (fun n => (((p, v) :: l).lookup n).map (n, ·)) = ps.filterMap fun n => (l.lookup n).map (n, ·) := by
  induction ps with
  | nil => rfl
  | cons n ps ih =>
    have : (n == p) = false := by
      rw [beq_eq_false_iff_ne]
      rintro rfl
      exact h (.head _)
    rw [List.filterMap_cons, List.filterMap_cons, List.lookup_cons, this, ih fun q => h (.tail _ q)]
theorem zip_filterMap : ∀ {ps : List Str} {vals : List Value}, ps.Nodup → ps.length = vals.length → ps.filterMap (fun n => ((ps.zip vals).lookup n).map (n, ·)) = ps.zip vals
  | [], _, _, _ => by simp
  | p :: ps, [], _, hl => by simp at hl
  | p :: ps, v :: vals, hn, hl => by
    rw [List.zip_cons_cons, List.filterMap_cons]
    have : (((p, v) :: ps.zip vals).lookup p) = some v := by rw [List.lookup_cons]; simp
    rw [this]
    show (p, v) :: _ = _
    rw [filterMap_cons_not (List.nodup_cons.mp hn).1, zip_filterMap (List.nodup_cons.mp hn).2 (by simpa using hl)]

theorem bind_plain {fd : FuncData} {vals : List Value} (h1 : fd.params.posonlyargs = []) (h2 : fd.params.vararg = none) (h3 : fd.params.kwonlyargs = []) (h4 : fd.params.kwarg = none) (h5 : fd.defaults = .none) (h6 : fd.kwdefaults = .none)
    (hn : (fd.params.args.map (·.arg)).Nodup) (hl : vals.length = fd.params.args.length) : bindArgs fd ⟨vals, []⟩ = pure ((fd.params.args.map (·.arg)).zip vals) := by
  unfold bindArgs
  simp only [h1, h2, h3, h4, h5, h6, List.map_nil, List.nil_append, seqNone, pure_bind, List.forIn_nil]
  have hz : ∀ n ∈ fd.params.args.map (·.arg), ∃ v, (((fd.params.args.map (·.arg)).zip vals).lookup n) = some v := fun n hn' => zip_has (by rw [List.length_map]; omega) hn'
  have hm : (List.filter (fun n => (((fd.params.args.map (·.arg)).zip vals).lookup n).isNone) ((fd.params.args.map (·.arg)).take (fd.params.args.map (·.arg)).length)) = [] := by
    rw [List.filter_eq_nil_iff]
    intro n hn'
    obtain ⟨v, hv⟩ := hz n (List.mem_of_mem_take hn')
    rw [hv]; simp
  have hf := zip_filterMap (ps := fd.params.args.map (·.arg)) (vals := vals) hn (by rw [List.length_map]; omega)
  have hl' : vals.length = (fd.params.args.map (·.arg)).length := by rw [List.length_map]; exact hl
  generalize fd.params.args.map (·.arg) = ps at *
  have hg : ¬ (decide (vals.length > ps.length) && Option.isNone (none : Option Arg)) = true := by simp [hl']
  rw [if_neg hg]
  have e0 : ((none : Option (Array Value)).getD #[]).toList = [] := rfl
  rw [e0, List.drop_nil, List.length_nil, Nat.sub_zero, hm]
  simp only [List.isEmpty_nil, Bool.not_true, Bool.false_eq_true, if_false, List.zip_nil_right, List.forIn_nil, pure_bind, List.append_nil, hf]
end Mine
end
section
open PySem
open PyProof.Rows
namespace Mine

/-! ## A row's ground, out of the heap that its top leaves -/
theorem nsFind_list (es : Array DictEntry) (x : Str) : nsFind es x = findL es.toList x := by
  obtain ⟨l⟩ := es
  simp [nsFind, findBy, findL]

theorem intsAre_of : ∀ {vs : List Value} {is : List Int}, intsB vs is = true → IntsAre vs is
  | [], [], _ => .nil
  | .int j t :: vs, i :: is, h => by
    have h' := Bool.and_eq_true_iff.mp h
    obtain rfl : i = j := beq_iff_eq.mp h'.1
    exact .cons i t (intsAre_of h'.2)
  | [], _ :: _, h => absurd h Bool.false_ne_true
  | v :: _, [], h => by cases v <;> exact absurd h Bool.false_ne_true
  | v :: vs, i :: is, h => by
    cases v <;> first | (exact absurd h Bool.false_ne_true) | skip
    rename_i j t
    have h' := Bool.and_eq_true_iff.mp h
    obtain rfl : i = j := beq_iff_eq.mp h'.1
    exact .cons i t (intsAre_of h'.2)

theorem lookup_map {x : Str} {f : Nat} : ∀ {l : List (Str × Nat × Addr)}, (l.map fun p => (p.1, p.2.1)).lookup x = some f → ∃ a, (x, f, a) ∈ l
  | [], h => by cases h
  | (y, g, a) :: r, h => by
    rw [List.map_cons, List.lookup_cons] at h
    cases q : x == y with
    | true =>
      rw [q] at h
      cases h
      obtain rfl : x = y := beq_iff_eq.mp q
      exact ⟨a, .head _⟩
    | false =>
      rw [q] at h
      obtain ⟨b, hb⟩ := lookup_map h
      exact ⟨b, .tail _ hb⟩

section
variable {K : Fg} {R : RT} {pi : Nat → Option FunDef} {prog : Program} {w : World} {s : Shared}
noncomputable def cxOf (prog : Program) (w : World) (s : Shared) (R : RT) : Cx :=
  ⟨prog, w, s.heap, s.os, at2 R.fs, at2 R.cls, fun f => ∃ x a, (x, f, a) ∈ R.fs, fun c => ∃ x a, (x, c, a) ∈ R.cls⟩

theorem funOk_of (X : PySem.W.Frag.In K s.heap) {G : GT} {f : Nat} {a : Addr} {d : FunDef} (hd : pi f = some d) (ha : at2 R.fs f = a) (h : funIn K G pi f a = true) : FunOk (cxOf prog w s R) G f d := by
  unfold funIn at h
  split at h
  · rename_i oc od fd sl d' hk hp
    rw [hd] at hp
    cases hp
    simp only [Bool.and_eq_true, beq_iff_eq] at h
    refine byc fun no => ?_
    obtain ⟨⟨⟨⟨⟨⟨h1, h2⟩, h3⟩, h4⟩, h5⟩, h6⟩, h7⟩ := h
    refine no ?_; clear no
    split at h1
    · rename_i b hb
      have hchk := h1
      have cf := cf_of h1
      refine ⟨_, fd, fd.params, b, by show s.heap.get? (at2 R.fs f) = _; rw [ha]; exact X _ _ hk, rfl, PySem.W.codeRec_of X h7, hb, List.isEmpty_iff.mp h2, h3, h4, hchk, fun vals hl => ?_⟩
      have e5 : fd.defaults = .none := by cases q : fd.defaults <;> rw [q] at h5 <;> first | rfl | (exact absurd h5 Bool.false_ne_true)
      have e6 : fd.kwdefaults = .none := by cases q : fd.kwdefaults <;> rw [q] at h6 <;> first | rfl | (exact absurd h6 Bool.false_ne_true)
      refine bind_plain cf.p1 cf.p2 cf.p3 cf.p4 e5 e6 ?_ (hl.trans cf.c7.symm)
      rw [← cf.c9]
      exact (nodup_of cf.c14).sublist (List.Sublist.map _ (List.take_sublist ..))
    · cases h1
  · cases h

/-- what the boot gives to the names of the built-in types and functions -/
noncomputable def BootOk (mb : Str → Option Value) : Prop := (∀ x t, tyTab.lookup x = some t → mb x = some (.type (tyName t))) ∧ ∀ x b, biTab.lookup x = some b → mb x = some (.builtin (biName b))

theorem tab_none {es : List DictEntry} {l : List (Str × Nat)} (h : l.all (fun p => (findL es p.1).isNone) = true) {x : Str} {t : Nat} (hx : l.lookup x = some t) : findL es x = none := by
  have := List.all_eq_true.mp h _ (mem_of_lookup' hx)
  simpa using this
where mem_of_lookup' {x : Str} {t : Nat} : ∀ {l : List (Str × Nat)}, l.lookup x = some t → (x, t) ∈ l
  | [], h => by cases h
  | (y, u) :: r, h => by
    rw [List.lookup_cons] at h
    cases q : x == y with
    | true => rw [q] at h; cases h; obtain rfl : x = y := beq_iff_eq.mp q; exact .head _
    | false => rw [q] at h; exact .tail _ (mem_of_lookup' h)

theorem gok_of (X : PySem.W.Frag.In K s.heap) {mg mb : Str → Option Value} (hg : s.heap.Ns mainGlobals mg) (hb : s.heap.Ns builtinsNs mb) (B : BootOk mb) (h : rowOk K R pi = true) : GOk (cxOf prog w s R) R.gt ∧
    ∀ f d, (cxOf prog w s R).hf f → pi f = some d → FunOk (cxOf prog w s R) R.gt f d := by
  unfold rowOk at h
  split at h
  · rename_i es hes
    simp only [Bool.and_eq_true] at h
    refine byc fun no => ?_
    obtain ⟨⟨⟨⟨⟨⟨h1, hms⟩, h2⟩, h3⟩, h4⟩, h5⟩, h6⟩ := h
    refine no ?_; clear no
    have hm : ∀ x, mg x = findL es x := fun x => by
      unfold globs at hes
      split at hes
      · rename_i c d ea ep sl hk
        cases hes
        refine byc fun no => ?_
        obtain ⟨o, es', ep', e, hd, _, hf⟩ := hg
        refine no ?_; clear no
        have := X _ _ hk
        rw [show mainGlobals = 3 from rfl] at e
        rw [this] at e
        cases e
        cases hd
        rw [← hf x, nsFind_list]
      · cases hes
    refine ⟨⟨mg, mb, hg, hb, fun x f hx => ?_, fun x c hx => ?_, fun x i hx => ?_, fun x is hx => ?_, fun x t hx => ⟨?_, B.1 x t hx⟩, fun x t hx => ⟨?_, B.2 x t hx⟩⟩, fun f d hf hd => ?_⟩
    · refine byc fun no => ?_
      obtain ⟨a, ha⟩ := lookup_map hx
      have := List.all_eq_true.mp h1 _ ha
      simp only [Bool.and_eq_true, beq_iff_eq] at this
      obtain ⟨⟨q1, q2⟩, _⟩ := this
      refine no ?_; clear no
      refine ⟨?_, x, a, List.mem_append_left _ ha⟩
      rw [hm]
      show findL es x = some (.ref (at2 R.fs f))
      rw [q1]
      revert q2
      cases findL es x with
      | none => intro q; cases q
      | some v => cases v <;> intro q <;> first | (exact absurd q Bool.false_ne_true) | (obtain rfl := beq_iff_eq.mp q; rfl)
    · refine byc fun no => ?_
      obtain ⟨a, ha⟩ := lookup_map hx
      have := List.all_eq_true.mp h2 _ ha
      simp only [Bool.and_eq_true, beq_iff_eq] at this
      obtain ⟨q1, q2⟩ := this
      refine no ?_; clear no
      refine ⟨?_, x, a, ha⟩
      rw [hm]
      show findL es x = some (.ref (at2 R.cls c))
      rw [q1]
      revert q2
      cases findL es x with
      | none => intro q; cases q
      | some v => cases v <;> intro q <;> first | (exact absurd q Bool.false_ne_true) | (obtain rfl := beq_iff_eq.mp q; rfl)
    · have q := List.all_eq_true.mp h3 _ (mem_of_lookup hx)
      rw [hm]
      revert q
      show isIntOf i (findL es x) = true → _
      cases findL es x with
      | none => intro q; cases q
      | some v => cases v <;> intro q <;> first | (exact absurd q Bool.false_ne_true) | (obtain rfl := beq_iff_eq.mp q; exact ⟨_, rfl⟩)
    · have q := List.all_eq_true.mp h4 _ (mem_of_lookup hx)
      rw [hm]
      revert q
      show tupIn K is (findL es x) = true → _
      cases findL es x with
      | none => intro q; cases q
      | some v =>
        cases v <;> intro q <;> first | (exact absurd q Bool.false_ne_true) | skip
        rename_i a
        unfold tupIn at q
        dsimp only at q
        split at q
        · rename_i c items n sl hk
          simp only [Bool.and_eq_true, decide_eq_true_eq] at q
          refine byc fun no => ?_
          obtain ⟨⟨⟨q1, q2⟩, q3⟩, q4⟩ := q
          refine no ?_; clear no
          have e1 : c = .type "tuple" := by
            unfold isTyp at q1
            split at q1
            · rw [beq_iff_eq.mp q1]
            · cases q1
          have e2 : sl = #[] := Array.isEmpty_iff.mp q2
          subst e1 e2
          exact ⟨a, items.toList, n, rfl, by rw [Array.toArray_toList]; exact X _ _ hk, intsAre_of q3, q4⟩
        · cases q
    · rw [hm]; exact tab_none h5 hx
    · rw [hm]; exact tab_none h6 hx
    · obtain ⟨x, a, ha⟩ := hf
      rcases List.mem_append.mp ha with ha | ha
      · have := List.all_eq_true.mp h1 _ ha
        simp only [Bool.and_eq_true, beq_iff_eq] at this
        obtain ⟨⟨q1, _⟩, q3⟩ := this
        exact funOk_of X hd q1 q3
      · have := List.all_eq_true.mp hms _ ha
        simp only [Bool.and_eq_true, beq_iff_eq] at this
        exact funOk_of X hd this.1 this.2
  · cases h
end
end Mine
end
section
open PySem
open PyProof.Rows
namespace Mine

/-- an own exception class, as the heap has it -/
inductive ExcK (K : Fg) (a a0 : Addr) : Prop
  | mk (nm q : Str) (N : Addr) (bs bm : List Value) (hdct : Bool) (sn : List Str) (sub : List Value) (ab : Bool) (col : Option Bool) (dd : Option Addr) (k0 k1 k2 k3 k5 : Option Value)
    (e : K.lookup a = some (excClassObj nm q a N bs bm hdct sn sub ab col dd k0 k1 k2 k3 k5 "ValueError.__new__")) (hb : (a = a0 ∧ bm = VE) ∨ bm = .ref a0 :: VE)
    (c : Value) (d : Option Addr) (es : Array DictEntry) (ep : Nat) (sl : Array (Option Value)) (eN : K.lookup N = some ⟨c, d, .dict es ep, sl⟩) (hq : quietB es.toList = true) : ExcK K a a0

theorem ns_of {h : Heap} {N : Addr} {c : Value} {d : Option Addr} {es : Array DictEntry} {ep : Nat} {sl : Array (Option Value)} (e : h.get? N = some ⟨c, d, .dict es ep, sl⟩) (hq : quietB es.toList = true) :
    h.Ns N (fun x => findL es.toList x) ∧ ∀ x ∈ hushed, findL es.toList x = none := by
  unfold quietB at hq
  rw [Bool.and_eq_true] at hq
  refine ⟨⟨_, es, ep, e, rfl, fun x hx => ?_, fun x => nsFind_list es x⟩, fun x hx => ?_⟩
  · have := List.all_eq_true.mp hq.1 x (by simpa using hx)
    cases hk : x.key <;> rw [hk] at this <;> first | (exact absurd this Bool.false_ne_true) | exact ⟨_, _, rfl⟩
  · have := List.all_eq_true.mp hq.2 x hx
    simpa using this

section
variable {K : Fg} {R : RT} {prog : Program} {w : World} {s : Shared}

/-- what stands behind a class of its own -/
inductive Tail (h : Heap) (a0 : Addr) : List Value → Prop
  | base : Tail h a0 VE
  | own {c0 : Value} {dd : Option Addr} {cd : ClassData} {sl : Array (Option Value)} {mA : Str → Option Value} : h.get? a0 = some { cls := c0, dict := dd, data := .cls cd, slots := sl } → h.Ns cd.ns mA → (∀ n ∈ hushed, mA n = none) → Tail h a0 (.ref a0 :: VE)

/-- a class as the rules want it -/
inductive ExcAt (h : Heap) (a a0 : Addr) : Prop
  | mk (nm q : Str) (N : Addr) (bs bm : List Value) (hdct : Bool) (sn : List Str) (sub : List Value) (ab : Bool) (col : Option Bool) (dd : Option Addr) (k0 k1 k2 k3 k5 : Option Value) (mN : Str → Option Value)
    (e : h.get? a = some (excClassObj nm q a N bs bm hdct sn sub ab col dd k0 k1 k2 k3 k5 "ValueError.__new__")) (hN : h.Ns N mN) (hq : ∀ x ∈ hushed, mN x = none) (T : OwnTailQ h VE bm)
    (hb : Tail h a0 bm) (hm : (Value.ref a :: bm).contains (.ref a0) = true) (hno : ∀ b, b ≠ a → b ≠ a0 → (Value.ref a :: bm).contains (.ref b) = false) : ExcAt h a a0

theorem quiet_sub {n : Str} (h : n ∈ quietNames) : n ∈ hushed := by
  simp only [quietNames, List.mem_cons, List.not_mem_nil, or_false] at h
  rcases h with rfl | rfl | rfl | rfl <;> simp [hushed]

theorem excAt_of {h : Heap} (X : PySem.W.Frag.In K h) {a a0 : Addr} (x : ExcK K a a0) (x0 : ExcK K a0 a0) : ExcAt h a a0 := by
  refine byc fun no => ?_
  obtain ⟨nm, q, N, bs, bm, hdct, sn, sub, ab, col, dd, k0, k1, k2, k3, k5, e, hb, c, d, es, ep, sl, eN, hq⟩ := x
  obtain ⟨n1, n2⟩ := ns_of (X _ _ eN) hq
  refine no ?_; clear no
  refine ⟨nm, q, N, bs, bm, hdct, sn, sub, ab, col, dd, k0, k1, k2, k3, k5, _, X _ _ e, n1, n2, ?_, ?_, ?_, fun b h1 h2 => ?_⟩
  · rcases hb with ⟨_, rfl⟩ | rfl
    · exact .base
    · refine byc fun no => ?_
      obtain ⟨nm', q', N', bs', bm', hdct', sn', sub', ab', col', dd', k0', k1', k2', k3', k5', e', hb', c', d', es', ep', sl', eN', hq'⟩ := x0
      obtain ⟨m1, m2⟩ := ns_of (X _ _ eN') hq'
      refine no ?_; clear no
      exact .own (X _ _ e') m1 (fun n hn => m2 n (quiet_sub hn)) .base
  · rcases hb with ⟨_, rfl⟩ | rfl
    · exact .base
    · refine byc fun no => ?_
      obtain ⟨nm', q', N', bs', bm', hdct', sn', sub', ab', col', dd', k0', k1', k2', k3', k5', e', hb', c', d', es', ep', sl', eN', hq'⟩ := x0
      obtain ⟨m1, m2⟩ := ns_of (X _ _ eN') hq'
      refine no ?_; clear no
      exact .own (X _ _ e') m1 m2
  · rcases hb with ⟨rfl, rfl⟩ | rfl
    · simp
    · simp
  · have f1 : (Value.ref b == Value.ref a) = false := by
      rw [beq_eq_false_iff_ne]; intro z; cases z; exact h1 rfl
    have f2 : (Value.ref b == Value.ref a0) = false := by
      rw [beq_eq_false_iff_ne]; intro z; cases z; exact h2 rfl
    have f3 : VE.contains (.ref b) = false := rfl
    rcases hb with ⟨_, rfl⟩ | rfl
    · rw [List.contains_cons, f1, f3]; rfl
    · rw [List.contains_cons, List.contains_cons, f1, f2, f3]; rfl

theorem xcls_of (H : ∀ c, (cxOf prog w s R).hc c → c ≤ 5 → ExcAt s.heap (at2 R.cls c) (at2 R.cls 0)) : XCls (cxOf prog w s R) := by
  refine ⟨fun c hc hle => ?_⟩
  refine byc fun no => ?_
  obtain ⟨nm, q, N, bs, bm, hdct, sn, sub, ab, col, dd, k0, k1, k2, k3, k5, mN, e, hN, hq, T, hb, hm, _⟩ := H c hc hle
  refine no ?_; clear no
  refine ⟨nm, q, N, bs, bm, VE, hdct, sn, sub, ab, col, dd, k0, k1, k2, k3, k5, "ValueError.__new__", "ValueError", "ValueError", "ValueError.__new__", "ValueError.__init__", "ValueError.__init__", VE, mN,
    PySem.F.excBase_ValueError, by rfl, PySem.F.excBase_ValueError, ?_, hq _ (.head _), e, hN, T.tail, hm⟩
  exact T.tail.hasType rfl
end
end Mine
end
section
open PySem
open PyProof.Rows
set_option maxRecDepth 100000
namespace Mine

/-! ## The class of an own exception, asked by its name -/
theorem lk_VE_class : typeLookup (.type "ValueError") "__class__" = pure (some (.builtin "object.__class__")) := by rw [typeLookup_type, builtinLookup_eq_fast]; kernel_rfl

section
variable {prog : Program} {w : World} {A : Around} {E : Value → Shared → Prop} {h : Heap} {g : Array GenState} {d : Drawn} {t : Nat} {os : OsState} {a a0 : Addr} {o : Obj} {vs : Array Value}
  {nm q : Str} {C N : Addr} {bs bm : List Value} {hdct : Bool} {sn : List Str} {sub : List Value} {ab : Bool} {col : Option Bool} {dd : Option Addr} {k0 k1 k2 k3 k5 : Option Value} {newId : String} {mN : Str → Option Value}

theorem lookup_hush {M : Model} {n : Str} {y : Option Value} {Q : Option Value → Shared → Prop} (hn : n ∈ hushed) (hC : h.get? C = some (excClassObj nm q C N bs bm hdct sn sub ab col dd k0 k1 k2 k3 k5 newId)) (hN : h.Ns N mN) (hmN : ∀ n ∈ hushed, mN n = none) (T : Tail h a0 bm)
    (hB : typeLookup (.type "ValueError") n = pure y) (hq : Q y ⟨h, g, d, t, os⟩) : wpAny M A (typeLookup (.ref C) n) Q E ⟨h, g, d, t, os⟩ := by
  have hrest : lookupAlong VE n = pure y := by
    rw [typeLookup_eq, show mroOf (.type "ValueError") = pure VE from PySem.F.excBase_ValueError.mroIs] at hB; exact hB
  rw [typeLookup_eq]
  refine wpAny_bind (wpAny_mroOf_exc hC ?_)
  rw [lookupAlong_cons]
  refine wpAny_bind (wpAny_classOwn_exc hC hN ?_)
  rw [hmN n hn]
  show wpAny M A (lookupAlong bm n) Q E _
  cases T with
  | base => rw [hrest]; exact wpAny_pure hq
  | own hA hN0 hq0 =>
    rw [lookupAlong_cons]
    refine wpAny_bind (wpAny_classOwn_cls hA hN0 ?_)
    rw [hq0 n hn]
    show wpAny M A (lookupAlong VE n) Q E _
    rw [hrest]; exact wpAny_pure hq

theorem tail_has {T : String} {b : Bool} (x : Tail h a0 bm) (hb : VE.contains (.type T) = b) : (Value.ref C :: bm).contains (.type T) = b := by
  rw [List.contains_cons]
  cases x with
  | base => rw [hb]; rfl
  | own _ _ _ => rw [List.contains_cons, hb]; rfl

theorem class_get_own {R : Result → Shared → Prop} (hC : h.get? C = some (excClassObj nm q C N bs bm hdct sn sub ab col dd k0 k1 k2 k3 k5 newId)) (T : Tail h a0 bm) (hx : h.get? a = some o) (hc : o.cls = .ref C) (hq : R (.ok (.ret (.ref C))) ⟨h, g, d, t, os⟩) :
    codeAny (model prog w) A (.call (.builtin "getset_descriptor.__get__") ⟨[.builtin "object.__class__", .ref a, .ref C], []⟩) R ⟨h, g, d, t, os⟩ := by
  have hT5 : (⟨h, g, d, t, os⟩ : Shared).TypeIs (.builtin "object.__class__") "getset_descriptor" := PySem.F.typeOf_object_class
  have hcB : (Value.ref C :: bm).contains (.type (".".intercalate ("object.__class__".cutAt '.').dropLast)) = true := by
    rw [PySem.F.owner_object_class]; exact tail_has T rfl
  refine codeAny_call_builtin PySem.F.slot_gs_get.plain PySem.F.entry_gs_get (PySem.F.slot_gs_get.check _ _ _ _ _ _ _ _ hT5 (PySem.F.args_gs_get _ _ _) ?_)
  repeat (any_goals (first | assumption | (with_reducible refine wpAny_loadPart_at hx ?_; rw [hc]) | (with_reducible refine wpAny_isSubtype_exc hC ?_; rw [hcB]) | wp_step))
  refine ⟨Code.quiet_builtin _ (by decide +kernel), codeAny_builtin PySem.F.entry_object_class ?_⟩
  repeat (any_goals (first | assumption | (with_reducible refine wpAny_loadPart_at hx ?_; rw [hc]) | wp_step))

theorem check_ga_own {M : Model} {nameV : Value} {Q : Unit → Shared → Prop} (hC : h.get? C = some (excClassObj nm q C N bs bm hdct sn sub ab col dd k0 k1 k2 k3 k5 newId)) (T : Tail h a0 bm)
    (hx : h.get? a = some o) (hc : o.cls = .ref C) (hq : Q () ⟨h, g, d, t, os⟩) : wpAny M A (checkBuiltinCall "BaseException.__getattribute__" ⟨[.ref a, nameV], []⟩) Q E ⟨h, g, d, t, os⟩ := by
  have hk : builtinKind "BaseException.__getattribute__" = some .slot := by decide +kernel
  have hsplit : splitId "BaseException.__getattribute__" = some ("BaseException", "__getattribute__") := by decide +kernel
  have hcB : (Value.ref C :: bm).contains (.type "BaseException") = true := tail_has T rfl
  have ha := PySem.F.args_bexc_ga (.ref a) nameV
  simp only [checkBuiltinCall, hk, hsplit]
  refine wpAny_bind ?_
  · unfold isInstance
    repeat (first | (with_reducible refine wpAny_loadPart_at hx ?_; rw [hc]) | (with_reducible refine wpAny_isSubtype_exc hC ?_; rw [hcB]) | wp_step)
    exact hq

theorem class_entry_own {tk : Tok} {Q : Fin → Shared → Prop} (hC : h.get? C = some (excClassObj nm q C N bs bm hdct sn sub ab col dd k0 k1 k2 k3 k5 newId)) (hN : h.Ns N mN) (hmN : ∀ n ∈ hushed, mN n = none) (T : Tail h a0 bm)
    (hx : h.get? a = some o) (hc : o.cls = .ref C) (hq : Q (.done (.ret (.ref C))) ⟨h, g, d, t, os⟩) :
    wpAny (model prog w) A (Builtin.«object.__getattribute__» ⟨[.ref a, .str "__class__" tk], []⟩) Q E ⟨h, g, d, t, os⟩ := by
  have hT5 : (⟨h, g, d, t, os⟩ : Shared).TypeIs (.builtin "object.__class__") "getset_descriptor" := PySem.F.typeOf_object_class
  have f5 := PySem.F.typeOf_object_class
  have f6 := PySem.F.slot_gs_get.lookup
  have f7 := PySem.F.slot_gs_set.lookup
  have hmA : ("__class__" : Str) ∈ hushed := .tail _ (.tail _ (.tail _ (.tail _ (.head _))))
  repeat (any_goals (first | assumption | (with_reducible refine wpAny_loadPart_at hx ?_; rw [hc]) | with_reducible refine lookup_hush hmA hC hN hmN T lk_VE_class ?_ | wp_step))
  refine class_get_own hC T hx hc ?_
  repeat (any_goals (first | assumption | wp_step))

theorem class_call_own {tk : Tok} {R : Result → Shared → Prop} (hC : h.get? C = some (excClassObj nm q C N bs bm hdct sn sub ab col dd k0 k1 k2 k3 k5 newId)) (hN : h.Ns N mN) (hmN : ∀ n ∈ hushed, mN n = none) (T : Tail h a0 bm)
    (hx : h.get? a = some o) (hc : o.cls = .ref C) (hq : R (.ok (.ret (.ref C))) ⟨h, g, d, t, os⟩) :
    codeAny (model prog w) A (.call (.builtin "BaseException.__getattribute__") ⟨[.ref a, .str "__class__" tk], []⟩) R ⟨h, g, d, t, os⟩ :=
  codeAny_call_builtin PySem.F.attrBase_ValueError.ga.plain PySem.F.entry_bexc_ga (check_ga_own hC T hx hc (class_entry_own hC hN hmN T hx hc hq))

theorem class_by_own {tk : Tok} {fill expr : Bool} {Q : Value → Shared → Prop} (hC : h.get? C = some (excClassObj nm q C N bs bm hdct sn sub ab col dd k0 k1 k2 k3 k5 newId)) (hN : h.Ns N mN) (hmN : ∀ n ∈ hushed, mN n = none) (T : Tail h a0 bm)
    (hx : h.get? a = some o) (hc : o.cls = .ref C) (hq : Q (.ref C) ⟨h, g, d, t, os⟩) :
    wpAny (model prog w) A (getAttrBy (.ref a) (.str "__class__" tk) fill expr) Q E ⟨h, g, d, t, os⟩ := by
  have f3 := PySem.F.attrBase_ValueError.ga.bind (.ref a)
  have hx0 : (expr && onTheHeap (Value.builtin "BaseException.__getattribute__")) = false := by cases expr <;> rfl
  have hx2 : (Value.builtin "BaseException.__getattribute__" == Value.builtin "object.__getattribute__") = false := by decide +kernel
  have hx1 : (onTheHeap (Value.ref C) && Value.builtin "BaseException.__getattribute__" == Value.builtin "object.__getattribute__") = false := by rw [hx2]; rfl
  have hm1 : ("__getattribute__" : Str) ∈ hushed := .tail _ (.head _)
  have hm2 : ("__getattr__" : Str) ∈ hushed := .tail _ (.tail _ (.head _))
  repeat (any_goals (first | assumption | (with_reducible refine wpAny_loadPart_at hx ?_; rw [hc]) | with_reducible refine lookup_hush hm1 hC hN hmN T PySem.F.attrBase_ValueError.ga.lookup ?_ | with_reducible refine lookup_hush hm2 hC hN hmN T PySem.F.attrBase_ValueError.noGetattr ?_ | wp_step))
  refine class_call_own hC hN hmN T hx hc ?_
  repeat (any_goals (first | assumption | wp_step))

theorem class_attr_own {Q : Option Value → Shared → Prop} (hC : h.get? C = some (excClassObj nm q C N bs bm hdct sn sub ab col dd k0 k1 k2 k3 k5 newId)) (hN : h.Ns N mN) (hmN : ∀ n ∈ hushed, mN n = none) (T : Tail h a0 bm)
    (hx : h.get? a = some o) (hc : o.cls = .ref C) (hq : Q (some (.ref C)) ⟨h, g, d, t + 1, os⟩) : wpAny (model prog w) A (getAttr? (.ref a) "__class__") Q E ⟨h, g, d, t, os⟩ := by
  unfold getAttr? getAttrBy?
  repeat (any_goals (first | assumption | with_reducible apply class_by_own hC hN hmN T hx hc | wp_step))
end
end Mine
end
section
open PySem
open PyProof.Rows
namespace Mine

section
variable {K : Fg} {R : RT} {prog : Program} {w : World} {s : Shared}

theorem clsIn_of {a : Addr} {nm q : Str} {N : Addr} {bs bm : List Value} {hdct : Bool} {sn : List Str} {sub : List Value} {ab : Bool} {col : Option Bool} {dd : Option Addr} {k0 k1 k2 k3 k5 : Option Value}
    (e : K.lookup a = some (excClassObj nm q a N bs bm hdct sn sub ab col dd k0 k1 k2 k3 k5 "ValueError.__new__")) : (∃ cd, PySem.W.clsIn K a = some cd ∧ cd.mro = .ref a :: bm) ∧ PySem.W.typeIn K (.ref a) = some (.type "type") := by
  refine ⟨⟨_, by unfold PySem.W.clsIn; rw [e], rfl⟩, ?_⟩
  show (K.lookup a).map (·.cls) = _
  rw [e]; rfl

theorem kitx_exc {h : Heap} (X : PySem.W.Frag.In K h) {e D a0 : Addr} {o : Obj} (hx : h.get? e = some o) (hc : o.cls = .ref D) (xD : ExcAt h D a0) (hK : ∃ oc cd, K.lookup D = some oc ∧ oc.data = .cls cd) : PySem.W.KitX K (.ref e) (.ref D) (· = h) := by
  refine byc fun no => ?_
  obtain ⟨nm, q, N, bs, bm, hdct, sn, sub, ab, col, dd, k0, k1, k2, k3, k5, mN, eD, hN, hq, _, T, _, _⟩ := xD
  refine no ?_; clear no
  refine ⟨fun M h' _ z => ?_, fun M h' _ z => ?_, fun h' tp d its n sl X' htp => ?_, fun {prog w A E Q s} _ z k => ?_⟩
  · subst z
    exact hc ▸ (PySem.W.Looks.ld hx).andThen .now
  · subst z
    intro A' Q' E' s' k q
    unfold isType loadHead
    exact wpAny_bind (wpAny_loadPart (k _ _ eD) (wpAny_pure q))
  · refine Bool.eq_false_iff.mpr fun q => ?_
    refine byc fun no => ?_
    obtain ⟨oc, cd, e1, e2⟩ := hK
    refine no ?_; clear no
    have e : D = tp := Value.ref.inj (beq_iff_eq.mp q)
    subst e
    rw [X' _ _ e1] at htp
    cases htp
    cases e2
  · refine byc fun no => ?_
    obtain ⟨h', g, d, t, os⟩ := s
    obtain rfl : h' = h := z
    refine no ?_; clear no
    exact class_attr_own eD hN hq T hx hc k

theorem xisi_of (X : PySem.W.Frag.In K s.heap) (H : ∀ c, (cxOf prog w s R).hc c → c ≤ 5 → ExcK K (at2 R.cls c) (at2 R.cls 0)) (h0 : ExcK K (at2 R.cls 0) (at2 R.cls 0))
    (inj : ∀ c k, (cxOf prog w s R).hc c → ((cxOf prog w s R).hc k ∨ k = 0) → at2 R.cls c = at2 R.cls k → c = k) : XIsi (cxOf prog w s R) := by
  have key : ∀ {c : Nat}, ExcK K (at2 R.cls c) (at2 R.cls 0) → ∃ bm, (∃ cd, PySem.W.clsIn K (at2 R.cls c) = some cd ∧ cd.mro = .ref (at2 R.cls c) :: bm) ∧ PySem.W.typeIn K (.ref (at2 R.cls c)) = some (.type "type") ∧ (∃ oc cd, K.lookup (at2 R.cls c) = some oc ∧ oc.data = .cls cd) ∧ ((at2 R.cls c = at2 R.cls 0 ∧ bm = VE) ∨ bm = .ref (at2 R.cls 0) :: VE) := fun x => by
    refine byc fun no => ?_
    obtain ⟨nm, q, N, bs, bm, hdct, sn, sub, ab, col, dd, k0, k1, k2, k3, k5, e, hb, _⟩ := x
    obtain ⟨a1, a2⟩ := clsIn_of e
    refine no ?_; clear no
    exact ⟨bm, a1, a2, ⟨_, _, e, rfl⟩, hb⟩
  refine ⟨fun {A s' Q E c a o vs} hk hc hle ho hcl hd k => ?_, fun {A s' Q E c k' a o vs} hk hc hc' hle hle' ho hcl hd k => ?_⟩
  · have X' : PySem.W.Frag.In K s'.heap := X.keeps hk
    refine byc fun no => ?_
    obtain ⟨bm, ⟨cd, e1, e2⟩, e3, e4, hb⟩ := key (H c hc hle)
    refine no ?_; clear no
    have Z := kitx_exc X' ho hcl (excAt_of X' (H c hc hle) h0) e4
    refine PySem.W.kia_one Z X' rfl ?_ (by intro q; cases q) k
    have hne : (Value.ref (at2 R.cls c) == Value.type "ValueError") = false := rfl
    show PySem.W.kitOne K (.ref (at2 R.cls c)) (.type "ValueError") = some true
    unfold PySem.W.kitOne
    rw [hne, if_neg (by decide)]
    show (if PySem.W.kitMeta "ValueError" = true then PySem.W.subIn K (.ref (at2 R.cls c)) (.type "ValueError") else none) = some true
    rw [show PySem.W.kitMeta "ValueError" = true from by kernel_rfl, if_pos rfl]
    show PySem.W.mroIn K (at2 R.cls c) (.type "ValueError") = some true
    unfold PySem.W.mroIn
    rw [e1, Option.bind_some, e2]
    rcases hb with ⟨_, rfl⟩ | rfl <;> rfl
  · have X' : PySem.W.Frag.In K s'.heap := X.keeps hk
    refine byc fun no => ?_
    obtain ⟨bm, ⟨cd, e1, e2⟩, e3, e4, hb⟩ := key (H c hc hle)
    obtain ⟨bm', ⟨cd', e1', e2'⟩, e3', e4', hb'⟩ := key (H k' hc' hle')
    refine no ?_; clear no
    have xD := excAt_of X' (H c hc hle) h0
    have Z := kitx_exc X' ho hcl xD e4
    refine PySem.W.kia_one Z X' rfl ?_ (by intro q; cases q) k
    have hcon : (Value.ref (at2 R.cls c) :: bm).contains (.ref (at2 R.cls k')) = subCls c k' := by
      unfold subCls
      by_cases q1 : k' = c
      · subst q1; simp
      · by_cases q2 : k' = 0
        · subst q2
          rcases hb with ⟨z, rfl⟩ | rfl
          · exact absurd (inj c 0 hc (.inr rfl) z).symm q1
          · simp
        · have n1 : at2 R.cls k' ≠ at2 R.cls c := fun z => q1 (inj k' c hc' (.inl hc) z)
          have n2 : at2 R.cls k' ≠ at2 R.cls 0 := fun z => q2 (inj k' 0 hc' (.inr rfl) z)
          have f1 : (Value.ref (at2 R.cls k') == Value.ref (at2 R.cls c)) = false := by
            rw [beq_eq_false_iff_ne]; intro z; exact n1 (Value.ref.inj z)
          have f2 : (Value.ref (at2 R.cls k') == Value.ref (at2 R.cls 0)) = false := by
            rw [beq_eq_false_iff_ne]; intro z; exact n2 (Value.ref.inj z)
          have f3 : VE.contains (.ref (at2 R.cls k')) = false := rfl
          have r : (c == k' || k' == Cl.PressError) = false := by
            simp only [Bool.or_eq_false_iff, beq_eq_false_iff_ne]
            exact ⟨fun z => q1 z.symm, q2⟩
          rw [r]
          rcases hb with ⟨_, rfl⟩ | rfl
          · rw [List.contains_cons, f1, f3]; rfl
          · rw [List.contains_cons, List.contains_cons, f1, f2, f3]; rfl
    show PySem.W.kitOne K (.ref (at2 R.cls c)) (.ref (at2 R.cls k')) = some (subCls c k')
    unfold PySem.W.kitOne
    by_cases q : at2 R.cls c = at2 R.cls k'
    · rw [if_pos (by rw [q]; simp), ← hcon, q]; simp
    · rw [if_neg (fun z => q (Value.ref.inj (beq_iff_eq.mp z)))]
      show (if ((PySem.W.clsIn K (at2 R.cls k')).isSome && PySem.W.typeIn K (.ref (at2 R.cls k')) == some (.type "type")) = true then PySem.W.subIn K (.ref (at2 R.cls c)) (.ref (at2 R.cls k')) else none) = _
      rw [e1', e3', if_pos (by simp)]
      show PySem.W.mroIn K (at2 R.cls c) (.ref (at2 R.cls k')) = _
      unfold PySem.W.mroIn
      rw [e1, Option.bind_some, e2, if_neg (by simp), hcon]
end
end Mine
end
section
open PySem
open PyProof.Rows
namespace Mine

/-! ## Instances are made -/
section
variable {C : Cx} {T : Tab} {hk : Hook} {n : Nat}
theorem mk_ok (XO : XObj C T) (hlo : ∀ c f, T.init c = some f → 6 ≤ c) (HK : HkOk C hk n) : MkOk C T hk n := by
  intro c f hhc hi
  refine byc fun no => ?_
  obtain ⟨K, KX, HO⟩ := XO
  have h6 := hlo c f hi
  have O := HO c hhc h6
  obtain ⟨hff, hfind, hty⟩ := O.init f hi
  refine no ?_; clear no
  refine ⟨?_, fun s hs M => PySem.W.keeps_K O.keeps s.heap (KX.keeps hs), fun as M A σ s vs Q X F hA hhd R r w => ?_⟩
  · have := O.makes
    unfold PySem.W.makesIn at this
    split at this
    · rename_i ho; exact ⟨_, _, KX _ _ ho, rfl⟩
    · cases this
  refine byc fun no => ?_
  obtain ⟨h, g, d, t, os⟩ := s
  refine no ?_; clear no
  have KX' : K.In h := KX.keeps R.keep
  refine wpAny_call ?_
  refine PySem.W.make_core (PySem.W.makes_of KX' O.makes) (PySem.W.looks_findIn KX' hfind) (fun self => PySem.W.bind_fn KX' self hty) (.inl rfl) ?_
  have nd : h.get? h.objs.size = none := get_none_of_ge (Nat.le_refl _)
  have nx : h.get? (h.objs.size + 1) = none := get_none_of_ge (Nat.le_succ _)
  have k1 : ∀ b o, h.get? b = some o → (h.push PySem.W.emptyDict).get? b = some o := fun b o e => Heap.get?_push_of_some _ e
  refine byc fun no => ?_
  obtain ⟨R1, E1⟩ := R.change F.frame (a := h.objs.size) (ao := .dct []) (h' := h.push PySem.W.emptyDict) (fun b o _ e => k1 b o e) ⟨[], Heap.DictOf.new h, trivial, by decide⟩ (.inr nd) t
  have k2 : ∀ b o, (h.push PySem.W.emptyDict).get? b = some o → ((h.push PySem.W.emptyDict).push (PySem.W.instObj (C.ca c) h.objs.size)).get? b = some o := fun b o e => Heap.get?_push_of_some _ e
  have R2 : Rel C M { σ with H := σ.H.upd h.objs.size (.dct []) } ⟨(h.push PySem.W.emptyDict).push (PySem.W.instObj (C.ca c) h.objs.size), g, d, t, os⟩ := R1.keeps k2
  have E2 := E1.trans (s₂ := ⟨(h.push PySem.W.emptyDict).push (PySem.W.instObj (C.ca c) h.objs.size), g, d, t, os⟩) (.keeps k2)
  have hx : ((h.push PySem.W.emptyDict).push (PySem.W.instObj (C.ca c) h.objs.size)).get? (h.objs.size + 1) = some (PySem.W.instObj (C.ca c) h.objs.size) := by
    have := Heap.get?_push_size (h.push PySem.W.emptyDict) (o := PySem.W.instObj (C.ca c) h.objs.size) rfl
    rwa [Heap.size_push] at this
  have w' := w (h.objs.size + 1) h.objs.size (Nat.succ_ne_self _) (Side.new R nx).H (Side.new R nd).H
  obtain ⟨_, hcall⟩ := HK _ _ _ _ _ _ hff w'
  refine no ?_; clear no
  have rx : RV C ((h.push PySem.W.emptyDict).push (PySem.W.instObj (C.ca c) h.objs.size)) (.ref (h.objs.size + 1)) (.obj c (h.objs.size + 1) h.objs.size) := ⟨rfl, hx, hhc, h6⟩
  refine codeAny_mono (hcall M _ { σ with H := σ.H.upd h.objs.size (.dct []) } _ (.ref (h.objs.size + 1) :: vs) F (hA.make (C.ca c) vs) R2 rfl rfl ⟨rx, r.mono (.keeps fun b o e => k2 b o (k1 b o e))⟩) fun res s' z => ?_
  cases res with
  | error e => exact (z.mono fun c σ' ⟨e, q⟩ => by rw [e]; exact q).after E2
  | ok fl =>
    cases fl with
    | ret v =>
      refine byc fun no => ?_
      obtain ⟨av, σ', R', E', rv, e, rfl, q⟩ := z
      obtain rfl : v = .none := rv
      refine no ?_; clear no
      exact ⟨rfl, .obj c (h.objs.size + 1) h.objs.size, σ', R', E2.trans E', rx.mono (E'.im R2), by rw [e]; exact q⟩
    | next => exact z.elim
    | brk => exact z.elim
    | cont => exact z.elim
end
end Mine
end
section
open PySem
open PyProof.Rows
namespace Mine

theorem boot_ok {mb : Str → Option Value} (hb : ∀ x : Str, x ≠ "__name__" → mb x = bootBuiltins x) : BootOk mb := by
  constructor
  · intro x t h
    unfold tyTab at h
    simp only [List.lookup_cons] at h
    repeat' split at h
    all_goals first | (cases h; done) | skip
    all_goals (cases h; rename_i q; obtain rfl := beq_iff_eq.mp q; rw [hb _ (by decide)])
    · exact Boot.«int»
    · exact Boot.«bool»
    · exact Boot.«tuple»
    · exact Boot.«list»
    · exact Boot.«range»
    · exact Boot.«ValueError»
  · intro x t h
    unfold biTab at h
    simp only [List.lookup_cons] at h
    repeat' split at h
    all_goals first | (cases h; done) | skip
    all_goals (cases h; rename_i q; obtain rfl := beq_iff_eq.mp q; rw [hb _ (by decide)])
    · exact Boot.«len»
    · exact Boot.«sum»
    · exact Boot.«min»
    · exact Boot.«isinstance»
    · exact Boot.«all»

section
variable {K : Fg} {R : RT} {prog : Program} {w : World} {s : Shared}

theorem glob_fn (X : PySem.W.Frag.In K s.heap) {mg : Str → Option Value} (hg : s.heap.Ns mainGlobals mg) (h : rowOk K R PI = true) {x : Str} {f : Nat} {a : Addr} (hx : (x, f, a) ∈ R.fns) : mg x = some (.ref a) ∧ at2 R.fs f = a := by
  unfold rowOk at h
  split at h
  · rename_i es hes
    simp only [Bool.and_eq_true] at h
    have hm : mg x = findL es x := by
      unfold globs at hes
      split at hes
      · rename_i c d ea ep sl hk
        cases hes
        obtain ⟨o, es', ep', e, hd, _, hf⟩ := hg
        have := X _ _ hk
        rw [show mainGlobals = 3 from rfl] at e
        rw [this] at e
        cases e
        cases hd
        rw [← hf x, nsFind_list]
      · cases hes
    have := List.all_eq_true.mp h.1.1.1.1.1.1 _ hx
    simp only [Bool.and_eq_true, beq_iff_eq] at this
    refine ⟨?_, this.1.1⟩
    have q2 := this.1.2
    rw [hm]
    revert q2
    cases findL es x with
    | none => intro q; cases q
    | some v => cases v <;> intro q <;> first | (exact absurd q Bool.false_ne_true) | (obtain rfl := beq_iff_eq.mp q; rfl)
  · cases h

/-- a row whose classes are exceptions, or bear attributes -/
theorem law_join (X : PySem.W.Frag.In K s.heap) {p : Program} {loose : List Str} {mean : ExcName → Option Value} {mg mb : Str → Option Value} (T : Top p loose mean mg mb s.heap) (hrow : rowOk K R PI = true)
    (hexc : ∀ c, (∃ x a, (x, c, a) ∈ R.cls) → c ≤ 5 → ExcK K (at2 R.cls c) (at2 R.cls 0)) (hobj : ∀ c, (∃ x a, (x, c, a) ∈ R.cls) → 6 ≤ c → OneObj K (cxOf prog w s R) TB c) (h0 : ExcK K (at2 R.cls 0) (at2 R.cls 0))
    (inj : ∀ c k, (∃ x a, (x, c, a) ∈ R.cls) → ((∃ x a, (x, k, a) ∈ R.cls) ∨ k = 0) → at2 R.cls c = at2 R.cls k → c = k) (hg : s.gens = #[])
    {x : Str} {f : Nat} {fa : Addr} (hf : (x, f, fa) ∈ R.fns) {a : Addr} {ws : List Value} {k : Nat} {ns : List Int} (hL : IsL s.heap a ws.toArray k) (hI : IntsAre ws ns) (hl : ns.length ≤ 63)
    (Wk : CallN TB 15 f [.frz a ns] (fun _ => none) false (fun v _ => v = .bool true) (fun _ _ => False)) :
    wpAny (model prog w) callerA (call (.ref fa) [.ref a]) (fun v s' => v = .bool true ∧ (∀ b o, s.heap.get? b = some o → s'.heap.get? b = some o) ∧ s'.os = s.os ∧ s'.gens = #[]) (fun _ _ => False) s := by
  obtain ⟨hG, hF⟩ := gok_of (R := R) (prog := prog) (w := w) X T.g T.b (boot_ok T.builtins) hrow
  have XC : XCls (cxOf prog w s R) := xcls_of fun c hc h5 => excAt_of X (hexc c hc h5) h0
  have XI : XIsi (cxOf prog w s R) := xisi_of X (fun c hc h5 => hexc c hc h5) h0 inj
  have XO : XObj (cxOf prog w s R) TB := ⟨K, X, hobj⟩
  have MK : ∀ n, HkOk (cxOf prog w s R) (CallN TB n) n → MkOk (cxOf prog w s R) TB (CallN TB n) n := fun n HK => mk_ok XO (fun c f hi => by
    unfold TB at hi
    dsimp only at hi
    split at hi
    · exact Nat.le_refl _
    · decide
    · cases hi) HK
  have e := (glob_fn X T.g hrow hf).2
  have := top_ok (T := TB) (n := 14) (f := f) XI hG XC XO T.nolimit hF MK ⟨x, fa, List.mem_append_left _ hf⟩ rfl rfl hg (vs := [.ref a]) (as := [.frz a ns]) ⟨⟨rfl, ws, k, hL, hI, by (clear e; omega)⟩, trivial⟩ Wk (by decide) (by decide)
  rw [show (cxOf prog w s R).fa f = fa from e] at this
  exact this
end
end Mine
end
section
open PySem PySem.W
open PyProof.Rows
namespace Mine

theorem isL_of_well {P : Params} {h : Heap} {a : Addr} {xs : List PyData} {ws : List Value} (w : Well P h (.ref a) (ofPy (.list xs))) (hL : h.IsList a ws.toArray) : IsL h a ws.toArray 0 := by
  obtain ⟨o, e, hc, n, hd⟩ := hL
  unfold ofPy at w
  cases w with
  | list e' _ =>
    rw [e'] at e
    cases e
    cases hd
    exact e'

noncomputable def injB (l : List (Str × Nat × Addr)) : Bool := l.all fun p => (!(at2 l p.2.1 == at2 l 0) || p.2.1 == 0) && l.all fun q => !(at2 l p.2.1 == at2 l q.2.1) || p.2.1 == q.2.1
theorem inj_of {l : List (Str × Nat × Addr)} (h : injB l = true) (c k : Nat) (hc : ∃ x a, (x, c, a) ∈ l) (hk : (∃ x a, (x, k, a) ∈ l) ∨ k = 0) (e : at2 l c = at2 l k) : c = k := by
  obtain ⟨x, a, hc⟩ := hc
  have := List.all_eq_true.mp h _ hc
  rw [Bool.and_eq_true] at this
  rcases hk with ⟨y, b, hk⟩ | rfl
  · have := List.all_eq_true.mp this.2 _ hk
    simp only [e, beq_self_eq_true, Bool.not_true, Bool.false_or, beq_iff_eq] at this
    exact this
  · have := this.1
    simp only [e, beq_self_eq_true, Bool.not_true, Bool.false_or, beq_iff_eq] at this
    exact this

theorem refB_of {a : Addr} {o : Option (Option Value)} (h : refB a o = true) : o = some (some (.ref a)) := by
  unfold refB at h
  split at h
  · rw [beq_iff_eq.mp h]
  · cases h
theorem bltB_of {i : String} {o : Option (Option Value)} (h : bltB i o = true) : o = some (some (.builtin i)) := by
  unfold bltB at h
  split at h
  · rw [beq_iff_eq.mp h]
  · cases h
theorem nonB_of {o : Option (Option Value)} (h : nonB o = true) : o = some none := by
  unfold nonB at h
  split at h
  · rfl
  · cases h
theorem fnB_of {o : Option Value} (h : fnB o = true) : o = some (.type "function") := by
  unfold fnB at h
  split at h
  · rw [beq_iff_eq.mp h]
  · cases h
theorem any_fs {R : RT} {f : Nat} (h : R.fs.any (fun p => p.2.1 == f) = true) : ∃ x a, (x, f, a) ∈ R.fs := by
  obtain ⟨⟨x, g, a⟩, h1, h2⟩ := List.any_eq_true.mp h
  obtain rfl := beq_iff_eq.mp h2
  exact ⟨x, a, h1⟩
theorem oneObj_of {K : Fg} {R : RT} {prog : Program} {w : World} {s : Shared} {c : Nat} (h : objB K R c (at2 R.cls c) = true) : OneObj K (cxOf prog w s R) TB c := by
  have h1 := ands h
  have h2 := ands h1.2
  have h3 := ands h2.2
  have h4 := ands h3.2
  have h5 := ands h4.2
  have h6 := ands h5.2
  have h7 := ands h6.2
  have h8 := ands h7.2
  have h9 := ands h8.2
  refine ⟨h1.1, h2.1, h3.1, bltB_of h4.1, nonB_of h5.1, bltB_of h6.1, h7.1, fun k hk => nonB_of (List.all_eq_true.mp h8.1 k (List.mem_range.mpr (by omega))), fun f hf => ?_, fun m f name hf hn => ?_⟩
  · have q := h9.1
    rw [hf] at q
    have q1 := ands q
    have q2 := ands q1.2
    exact ⟨any_fs q1.1, refB_of q2.1, fnB_of q2.2⟩
  · have q := List.all_eq_true.mp h9.2 _ (mem_of_lookup hn)
    dsimp only at q
    rw [hf] at q
    have q1 := ands q
    have q2 := ands q1.2
    exact ⟨any_fs q1.1, fnB_of q2.1, refB_of q2.2⟩
/-- exceptions by their shape, others by what their instances ask -/
noncomputable def ClsAll (K : Fg) (R : RT) : List (Str × Nat × Addr) → Prop
  | [] => True
  | p :: r => (if p.2.1 ≤ 5 then ExcK K p.2.2 (at2 R.cls 0) else objB K R p.2.1 p.2.2 = true) ∧ ClsAll K R r
theorem clsAll_mem {K : Fg} {R : RT} {p : Str × Nat × Addr} : ∀ {l : List (Str × Nat × Addr)}, ClsAll K R l → p ∈ l → if p.2.1 ≤ 5 then ExcK K p.2.2 (at2 R.cls 0) else objB K R p.2.1 p.2.2 = true
  | [], _, h => by cases h
  | q :: r, x, h => by
    rcases List.mem_cons.mp h with z | z
    · rw [z]; exact x.1
    · exact clsAll_mem x.2 z

section
variable {K : Fg} {R : RT} {prog : Program} {w : World} {s : Shared}
theorem cls_at (h : rowOk K R PI = true) {x : Str} {c : Nat} {a : Addr} (hx : (x, c, a) ∈ R.cls) : at2 R.cls c = a := by
  unfold rowOk at h
  split at h
  · simp only [Bool.and_eq_true] at h
    have := List.all_eq_true.mp h.1.1.1.1.2 _ hx
    simp only [Bool.and_eq_true, beq_iff_eq] at this
    exact this.1
  · cases h

/-- a law of a row whose classes are exceptions alone -/
theorem law_row (X : PySem.W.Frag.In K s.heap) {p : Program} {loose : List Str} {mean : ExcName → Option Value} {mg mb : Str → Option Value} (T : Top p loose mean mg mb s.heap) (hrow : rowOk K R PI = true)
    (hinj : injB R.cls = true) (hexc : ClsAll K R R.cls) (h0 : ExcK K (at2 R.cls 0) (at2 R.cls 0)) (hg : s.gens = #[])
    {x : Str} {f : Nat} {fb fa : Addr} (hf : (x, f, fb) ∈ R.fns) (hmg : mg x = some (.ref fa)) {a : Addr} {ws : List Value} {ns : List Int} {P : Params} (w1 : Well P s.heap (.ref a) (ofPy (.list (ns.map .int)))) (hL : s.heap.IsList a ws.toArray) (hI : IntsAre ws ns) (hl : ns.length ≤ 63)
    (Wk : CallN TB 15 f [.frz a ns] (fun _ => none) false (fun v _ => v = .bool true) (fun _ _ => False)) {c : ClaimW} {cl : Str → Option Addr} {mean' : ExcName → Option Value} {args : List WData}
    (hr : ∀ e, c.raises args e = false) (hp : c.post args (.bool true) args = true) :
    wpAny (model prog w) callerA (call (.ref fa) [.ref a]) (fun v s' => GoodWG c cl mean' args s (.ok (.ret v)) s') (fun e s' => GoodWG c cl mean' args s (.error e) s') s := by
  have e := (glob_fn X T.g hrow hf).1
  rw [hmg] at e
  obtain rfl : fa = fb := by cases e; rfl
  refine wpAny_mono (law_join X T hrow (fun c hc h5 => ?_) (fun c hc h6 => ?_) h0 (inj_of hinj) hg hf (isL_of_well w1 hL) hI hl Wk) (fun v s' g => ?_) fun _ _ f => f.elim
  · obtain ⟨y, b, hb⟩ := hc
    rw [cls_at hrow hb]
    have := clsAll_mem hexc hb
    rw [if_pos h5] at this
    exact this
  · obtain ⟨y, b, hb⟩ := hc
    have := clsAll_mem hexc hb
    rw [if_neg (by show ¬ c ≤ 5; (clear hl; omega))] at this
    exact oneObj_of (by rw [cls_at hrow hb]; exact this)
  · obtain ⟨rfl, k, hos, hgn⟩ := g
    refine GoodW.toG ⟨.inl ⟨_, .bool true, [], rfl, hr, ?_, hp, fun _ => ⟨List.nodup_nil, fun a ha => by cases ha⟩⟩, k, hos, hgn⟩
    first | exact .bool true | exact .bool _ | constructor
end
end Mine
end
section
open PySem PySem.W
open PyProof.Rows
namespace Mine

/-! ## A row's ground, seen by one Bool of the heap that its top leaves -/
theorem lookup_mem_of {a : Addr} {o : Obj} : ∀ {l : Fg}, l.lookup a = some o → (a, o) ∈ l
  | [], h => by cases h
  | (b, p) :: r, h => by
    rw [List.lookup_cons] at h
    cases q : a == b with
    | true =>
      rw [q] at h
      cases h
      obtain rfl : a = b := beq_iff_eq.mp q
      exact .head _
    | false => rw [q] at h; exact .tail _ (lookup_mem_of h)
theorem frag_in (h : Heap) : PySem.W.Frag.In (fragOf h) h := fun a o e => by
  obtain ⟨b, _, hb⟩ := List.mem_filterMap.mp (lookup_mem_of e)
  cases g : h.get? b with
  | none => rw [g] at hb; cases hb
  | some p => rw [g] at hb; cases hb; exact g

theorem typs_of : ∀ {vs : List Value} {ss : List String}, typsB vs ss = true → vs = ss.map Value.type
  | [], [], _ => rfl
  | v :: vs, s :: ss, h => by
    cases v <;> first | (exact absurd h Bool.false_ne_true) | skip
    have h' := Bool.and_eq_true_iff.mp h
    obtain rfl := beq_iff_eq.mp h'.1
    rw [typs_of h'.2]; rfl
  | [], _ :: _, h => absurd h Bool.false_ne_true
  | v :: _, [], h => by cases v <;> exact absurd h Bool.false_ne_true
theorem mro_of {a a0 : Addr} : ∀ {l : List Value}, mroB a a0 l = true → ∃ bm, l = .ref a :: bm ∧ ((a = a0 ∧ bm = VE) ∨ bm = .ref a0 :: VE)
  | [], h => absurd h Bool.false_ne_true
  | v :: bm, h => by
    cases v <;> first | (exact absurd h Bool.false_ne_true) | skip
    have h' := Bool.and_eq_true_iff.mp h
    obtain rfl := beq_iff_eq.mp h'.1
    refine ⟨bm, rfl, ?_⟩
    rcases Bool.or_eq_true_iff.mp h'.2 with q | q
    · have q' := Bool.and_eq_true_iff.mp q
      exact .inl ⟨beq_iff_eq.mp q'.1, typs_of q'.2⟩
    · cases bm with
      | nil => exact absurd q Bool.false_ne_true
      | cons b r =>
        cases b <;> first | (exact absurd q Bool.false_ne_true) | skip
        have q' := Bool.and_eq_true_iff.mp q
        obtain rfl := beq_iff_eq.mp q'.1
        exact .inr (by rw [typs_of q'.2]; rfl)
theorem new_of {l : List (Option Value)} (h : newB l = true) : ∃ k0 k1 k2 k3 k5, l = [k0, k1, k2, k3, some (.builtin "ValueError.__new__"), k5] := by
  have h1 : l.length = 6 := beq_iff_eq.mp (ands h).1
  have h2 := (ands h).2
  rcases l with _ | ⟨k0, _ | ⟨k1, _ | ⟨k2, _ | ⟨k3, _ | ⟨o, _ | ⟨k5, _ | ⟨_, _⟩⟩⟩⟩⟩⟩⟩ <;> first | (cases h1; done) | skip
  cases o with
  | none => exact absurd h2 Bool.false_ne_true
  | some v =>
    cases v <;> first | (exact absurd h2 Bool.false_ne_true) | skip
    obtain rfl := beq_iff_eq.mp h2
    exact ⟨k0, k1, k2, k3, k5, rfl⟩
theorem excK_of {K : Fg} {a a0 : Addr} (h : excB K a a0 = true) : ExcK K a a0 := by
  unfold excB at h
  split at h
  · rename_i ty dd cd sl hk
    have h1 := Bool.and_eq_true_iff.mp h
    have h2 := Bool.and_eq_true_iff.mp h1.1
    have h3 := Bool.and_eq_true_iff.mp h2.1
    have h4 := Bool.and_eq_true_iff.mp h3.1
    obtain rfl := beq_iff_eq.mp h4.1
    have h5 := h4.2
    obtain ⟨bm, e1, hb⟩ := mro_of h3.2
    obtain ⟨k0, k1, k2, k3, k5, e2⟩ := new_of h2.2
    obtain ⟨nm, bs, mro, N, q, hdct, sn, sub, ab, col, del⟩ := cd
    obtain ⟨sl⟩ := sl
    dsimp only at e1 e2 h5 h1
    subst e1 e2
    cases del with
    | true => cases h5
    | false =>
      have h6 := h1.2
      split at h6
      · rename_i c d es ep sl hn
        exact ⟨nm, q, N, bs, bm, hdct, sn, sub, ab, col, dd, k0, k1, k2, k3, k5, hk, hb, c, d, es, ep, sl, hn, h6⟩
      · cases h6
  · cases h

/-- what the top leaves behind -/
noncomputable def Left (R : RT) (h : Heap) : Prop := ∃ K : Fg, PySem.W.Frag.In K h ∧ rowOk K R PI = true ∧ ClsAll K R R.cls ∧ ExcK K (at2 R.cls 0) (at2 R.cls 0)
theorem clsAll_of {K : Fg} {R : RT} : ∀ {l : List (Str × Nat × Addr)}, l.all (fun p => if p.2.1 ≤ 5 then excB K p.2.2 (at2 R.cls 0) else objB K R p.2.1 p.2.2) = true → ClsAll K R l
  | [], _ => trivial
  | p :: r, h => by
    rw [List.all_cons, Bool.and_eq_true] at h
    refine ⟨?_, clsAll_of h.2⟩
    have := h.1
    split at this
    · rename_i q; rw [if_pos q]; exact excK_of this
    · rename_i q; rw [if_neg q]; exact this
theorem seen_parts (R : RT) (n : Nat) (s : Shared) (h1 : partF R (R.fns.take n) s = true) (h2 : partF R (R.fns.drop n) s = true) (h3 : partM R s = true) (h4 : partG R s = true) (h5 : partC R s = true) : seenB R s = true := by
  have h5' := ands h5
  refine Bool.and_eq_true_iff.mpr ⟨Bool.and_eq_true_iff.mpr ⟨?_, h5'.1⟩, h5'.2⟩
  unfold partF at h1 h2
  unfold partG at h4
  unfold rowOk
  cases e : globs (fragOf s.heap) with
  | none => rw [e] at h4; exact absurd h4 Bool.false_ne_true
  | some es =>
    rw [e] at h1 h2 h4
    have h := List.all_append (xs := R.fns.take n) (ys := R.fns.drop n) (f := fun p => at2 R.fs p.2.1 == p.2.2 && isRefTo p.2.2 (findL es p.1) && funIn (fragOf s.heap) R.gt PI p.2.1 p.2.2)
    rw [List.take_append_drop] at h
    dsimp only at h1 h2 h4 ⊢
    unfold partM at h3
    rw [h, h1, h2, h3]
    simpa using h4
theorem map_parts {o : Option Shared} {R : RT} (n : Nat) (h1 : o.map (partF R (R.fns.take n)) = some true) (h2 : o.map (partF R (R.fns.drop n)) = some true) (h3 : o.map (fun s => partM R s && partG R s) = some true) (h5 : o.map (partC R) = some true) : o.map (seenB R) = some true := by
  cases o with
  | none => cases h1
  | some s =>
    have h3' := ands (Option.some.inj h3)
    exact congrArg some (seen_parts R n s (Option.some.inj h1) (Option.some.inj h2) h3'.1 h3'.2 (Option.some.inj h5))
theorem left_of (R : RT) (_ : World) (s : Shared) (h : seenB R s = true) : Left R s.heap := by
  have h1 := Bool.and_eq_true_iff.mp h
  have h2 := Bool.and_eq_true_iff.mp h1.1
  exact ⟨_, frag_in s.heap, h2.1, clsAll_of h2.2, excK_of h1.2⟩
theorem left_keeps (R : RT) (_ : World) (h h' : Heap) (l : Left R h) (k : ∀ b o, h.get? b = some o → h'.get? b = some o) : Left R h' := by
  obtain ⟨K, x, r⟩ := l
  exact ⟨K, fun a o e => k a o (x a o e), r⟩
/-- the head in two: less memory at a time -/
theorem left_two {p q : Program} {loose : List Str} {Xt : Shared → Bool} {Yf : Shared → Bool} {N : Nat} (h1 : ∀ w, Option.map (openSeen q loose (importedModules p.main.body) Xt true) (openEnds treeTable p w N) = some (openGood q loose)) (h2 : ∀ w, Option.map Yf (openEnds treeTable p w N) = some true) : LeftO p q loose Xt Yf (fun _ => true) N := fun w => by
  have a := h1 w
  have b := h2 w
  revert a b
  cases openEnds treeTable p w N with
  | none => intro a; cases a
  | some s => intro a b; exact congrArg some (congr (congrArg Prod.mk (Option.some.inj a)) (Option.some.inj b))
end Mine
end
section
open PySem
namespace Mine
theorem idx_t0 (v : AV) (r : List AV) (σ : AS) (Q : AV → AS → Prop) : idxW (.tup (v :: r)) (.int 0) σ Q = Q v σ :=
  propext ⟨fun h => by simpa [need, pick] using (show need (some (v :: r)) fun vs => need (pick vs 0) fun v => Q v σ from h.2), fun h => ⟨by decide, by show need (some (v :: r)) fun vs => need (pick vs 0) fun v => Q v σ; simpa [need, pick] using h⟩⟩
theorem idx_t1 (u v : AV) (r : List AV) (σ : AS) (Q : AV → AS → Prop) : idxW (.tup (u :: v :: r)) (.int 1) σ Q = Q v σ :=
  propext ⟨fun h => by simpa [need, pick] using (show need (some (u :: v :: r)) fun vs => need (pick vs 1) fun v => Q v σ from h.2), fun h => ⟨by decide, by show need (some (u :: v :: r)) fun vs => need (pick vs 1) fun v => Q v σ; simpa [need, pick] using h⟩⟩
theorem idx_t2 (t u v : AV) (r : List AV) (σ : AS) (Q : AV → AS → Prop) : idxW (.tup (t :: u :: v :: r)) (.int 2) σ Q = Q v σ :=
  propext ⟨fun h => by simpa [need, pick] using (show need (some (t :: u :: v :: r)) fun vs => need (pick vs 2) fun v => Q v σ from h.2), fun h => ⟨by decide, by show need (some (t :: u :: v :: r)) fun vs => need (pick vs 2) fun v => Q v σ; simpa [need, pick] using h⟩⟩
theorem idx_of {o : AV} {vs : List AV} {k : Int} {v : AV} {σ : AS} {Q : AV → AS → Prop} (h0 : 0 ≤ k) (h1 : k ≤ 1000000) (hs : seqOf σ.H o = some vs) (hv : vs[k.toNat]? = some v) (q : Q v σ) : idxW o (.int k) σ Q := by
  refine ⟨⟨by omega, h1⟩, ?_⟩
  rw [hs]
  show need (pick vs k) _
  unfold pick
  rw [if_neg (by omega), hv]
  exact q
/-! loops, kept shut -/
noncomputable def FOR (T : Tab) (hk : Hook) (t : Tgt) (b : List MS) (iv : AV) (vs r : List AV) (σ : AS) (QS : Out → AS → Prop) (X : Nat → AS → Prop) : Prop :=
  forW (fun σ₂ => src σ₂.H iv = some vs) (fun v σ₂ k => asgW t v σ₂ fun σ₃ => WSs T hk b σ₃ k X) r σ QS
theorem FOR_nil {T : Tab} {hk : Hook} {t : Tgt} {b : List MS} {iv : AV} {vs : List AV} {σ : AS} {QS : Out → AS → Prop} {X : Nat → AS → Prop} (h1 : src σ.H iv = some vs) (h2 : QS .next σ) : FOR T hk t b iv vs [] σ QS X := ⟨h1, h2⟩
theorem FOR_cons {T : Tab} {hk : Hook} {t : Tgt} {b : List MS} {iv : AV} {vs : List AV} {v : AV} {r : List AV} {σ : AS} {QS : Out → AS → Prop} {X : Nat → AS → Prop} (h1 : src σ.H iv = some vs)
    (h2 : asgW t v σ fun σ₃ => WSs T hk b σ₃ (fun o σ' => match o with | .next => FOR T hk t b iv vs r σ' QS X | .ret v => QS (.ret v) σ') X) : FOR T hk t b iv vs (v :: r) σ QS X := ⟨h1, h2⟩
noncomputable def plV (cs : List Int) (g : Int) : AV := .tup [.tup (cs.map .int), .int g]
structure PlanOk (cs : List Int) (g : Int) : Prop where
  l2 : 2 ≤ cs.length
  l8 : cs.length ≤ 8
  cnt : ∀ c ∈ cs, 1 ≤ c ∧ c ≤ 1000000
  g0 : 0 ≤ g
  g1 : g ≤ 1000000

end Mine
end
section
open PySem
namespace Mine
/-! ## heaps -/
noncomputable def Le (H H' : AH) : Prop := ∀ a o, H a = some o → H' a = some o
theorem Le.refl (H : AH) : Le H H := fun _ _ h => h
theorem Le.trans {H₁ H₂ H₃ : AH} (h : Le H₁ H₂) (g : Le H₂ H₃) : Le H₁ H₃ := fun a o e => g a o (h a o e)
theorem Le.new {H H' : AH} {a : Addr} {o : AO} (h : Le H H') (n : H a = none) : Le H (H'.upd a o) := fun b p e => by
  have hb : b ≠ a := fun c => by rw [c, n] at e; exact nomatch e
  show (if b = a then some o else H' b) = some p
  rw [if_neg hb]; exact h b p e
theorem Le.none {H H' : AH} {a : Addr} (h : Le H H') (n : H' a = none) : H a = none := by
  cases e : H a with
  | none => rfl
  | some o => exact nomatch n.symm.trans (h a o e)
theorem getL_le {H H' : AH} {a : Addr} {vs : List AV} (h : Le H H') (g : getL H a = some vs) : getL H' a = some vs := by
  unfold getL at g ⊢
  cases e : H a with
  | none => rw [e] at g; exact nomatch g
  | some o => rw [h a o e]; rw [e] at g; exact g
theorem getL_at {H : AH} {a : Addr} {vs : List AV} (g : getL H a = some vs) : H a = some (.lst vs) := by
  unfold getL at g
  cases e : H a with
  | none => rw [e] at g; exact nomatch g
  | some o => rw [e] at g; cases o with
    | lst ws => exact congrArg _ (congrArg _ (Option.some.inj g))
    | dct _ => exact nomatch g
theorem getL_self (H : AH) (a : Addr) (vs : List AV) : getL (H.upd a (.lst vs)) a = some vs := by simp [getL, AH.upd]
theorem getL_ne {H : AH} {a b : Addr} {o : AO} {vs : List AV} (h : b ≠ a) (g : getL H b = some vs) : getL (H.upd a o) b = some vs := by
  unfold getL AH.upd at *; rw [if_neg h]; exact g
theorem ne_of_new {H : AH} {a b : Addr} {vs : List AV} (g : getL H b = some vs) (n : H a = none) : b ≠ a := fun c => by
  rw [c] at g; rw [getL_at g] at n; exact nomatch n
theorem upd_none {H : AH} {a b : Addr} {o : AO} (h : (H.upd a o) b = none) : H b = none ∧ b ≠ a := by
  unfold AH.upd at h
  by_cases e : b = a
  · rw [if_pos e] at h; exact nomatch h
  · rw [if_neg e] at h; exact ⟨h, e⟩
/-! ## more of the machine, kept shut -/
section
variable {T : Tab} {hk : Hook} {σ : AS} {Q : AV → AS → Prop} {X : Nat → AS → Prop} {QS : Out → AS → Prop}
noncomputable def COMP (T : Tab) (hk : Hook) (elt : ME) (t : Tgt) (ifs : List MT) (iv : AV) (vs r acc : List AV) (σ : AS) (K : List AV → AS → Prop) : Prop :=
  compW (fun σ₂ => src σ₂.H iv = some vs) (fun v σ₂ k => asgW t v σ₂ fun σ₃ => WT T hk (.all ifs) σ₃ (fun b σ₄ => if b then WE T hk elt σ₄ (fun x σ₅ => k (some x) σ₅) noX else k none σ₄) noX) r acc σ K
theorem COMP_nil {elt : ME} {t : Tgt} {ifs : List MT} {iv : AV} {vs acc : List AV} {K : List AV → AS → Prop} (h1 : src σ.H iv = some vs) (h2 : K acc σ) : COMP T hk elt t ifs iv vs [] acc σ K := ⟨h1, h2⟩
theorem COMP_cons {elt : ME} {t : Tgt} {ifs : List MT} {iv v : AV} {vs r acc : List AV} {K : List AV → AS → Prop} (h1 : src σ.H iv = some vs)
    (h2 : asgW t v σ fun σ₃ => WT T hk (.all ifs) σ₃ (fun b σ₄ => if b then WE T hk elt σ₄ (fun x σ₅ => Small (acc ++ [x]).length ∧ COMP T hk elt t ifs iv vs r (acc ++ [x]) σ₅ K) noX else Small (acc ++ []).length ∧ COMP T hk elt t ifs iv vs r (acc ++ []) σ₄ K) noX) : COMP T hk elt t ifs iv vs (v :: r) acc σ K := ⟨h1, h2⟩
end
theorem cut_ni {vs : List AV} {j : Int} (h : 0 ≤ j) : cut vs .none (.int j) = some (vs.take j.toNat) := by
  show some (vs.take (normI j vs.length)) = _
  unfold normI
  rw [if_neg (by omega)]
  congr 1
  rw [List.take_eq_take_iff]; omega
theorem cut_in {vs : List AV} {j : Int} (h : 0 ≤ j) : cut vs (.int j) .none = some (vs.drop j.toNat) := by
  show some (vs.drop (normI j vs.length)) = _
  unfold normI
  rw [if_neg (by omega)]
  congr 1
  by_cases e : j.toNat ≤ vs.length
  · rw [Nat.min_eq_left e]
  · rw [Nat.min_eq_right (by omega), List.drop_length, List.drop_eq_nil_of_le (by omega)]
theorem idx_any {o : AV} {vs : List AV} {k : Int} {σ : AS} {Q : AV → AS → Prop} (h0 : 0 ≤ k) (h1 : k < vs.length) (h2 : vs.length ≤ 1000000) (hs : seqOf σ.H o = some vs) (q : ∀ v ∈ vs, Q v σ) : idxW o (.int k) σ Q := by
  have hk : k.toNat < vs.length := by omega
  exact idx_of h0 (by omega) hs (List.getElem?_eq_getElem hk) (q _ (List.getElem_mem hk))
theorem mul_l {x y : Int} (h : x.natAbs < 2 ^ 64) : MulOk x y := .inl h
theorem mul_r {x y : Int} (h : y.natAbs < 2 ^ 64) : MulOk x y := .inr (.inl h)
theorem mul_n {x y : Int} (n m : Nat) (h : x.natAbs < 2 ^ n) (g : y.natAbs < 2 ^ m) (hn : n + m ≤ 100000) : MulOk x y := .inr (.inr ⟨n, m, h, g, hn⟩)
theorem div_s {y : Int} (h : 0 < y) (g : y < 2 ^ 63) : DivOk y := ⟨h, 63, by omega, by decide⟩
theorem ints_map (ns : List Int) : ints? (ns.map .int) = some ns := by
  induction ns with
  | nil => rfl
  | cons n ns ih => show (ints? (ns.map .int)).map (n :: ·) = _; rw [ih]; rfl
theorem bools_map (ns : List Bool) : bools? (ns.map .bool) = some ns := by
  induction ns with
  | nil => rfl
  | cons n ns ih => show (bools? (ns.map .bool)).map (n :: ·) = _; rw [ih]; rfl
/-! ## texts and stretches, the plain side -/
noncomputable abbrev txV (ks : List Nat) : List AV := ks.map fun k => AV.int (k : Nat)
structure Sg where
  l : Int
  w : Int
  t : Int
noncomputable def stV (s : Sg) : AV := .tup [.int s.l, .int s.w, .int s.t]
noncomputable def blw (cs : List Int) (k : Nat) : Int := (cs.take k).sum
noncomputable def cnt (cs : List Int) (k : Nat) : Int := cs.getD k 0
noncomputable def bhd (cs : List Int) (g : Int) (k : Nat) : List Int := cs.set k (min 1000000 (cnt cs k + g))
noncomputable def stp (s : Sg) (cs : List Int) (k : Nat) : Sg := ⟨s.l * cs.sum + s.w * blw cs k, s.w * cnt cs k, s.t * cs.sum⟩
noncomputable def str (s : Sg) (cs : List Int) (g : Int) : List Nat → Sg
  | [] => s
  | k :: ks => str (stp s cs k) (bhd cs g k) g ks
noncomputable def one : Sg := ⟨0, 1, 1⟩
noncomputable def TxOk (cs : List Int) (ks : List Nat) : Prop := ∀ k ∈ ks, k < cs.length
theorem bhd_len (cs : List Int) (g : Int) (k : Nat) : (bhd cs g k).length = cs.length := by simp [bhd]
theorem cnt_at {cs : List Int} {k : Nat} (h : k < cs.length) : cs[k]? = some (cnt cs k) := by simp [cnt, List.getD, List.getElem?_eq_getElem h]
theorem cnt_mem {cs : List Int} {k : Nat} (h : k < cs.length) : cnt cs k ∈ cs := by simp [cnt, List.getD, List.getElem?_eq_getElem h]
theorem PlanOk.cnt1 {cs : List Int} {g : Int} (p : PlanOk cs g) {k : Nat} (h : k < cs.length) : 1 ≤ Mine.cnt cs k ∧ Mine.cnt cs k ≤ 1000000 := p.cnt _ (cnt_mem h)
theorem PlanOk.bhd {cs : List Int} {g : Int} (p : PlanOk cs g) {k : Nat} (h : k < cs.length) : PlanOk (bhd cs g k) g where
  l2 := by rw [bhd_len]; exact p.l2
  l8 := by rw [bhd_len]; exact p.l8
  cnt := fun c hc => by
    rcases List.mem_or_eq_of_mem_set hc with h1 | h1
    · exact p.cnt c h1
    · have := p.cnt1 h; have := p.g0; rw [h1]; omega
  g0 := p.g0
  g1 := p.g1
theorem sum_range {cs : List Int} (h : ∀ c ∈ cs, 1 ≤ c ∧ c ≤ 1000000) : (cs.length : Int) ≤ cs.sum ∧ cs.sum ≤ 1000000 * cs.length := by
  induction cs with
  | nil => simp
  | cons c cs ih =>
    have h1 := ih fun d hd => h d (.tail _ hd)
    have h2 := h c (.head _)
    simp only [List.sum_cons, List.length_cons]
    omega
theorem PlanOk.tot {cs : List Int} {g : Int} (p : PlanOk cs g) : 2 ≤ cs.sum ∧ cs.sum ≤ 8000000 := by
  have h := sum_range p.cnt
  have := p.l2; have := p.l8
  omega
theorem PlanOk.blw {cs : List Int} {g : Int} (p : PlanOk cs g) {k : Nat} (h : k < cs.length) : 0 ≤ Mine.blw cs k ∧ Mine.blw cs k + Mine.cnt cs k ≤ cs.sum := by
  have h1 := sum_range (cs := cs.take k) fun c hc => p.cnt c (List.mem_of_mem_take hc)
  have h2 := sum_range (cs := cs.drop (k + 1)) fun c hc => p.cnt c (List.mem_of_mem_drop hc)
  have h3 : cs.sum = (cs.take k).sum + Mine.cnt cs k + (cs.drop (k + 1)).sum := by
    have h4 : cs.sum = (cs.take k ++ cs.drop k).sum := by rw [List.take_append_drop]
    have h5 : Mine.cnt cs k = cs[k] := by simp [Mine.cnt, List.getD, List.getElem?_eq_getElem h]
    rw [h4, List.sum_append, List.drop_eq_getElem_cons h, List.sum_cons, h5]; omega
  unfold Mine.blw
  omega
theorem TxOk.bhd {cs : List Int} {k : Nat} {ks : List Nat} {g : Int} (h : TxOk cs ks) : TxOk (bhd cs g k) ks := fun j hj => by rw [bhd_len]; exact h j hj
/-- a stretch within the whole, of at most n bits -/
structure StOk (n : Nat) (s : Sg) : Prop where
  l0 : 0 ≤ s.l
  w1 : 1 ≤ s.w
  lw : s.l + s.w ≤ s.t
  tn : s.t ≤ 2 ^ n
theorem one_ok : StOk 0 one := ⟨by decide, by decide, by decide, by decide⟩
theorem StOk.stp {n : Nat} {s : Sg} {cs : List Int} {g : Int} {k : Nat} (h : StOk n s) (p : PlanOk cs g) (hk : k < cs.length) : StOk (n + 23) (stp s cs k) := by
  obtain ⟨a, b⟩ := p.blw hk
  obtain ⟨c, d⟩ := p.tot
  obtain ⟨e, f⟩ := p.cnt1 hk
  obtain ⟨l0, w1, lw, tn⟩ := h
  refine ⟨?_, ?_, ?_, ?_⟩
  · show 0 ≤ s.l * cs.sum + s.w * Mine.blw cs k
    have := Int.mul_nonneg l0 (show 0 ≤ cs.sum by omega)
    have := Int.mul_nonneg (show 0 ≤ s.w by omega) a
    omega
  · show 1 ≤ s.w * Mine.cnt cs k
    have := Int.mul_le_mul w1 e (by decide) (by omega)
    omega
  · show s.l * cs.sum + s.w * Mine.blw cs k + s.w * Mine.cnt cs k ≤ s.t * cs.sum
    have h1 : s.w * Mine.blw cs k + s.w * Mine.cnt cs k ≤ s.w * cs.sum := by
      rw [← Int.mul_add]; exact Int.mul_le_mul_of_nonneg_left b (by omega)
    have h2 : s.l * cs.sum + s.w * cs.sum ≤ s.t * cs.sum := by
      rw [← Int.add_mul]; exact Int.mul_le_mul_of_nonneg_right lw (by omega)
    omega
  · show s.t * cs.sum ≤ 2 ^ (n + 23)
    have := Int.mul_le_mul tn (show cs.sum ≤ 2 ^ 23 by omega) (by omega) (Int.pow_nonneg (by decide))
    rwa [← Int.pow_add] at this
theorem str_ok {g : Int} : ∀ {ks : List Nat} {n : Nat} {s : Sg} {cs : List Int} (_ : StOk n s) (_ : PlanOk cs g) (_ : TxOk cs ks), StOk (n + 23 * ks.length) (str s cs g ks)
  | [], n, s, cs, h, _, _ => h
  | k :: ks, n, s, cs, h, p, t => by
    have hk := t k (.head _)
    have := str_ok (ks := ks) (h.stp p hk) (p.bhd hk) (TxOk.bhd fun j hj => t j (.tail _ hj))
    rw [show n + 23 + 23 * ks.length = n + 23 * (k :: ks).length by simp only [List.length_cons]; omega] at this
    exact this
theorem StOk.le {n m : Nat} {s : Sg} (h : StOk n s) (hm : n ≤ m) : StOk m s :=
  ⟨h.l0, h.w1, h.lw, Int.le_trans h.tn (by exact_mod_cast Nat.pow_le_pow_right (by decide : 0 < 2) hm)⟩
theorem StOk.abs {n : Nat} {s : Sg} (h : StOk n s) : s.l.natAbs < 2 ^ (n + 1) ∧ s.w.natAbs < 2 ^ (n + 1) ∧ s.t.natAbs < 2 ^ (n + 1) ∧ (s.l + s.w).natAbs < 2 ^ (n + 1) := by
  obtain ⟨l0, w1, lw, tn⟩ := h
  have e : ((2 ^ n : Nat) : Int) = (2 : Int) ^ n := by simp
  have : (2 : Nat) ^ (n + 1) = 2 * 2 ^ n := by rw [Nat.pow_succ]; omega
  have h0 : 0 < (2 : Nat) ^ n := Nat.pow_pos (by decide)
  rw [← e] at tn
  omega
end Mine
end
section
open PySem
namespace Mine
/-! the walk's equations, on states written out (printed by mkwalk.py) -/
noncomputable def setI (ov iv v : AV) (σ : AS) (QS : Out → AS → Prop) : Prop := match ov, iv with
  | .lst a, .int k => 0 ≤ k ∧ need (getL σ.H a) fun vs => k < vs.length ∧ QS .next { σ with H := σ.H.upd a (.lst (vs.set k.toNat v)) }
  | _, _ => False
noncomputable def setA (ov : AV) (k : Nat) (v : AV) (σ₂ : AS) (QS : Out → AS → Prop) : Prop := match ov with
  | .obj _ _ d => need (getD σ₂.H d) fun kvs => kvs.length ≤ 20 ∧ QS .next { σ₂ with H := σ₂.H.upd d (.dct (kvSet kvs k v)) }
  | _ => False
noncomputable def setK (ov : AV) (k : Nat) (v : AV) (σ₂ : AS) (QS : Out → AS → Prop) : Prop := match ov with
  | .dct a => need (getD σ₂.H a) fun kvs => (kvs.lookup k).isSome = true ∧ QS .next { σ₂ with H := σ₂.H.upd a (.dct (kvSet kvs k v)) }
  | _ => False
noncomputable def DICT (ks : List Nat) (vs : List AV) (σ₁ : AS) (Q : AV → AS → Prop) : Prop := ks.length = vs.length ∧ ks.Nodup ∧ ks.length ≤ 15 ∧ ∀ a, σ₁.H a = none → Q (.dct a) { σ₁ with H := σ₁.H.upd a (.dct (ks.zip vs)) }
/-- what is done behind a class's call, kept shut -/
noncomputable def KONC (Q : AV → AS → Prop) (l c : List (Option AV)) (cc : Nat) (a d : Addr) (v : AV) (H : AH) : Prop := v = .none ∧ Q (.obj cc a d) ⟨l, c, H, false⟩
noncomputable def FOR0 (T : Tab) (hk : Hook) (t : Tgt) (b : List MS) (iv : AV) (σ : AS) (QS : Out → AS → Prop) (X : Nat → AS → Prop) : Prop := σ.hd = false ∧ need (src σ.H iv) fun vs => FOR T hk t b iv vs vs σ QS X
noncomputable def COMP0 (T : Tab) (hk : Hook) (nc : Nat) (elt : ME) (t : Tgt) (ifs : List MT) (iv : AV) (σ : AS) (Q : AV → AS → Prop) : Prop := σ.hd = false ∧ need (src σ.H iv) fun vs =>
  COMP T hk elt t ifs iv vs vs [] { σ with cv := List.replicate nc none } (fun acc σ₂ => ∀ a, σ₂.H a = none → Q (.lst a) { σ₂ with cv := σ.cv, H := σ₂.H.upd a (.lst acc) })
noncomputable def compK (c : List (Option AV)) (Q : AV → AS → Prop) (acc : List AV) (σ₂ : AS) : Prop := ∀ a, σ₂.H a = none → Q (.lst a) ⟨σ₂.loc, c, σ₂.H.upd a (.lst acc), σ₂.hd⟩
theorem compK_ok {acc : List AV} {l c w : List (Option AV)} {H : AH} {Q : AV → AS → Prop} (h : ∀ a H', H a = none → Le H H' → getL H' a = some acc → Q (.lst a) ⟨l, c, H', false⟩) : compK c Q acc ⟨l, w, H, false⟩ := fun a n => h a _ n ((Le.refl H).new n) (getL_self _ _ _)
noncomputable def TRYX (T : Tab) (hk : Hook) (c n : Nat) (h : List MS) (Q : Out → AS → Prop) (c' : Nat) (σ₁ : AS) : Prop := σ₁.hd = false ∧ subCls c' c = true ∧ ∀ a,
      WSs T hk h { σ₁ with loc := σ₁.loc.set n (some (.exc c' a)), hd := true } (fun o σ₂ => Q o { σ₂ with loc := σ₂.loc.set n none, hd := false }) noX
/-- what is done behind a call, kept shut -/
noncomputable def KONT (Q : AV → AS → Prop) (l c : List (Option AV)) (hd : Bool) (v : AV) (H : AH) : Prop := Q v ⟨l, c, H, hd⟩
noncomputable def KONX (X : Nat → AS → Prop) (l c : List (Option AV)) (hd : Bool) (k : Nat) (H : AH) : Prop := X k ⟨l, c, H, hd⟩
/-- the rest of a body, kept shut -/
noncomputable def SEQ (T : Tab) (hk : Hook) (ss : List MS) (QS : Out → AS → Prop) (X : Nat → AS → Prop) (o : Out) (σ₁ : AS) : Prop := match o with
  | .next => WSs T hk ss σ₁ QS X
  | .ret v => QS (.ret v) σ₁
noncomputable def LOCg (l : List (Option AV)) (i : Nat) (σ : AS) (Q : AV → AS → Prop) : Prop := need (lk l i) fun v => Q v σ
noncomputable def SETg (l : List (Option AV)) (i : Nat) (v : AV) (k : List (Option AV) → Prop) : Prop := k (l.set i (some v))
section
variable {T : Tab} {hk : Hook} {σ : AS} {Q : AV → AS → Prop} {X : Nat → AS → Prop} {QS : Out → AS → Prop} {QL : List AV → AS → Prop} {QB : Bool → AS → Prop}
theorem k_seq (s : MS) (ss : List MS) : WSs T hk (s :: ss) σ QS X = WS T hk s σ (SEQ T hk ss QS X) X := rfl
theorem k_seqn (ss : List MS) : SEQ T hk ss QS X .next σ = WSs T hk ss σ QS X := rfl
theorem k_seqr (ss : List MS) (v : AV) : SEQ T hk ss QS X (.ret v) σ = QS (.ret v) σ := rfl
theorem k_esn : WEs T hk [] σ QL X = QL [] σ := rfl
theorem k_need {α : Type} (v : α) (k : α → Prop) : need (some v) k = k v := rfl
theorem k_loc (i : Nat) (l c : List (Option AV)) (H : AH) (hd : Bool) : WE T hk (.loc i) ⟨l, c, H, hd⟩ Q X = LOCg l i ⟨l, c, H, hd⟩ Q := rfl
theorem k_cv (i : Nat) (l c : List (Option AV)) (H : AH) (hd : Bool) : WE T hk (.cv i) ⟨l, c, H, hd⟩ Q X = LOCg c i ⟨l, c, H, hd⟩ Q := rfl
theorem k_lg0 (v : AV) (r : List (Option AV)) : LOCg (some v :: r) 0 σ Q = Q v σ := rfl
theorem k_lgS (x : Option AV) (i : Nat) (r : List (Option AV)) : LOCg (x :: r) (i + 1) σ Q = LOCg r i σ Q := rfl
theorem k_asg (i : Nat) (v : AV) (l c : List (Option AV)) (H : AH) (hd : Bool) (k : AS → Prop) : asgW (.loc i) v ⟨l, c, H, hd⟩ k = SETg l i v fun l => k ⟨l, c, H, hd⟩ := rfl
theorem k_asgc (i : Nat) (v : AV) (l c : List (Option AV)) (H : AH) (hd : Bool) (k : AS → Prop) : asgW (.cv i) v ⟨l, c, H, hd⟩ k = SETg c i v fun c => k ⟨l, c, H, hd⟩ := rfl
theorem k_sg0 (y : Option AV) (v : AV) (r : List (Option AV)) (k : List (Option AV) → Prop) : SETg (y :: r) 0 v k = k (some v :: r) := rfl
theorem k_sgS (y : Option AV) (i : Nat) (v : AV) (r : List (Option AV)) (k : List (Option AV) → Prop) : SETg (y :: r) (i + 1) v k = SETg r i v fun r => k (y :: r) := rfl
theorem k_tup23 (x0 x1 x2 x3 : Option AV) (u0 u1 : AV) (r : List (Option AV)) (c : List (Option AV)) (H : AH) (k : AS → Prop) : asgW (.tupl [2, 3]) (.tup [u0, u1]) ⟨x0 :: x1 :: x2 :: x3 :: r, c, H, false⟩ k = k ⟨x0 :: x1 :: some u0 :: some u1 :: r, c, H, false⟩ := propext ⟨fun h => h.2.2, fun h => ⟨rfl, rfl, h⟩⟩
theorem k_tup234 (x0 x1 x2 x3 x4 : Option AV) (u0 u1 u2 : AV) (r : List (Option AV)) (c : List (Option AV)) (H : AH) (k : AS → Prop) : asgW (.tupl [2, 3, 4]) (.tup [u0, u1, u2]) ⟨x0 :: x1 :: x2 :: x3 :: x4 :: r, c, H, false⟩ k = k ⟨x0 :: x1 :: some u0 :: some u1 :: some u2 :: r, c, H, false⟩ := propext ⟨fun h => h.2.2, fun h => ⟨rfl, rfl, h⟩⟩
theorem k_tup567 (x0 x1 x2 x3 x4 x5 x6 x7 : Option AV) (u0 u1 u2 : AV) (r : List (Option AV)) (c : List (Option AV)) (H : AH) (k : AS → Prop) : asgW (.tupl [5, 6, 7]) (.tup [u0, u1, u2]) ⟨x0 :: x1 :: x2 :: x3 :: x4 :: x5 :: x6 :: x7 :: r, c, H, false⟩ k = k ⟨x0 :: x1 :: x2 :: x3 :: x4 :: some u0 :: some u1 :: some u2 :: r, c, H, false⟩ := propext ⟨fun h => h.2.2, fun h => ⟨rfl, rfl, h⟩⟩
theorem k_tup123 (x0 x1 x2 x3 : Option AV) (u0 u1 u2 : AV) (r : List (Option AV)) (c : List (Option AV)) (H : AH) (k : AS → Prop) : asgW (.tupl [1, 2, 3]) (.tup [u0, u1, u2]) ⟨x0 :: x1 :: x2 :: x3 :: r, c, H, false⟩ k = k ⟨x0 :: some u0 :: some u1 :: some u2 :: r, c, H, false⟩ := propext ⟨fun h => h.2.2, fun h => ⟨rfl, rfl, h⟩⟩
theorem k_tup657 (x0 x1 x2 x3 x4 x5 x6 x7 : Option AV) (u0 u1 u2 : AV) (r : List (Option AV)) (c : List (Option AV)) (H : AH) (k : AS → Prop) : asgW (.tupl [6, 5, 7]) (.tup [u0, u1, u2]) ⟨x0 :: x1 :: x2 :: x3 :: x4 :: x5 :: x6 :: x7 :: r, c, H, false⟩ k = k ⟨x0 :: x1 :: x2 :: x3 :: x4 :: some u1 :: some u0 :: some u2 :: r, c, H, false⟩ := propext ⟨fun h => h.2.2, fun h => ⟨rfl, rfl, h⟩⟩
theorem k_tupc12 (x0 x1 x2 : Option AV) (u0 u1 : AV) (r : List (Option AV)) (l : List (Option AV)) (H : AH) (k : AS → Prop) : asgW (.tupc [1, 2]) (.tup [u0, u1]) ⟨l, x0 :: x1 :: x2 :: r, H, false⟩ k = k ⟨l, x0 :: some u0 :: some u1 :: r, H, false⟩ := propext ⟨fun h => h.2.2, fun h => ⟨rfl, rfl, h⟩⟩
theorem k_len_t (vs : List AV) (l c : List (Option AV)) (H : AH) (hd : Bool) : biW 0 [.tup vs] ⟨l, c, H, hd⟩ Q = Q (.int vs.length) ⟨l, c, H, hd⟩ := rfl
theorem k_len_f (a : Addr) (ns : List Int) (l c : List (Option AV)) (H : AH) (hd : Bool) : biW 0 [.frz a ns] ⟨l, c, H, hd⟩ Q = Q (.int (ns.map AV.int).length) ⟨l, c, H, hd⟩ := rfl
theorem k_len_l (a : Addr) (l c : List (Option AV)) (H : AH) (hd : Bool) : biW 0 [.lst a] ⟨l, c, H, hd⟩ Q = need (getL H a) fun vs => Q (.int vs.length) ⟨l, c, H, hd⟩ := rfl
theorem k_sum_t (vs : List AV) (l c : List (Option AV)) (H : AH) : biW 1 [.tup vs] ⟨l, c, H, false⟩ Q = need (ints? vs) fun ns => SumOk ns ∧ Q (.int ns.sum) ⟨l, c, H, false⟩ := propext ⟨fun h => h.2, fun h => ⟨rfl, h⟩⟩
theorem k_min (x y : Int) (l c : List (Option AV)) (H : AH) : biW 2 [.int x, .int y] ⟨l, c, H, false⟩ Q = Q (.int (min x y)) ⟨l, c, H, false⟩ := propext ⟨fun h => h.2, fun h => ⟨rfl, h⟩⟩
theorem k_isi_i0 (x : Int) (l c : List (Option AV)) (H : AH) (hd : Bool) : biW 3 [(.int x), .typ 0] ⟨l, c, H, hd⟩ Q = Q (.bool true) ⟨l, c, H, hd⟩ := propext ⟨fun h => h.2, fun h => ⟨rfl, h⟩⟩
theorem k_isi_i1 (x : Int) (l c : List (Option AV)) (H : AH) (hd : Bool) : biW 3 [(.int x), .typ 1] ⟨l, c, H, hd⟩ Q = Q (.bool false) ⟨l, c, H, hd⟩ := propext ⟨fun h => h.2, fun h => ⟨rfl, h⟩⟩
theorem k_isi_i2 (x : Int) (l c : List (Option AV)) (H : AH) (hd : Bool) : biW 3 [(.int x), .typ 2] ⟨l, c, H, hd⟩ Q = Q (.bool false) ⟨l, c, H, hd⟩ := propext ⟨fun h => h.2, fun h => ⟨rfl, h⟩⟩
theorem k_isi_i3 (x : Int) (l c : List (Option AV)) (H : AH) (hd : Bool) : biW 3 [(.int x), .typ 3] ⟨l, c, H, hd⟩ Q = Q (.bool false) ⟨l, c, H, hd⟩ := propext ⟨fun h => h.2, fun h => ⟨rfl, h⟩⟩
theorem k_isi_b0 (x : Bool) (l c : List (Option AV)) (H : AH) (hd : Bool) : biW 3 [(.bool x), .typ 0] ⟨l, c, H, hd⟩ Q = Q (.bool true) ⟨l, c, H, hd⟩ := propext ⟨fun h => h.2, fun h => ⟨rfl, h⟩⟩
theorem k_isi_b1 (x : Bool) (l c : List (Option AV)) (H : AH) (hd : Bool) : biW 3 [(.bool x), .typ 1] ⟨l, c, H, hd⟩ Q = Q (.bool true) ⟨l, c, H, hd⟩ := propext ⟨fun h => h.2, fun h => ⟨rfl, h⟩⟩
theorem k_isi_b2 (x : Bool) (l c : List (Option AV)) (H : AH) (hd : Bool) : biW 3 [(.bool x), .typ 2] ⟨l, c, H, hd⟩ Q = Q (.bool false) ⟨l, c, H, hd⟩ := propext ⟨fun h => h.2, fun h => ⟨rfl, h⟩⟩
theorem k_isi_b3 (x : Bool) (l c : List (Option AV)) (H : AH) (hd : Bool) : biW 3 [(.bool x), .typ 3] ⟨l, c, H, hd⟩ Q = Q (.bool false) ⟨l, c, H, hd⟩ := propext ⟨fun h => h.2, fun h => ⟨rfl, h⟩⟩
theorem k_isi_t0 (x : List AV) (l c : List (Option AV)) (H : AH) (hd : Bool) : biW 3 [(.tup x), .typ 0] ⟨l, c, H, hd⟩ Q = Q (.bool false) ⟨l, c, H, hd⟩ := propext ⟨fun h => h.2, fun h => ⟨rfl, h⟩⟩
theorem k_isi_t1 (x : List AV) (l c : List (Option AV)) (H : AH) (hd : Bool) : biW 3 [(.tup x), .typ 1] ⟨l, c, H, hd⟩ Q = Q (.bool false) ⟨l, c, H, hd⟩ := propext ⟨fun h => h.2, fun h => ⟨rfl, h⟩⟩
theorem k_isi_t2 (x : List AV) (l c : List (Option AV)) (H : AH) (hd : Bool) : biW 3 [(.tup x), .typ 2] ⟨l, c, H, hd⟩ Q = Q (.bool true) ⟨l, c, H, hd⟩ := propext ⟨fun h => h.2, fun h => ⟨rfl, h⟩⟩
theorem k_isi_t3 (x : List AV) (l c : List (Option AV)) (H : AH) (hd : Bool) : biW 3 [(.tup x), .typ 3] ⟨l, c, H, hd⟩ Q = Q (.bool false) ⟨l, c, H, hd⟩ := propext ⟨fun h => h.2, fun h => ⟨rfl, h⟩⟩
theorem k_isi_s0 (x : Str) (l c : List (Option AV)) (H : AH) (hd : Bool) : biW 3 [(.str x), .typ 0] ⟨l, c, H, hd⟩ Q = Q (.bool false) ⟨l, c, H, hd⟩ := propext ⟨fun h => h.2, fun h => ⟨rfl, h⟩⟩
theorem k_isi_s1 (x : Str) (l c : List (Option AV)) (H : AH) (hd : Bool) : biW 3 [(.str x), .typ 1] ⟨l, c, H, hd⟩ Q = Q (.bool false) ⟨l, c, H, hd⟩ := propext ⟨fun h => h.2, fun h => ⟨rfl, h⟩⟩
theorem k_isi_s2 (x : Str) (l c : List (Option AV)) (H : AH) (hd : Bool) : biW 3 [(.str x), .typ 2] ⟨l, c, H, hd⟩ Q = Q (.bool false) ⟨l, c, H, hd⟩ := propext ⟨fun h => h.2, fun h => ⟨rfl, h⟩⟩
theorem k_isi_s3 (x : Str) (l c : List (Option AV)) (H : AH) (hd : Bool) : biW 3 [(.str x), .typ 3] ⟨l, c, H, hd⟩ Q = Q (.bool false) ⟨l, c, H, hd⟩ := propext ⟨fun h => h.2, fun h => ⟨rfl, h⟩⟩
theorem k_isi_n0  (l c : List (Option AV)) (H : AH) (hd : Bool) : biW 3 [.none, .typ 0] ⟨l, c, H, hd⟩ Q = Q (.bool false) ⟨l, c, H, hd⟩ := propext ⟨fun h => h.2, fun h => ⟨rfl, h⟩⟩
theorem k_isi_n1  (l c : List (Option AV)) (H : AH) (hd : Bool) : biW 3 [.none, .typ 1] ⟨l, c, H, hd⟩ Q = Q (.bool false) ⟨l, c, H, hd⟩ := propext ⟨fun h => h.2, fun h => ⟨rfl, h⟩⟩
theorem k_isi_n2  (l c : List (Option AV)) (H : AH) (hd : Bool) : biW 3 [.none, .typ 2] ⟨l, c, H, hd⟩ Q = Q (.bool false) ⟨l, c, H, hd⟩ := propext ⟨fun h => h.2, fun h => ⟨rfl, h⟩⟩
theorem k_isi_n3  (l c : List (Option AV)) (H : AH) (hd : Bool) : biW 3 [.none, .typ 3] ⟨l, c, H, hd⟩ Q = Q (.bool false) ⟨l, c, H, hd⟩ := propext ⟨fun h => h.2, fun h => ⟨rfl, h⟩⟩
theorem k_isi_l0 (a : Addr) (l c : List (Option AV)) (H : AH) (hd : Bool) : biW 3 [.lst a, .typ 0] ⟨l, c, H, hd⟩ Q = need (getL H a) fun _ => Q (.bool false) ⟨l, c, H, hd⟩ := by
  show ((getL H a).isSome = true ∧ _) = _
  cases getL H a with
  | none => exact propext ⟨fun h => (nomatch h.1), fun h => False.elim h⟩
  | some vs => exact propext ⟨fun h => h.2, fun h => ⟨rfl, h⟩⟩
theorem k_isi_l1 (a : Addr) (l c : List (Option AV)) (H : AH) (hd : Bool) : biW 3 [.lst a, .typ 1] ⟨l, c, H, hd⟩ Q = need (getL H a) fun _ => Q (.bool false) ⟨l, c, H, hd⟩ := by
  show ((getL H a).isSome = true ∧ _) = _
  cases getL H a with
  | none => exact propext ⟨fun h => (nomatch h.1), fun h => False.elim h⟩
  | some vs => exact propext ⟨fun h => h.2, fun h => ⟨rfl, h⟩⟩
theorem k_isi_l2 (a : Addr) (l c : List (Option AV)) (H : AH) (hd : Bool) : biW 3 [.lst a, .typ 2] ⟨l, c, H, hd⟩ Q = need (getL H a) fun _ => Q (.bool false) ⟨l, c, H, hd⟩ := by
  show ((getL H a).isSome = true ∧ _) = _
  cases getL H a with
  | none => exact propext ⟨fun h => (nomatch h.1), fun h => False.elim h⟩
  | some vs => exact propext ⟨fun h => h.2, fun h => ⟨rfl, h⟩⟩
theorem k_isi_l3 (a : Addr) (l c : List (Option AV)) (H : AH) (hd : Bool) : biW 3 [.lst a, .typ 3] ⟨l, c, H, hd⟩ Q = need (getL H a) fun _ => Q (.bool true) ⟨l, c, H, hd⟩ := by
  show ((getL H a).isSome = true ∧ _) = _
  cases getL H a with
  | none => exact propext ⟨fun h => (nomatch h.1), fun h => False.elim h⟩
  | some vs => exact propext ⟨fun h => h.2, fun h => ⟨rfl, h⟩⟩
theorem k_isi_e11 (a : Addr) (l c : List (Option AV)) (H : AH) (hd : Bool) : biW 3 [.exc 1 a, .cls 1] ⟨l, c, H, hd⟩ Q = Q (.bool true) ⟨l, c, H, hd⟩ := propext ⟨fun h => h.2, fun h => ⟨rfl, h⟩⟩
theorem k_isi_e12 (a : Addr) (l c : List (Option AV)) (H : AH) (hd : Bool) : biW 3 [.exc 1 a, .cls 2] ⟨l, c, H, hd⟩ Q = Q (.bool false) ⟨l, c, H, hd⟩ := propext ⟨fun h => h.2, fun h => ⟨rfl, h⟩⟩
theorem k_isi_e13 (a : Addr) (l c : List (Option AV)) (H : AH) (hd : Bool) : biW 3 [.exc 1 a, .cls 3] ⟨l, c, H, hd⟩ Q = Q (.bool false) ⟨l, c, H, hd⟩ := propext ⟨fun h => h.2, fun h => ⟨rfl, h⟩⟩
theorem k_isi_e14 (a : Addr) (l c : List (Option AV)) (H : AH) (hd : Bool) : biW 3 [.exc 1 a, .cls 4] ⟨l, c, H, hd⟩ Q = Q (.bool false) ⟨l, c, H, hd⟩ := propext ⟨fun h => h.2, fun h => ⟨rfl, h⟩⟩
theorem k_isi_e15 (a : Addr) (l c : List (Option AV)) (H : AH) (hd : Bool) : biW 3 [.exc 1 a, .cls 5] ⟨l, c, H, hd⟩ Q = Q (.bool false) ⟨l, c, H, hd⟩ := propext ⟨fun h => h.2, fun h => ⟨rfl, h⟩⟩
theorem k_isi_e1v (a : Addr) (l c : List (Option AV)) (H : AH) (hd : Bool) : biW 3 [.exc 1 a, .typ 5] ⟨l, c, H, hd⟩ Q = Q (.bool true) ⟨l, c, H, hd⟩ := propext ⟨fun h => h.2, fun h => ⟨rfl, h⟩⟩
theorem k_isi_e21 (a : Addr) (l c : List (Option AV)) (H : AH) (hd : Bool) : biW 3 [.exc 2 a, .cls 1] ⟨l, c, H, hd⟩ Q = Q (.bool false) ⟨l, c, H, hd⟩ := propext ⟨fun h => h.2, fun h => ⟨rfl, h⟩⟩
theorem k_isi_e22 (a : Addr) (l c : List (Option AV)) (H : AH) (hd : Bool) : biW 3 [.exc 2 a, .cls 2] ⟨l, c, H, hd⟩ Q = Q (.bool true) ⟨l, c, H, hd⟩ := propext ⟨fun h => h.2, fun h => ⟨rfl, h⟩⟩
theorem k_isi_e23 (a : Addr) (l c : List (Option AV)) (H : AH) (hd : Bool) : biW 3 [.exc 2 a, .cls 3] ⟨l, c, H, hd⟩ Q = Q (.bool false) ⟨l, c, H, hd⟩ := propext ⟨fun h => h.2, fun h => ⟨rfl, h⟩⟩
theorem k_isi_e24 (a : Addr) (l c : List (Option AV)) (H : AH) (hd : Bool) : biW 3 [.exc 2 a, .cls 4] ⟨l, c, H, hd⟩ Q = Q (.bool false) ⟨l, c, H, hd⟩ := propext ⟨fun h => h.2, fun h => ⟨rfl, h⟩⟩
theorem k_isi_e25 (a : Addr) (l c : List (Option AV)) (H : AH) (hd : Bool) : biW 3 [.exc 2 a, .cls 5] ⟨l, c, H, hd⟩ Q = Q (.bool false) ⟨l, c, H, hd⟩ := propext ⟨fun h => h.2, fun h => ⟨rfl, h⟩⟩
theorem k_isi_e2v (a : Addr) (l c : List (Option AV)) (H : AH) (hd : Bool) : biW 3 [.exc 2 a, .typ 5] ⟨l, c, H, hd⟩ Q = Q (.bool true) ⟨l, c, H, hd⟩ := propext ⟨fun h => h.2, fun h => ⟨rfl, h⟩⟩
theorem k_isi_e31 (a : Addr) (l c : List (Option AV)) (H : AH) (hd : Bool) : biW 3 [.exc 3 a, .cls 1] ⟨l, c, H, hd⟩ Q = Q (.bool false) ⟨l, c, H, hd⟩ := propext ⟨fun h => h.2, fun h => ⟨rfl, h⟩⟩
theorem k_isi_e32 (a : Addr) (l c : List (Option AV)) (H : AH) (hd : Bool) : biW 3 [.exc 3 a, .cls 2] ⟨l, c, H, hd⟩ Q = Q (.bool false) ⟨l, c, H, hd⟩ := propext ⟨fun h => h.2, fun h => ⟨rfl, h⟩⟩
theorem k_isi_e33 (a : Addr) (l c : List (Option AV)) (H : AH) (hd : Bool) : biW 3 [.exc 3 a, .cls 3] ⟨l, c, H, hd⟩ Q = Q (.bool true) ⟨l, c, H, hd⟩ := propext ⟨fun h => h.2, fun h => ⟨rfl, h⟩⟩
theorem k_isi_e34 (a : Addr) (l c : List (Option AV)) (H : AH) (hd : Bool) : biW 3 [.exc 3 a, .cls 4] ⟨l, c, H, hd⟩ Q = Q (.bool false) ⟨l, c, H, hd⟩ := propext ⟨fun h => h.2, fun h => ⟨rfl, h⟩⟩
theorem k_isi_e35 (a : Addr) (l c : List (Option AV)) (H : AH) (hd : Bool) : biW 3 [.exc 3 a, .cls 5] ⟨l, c, H, hd⟩ Q = Q (.bool false) ⟨l, c, H, hd⟩ := propext ⟨fun h => h.2, fun h => ⟨rfl, h⟩⟩
theorem k_isi_e3v (a : Addr) (l c : List (Option AV)) (H : AH) (hd : Bool) : biW 3 [.exc 3 a, .typ 5] ⟨l, c, H, hd⟩ Q = Q (.bool true) ⟨l, c, H, hd⟩ := propext ⟨fun h => h.2, fun h => ⟨rfl, h⟩⟩
theorem k_isi_e41 (a : Addr) (l c : List (Option AV)) (H : AH) (hd : Bool) : biW 3 [.exc 4 a, .cls 1] ⟨l, c, H, hd⟩ Q = Q (.bool false) ⟨l, c, H, hd⟩ := propext ⟨fun h => h.2, fun h => ⟨rfl, h⟩⟩
theorem k_isi_e42 (a : Addr) (l c : List (Option AV)) (H : AH) (hd : Bool) : biW 3 [.exc 4 a, .cls 2] ⟨l, c, H, hd⟩ Q = Q (.bool false) ⟨l, c, H, hd⟩ := propext ⟨fun h => h.2, fun h => ⟨rfl, h⟩⟩
theorem k_isi_e43 (a : Addr) (l c : List (Option AV)) (H : AH) (hd : Bool) : biW 3 [.exc 4 a, .cls 3] ⟨l, c, H, hd⟩ Q = Q (.bool false) ⟨l, c, H, hd⟩ := propext ⟨fun h => h.2, fun h => ⟨rfl, h⟩⟩
theorem k_isi_e44 (a : Addr) (l c : List (Option AV)) (H : AH) (hd : Bool) : biW 3 [.exc 4 a, .cls 4] ⟨l, c, H, hd⟩ Q = Q (.bool true) ⟨l, c, H, hd⟩ := propext ⟨fun h => h.2, fun h => ⟨rfl, h⟩⟩
theorem k_isi_e45 (a : Addr) (l c : List (Option AV)) (H : AH) (hd : Bool) : biW 3 [.exc 4 a, .cls 5] ⟨l, c, H, hd⟩ Q = Q (.bool false) ⟨l, c, H, hd⟩ := propext ⟨fun h => h.2, fun h => ⟨rfl, h⟩⟩
theorem k_isi_e4v (a : Addr) (l c : List (Option AV)) (H : AH) (hd : Bool) : biW 3 [.exc 4 a, .typ 5] ⟨l, c, H, hd⟩ Q = Q (.bool true) ⟨l, c, H, hd⟩ := propext ⟨fun h => h.2, fun h => ⟨rfl, h⟩⟩
theorem k_isi_e51 (a : Addr) (l c : List (Option AV)) (H : AH) (hd : Bool) : biW 3 [.exc 5 a, .cls 1] ⟨l, c, H, hd⟩ Q = Q (.bool false) ⟨l, c, H, hd⟩ := propext ⟨fun h => h.2, fun h => ⟨rfl, h⟩⟩
theorem k_isi_e52 (a : Addr) (l c : List (Option AV)) (H : AH) (hd : Bool) : biW 3 [.exc 5 a, .cls 2] ⟨l, c, H, hd⟩ Q = Q (.bool false) ⟨l, c, H, hd⟩ := propext ⟨fun h => h.2, fun h => ⟨rfl, h⟩⟩
theorem k_isi_e53 (a : Addr) (l c : List (Option AV)) (H : AH) (hd : Bool) : biW 3 [.exc 5 a, .cls 3] ⟨l, c, H, hd⟩ Q = Q (.bool false) ⟨l, c, H, hd⟩ := propext ⟨fun h => h.2, fun h => ⟨rfl, h⟩⟩
theorem k_isi_e54 (a : Addr) (l c : List (Option AV)) (H : AH) (hd : Bool) : biW 3 [.exc 5 a, .cls 4] ⟨l, c, H, hd⟩ Q = Q (.bool false) ⟨l, c, H, hd⟩ := propext ⟨fun h => h.2, fun h => ⟨rfl, h⟩⟩
theorem k_isi_e55 (a : Addr) (l c : List (Option AV)) (H : AH) (hd : Bool) : biW 3 [.exc 5 a, .cls 5] ⟨l, c, H, hd⟩ Q = Q (.bool true) ⟨l, c, H, hd⟩ := propext ⟨fun h => h.2, fun h => ⟨rfl, h⟩⟩
theorem k_isi_e5v (a : Addr) (l c : List (Option AV)) (H : AH) (hd : Bool) : biW 3 [.exc 5 a, .typ 5] ⟨l, c, H, hd⟩ Q = Q (.bool true) ⟨l, c, H, hd⟩ := propext ⟨fun h => h.2, fun h => ⟨rfl, h⟩⟩
theorem k_all (a : Addr) (l c : List (Option AV)) (H : AH) : biW 4 [.lst a] ⟨l, c, H, false⟩ Q = need (getL H a) fun vs => need (bools? vs) fun bs => Q (.bool (bs.all id)) ⟨l, c, H, false⟩ := propext ⟨fun h => h.2, fun h => ⟨rfl, h⟩⟩
theorem k_yint (b : Bool) (l c : List (Option AV)) (H : AH) (hd : Bool) : tyW 0 [.bool b] ⟨l, c, H, hd⟩ Q = Q (.int (if b = true then 1 else 0)) ⟨l, c, H, hd⟩ := rfl
theorem k_ytt (vs : List AV) (l c : List (Option AV)) (H : AH) : tyW 2 [.tup vs] ⟨l, c, H, false⟩ Q = Q (.tup vs) ⟨l, c, H, false⟩ := propext ⟨fun h => h.2, fun h => ⟨rfl, h⟩⟩
theorem k_ytl (a : Addr) (l c : List (Option AV)) (H : AH) : tyW 2 [.lst a] ⟨l, c, H, false⟩ Q = need (getL H a) fun vs => Q (.tup vs) ⟨l, c, H, false⟩ := propext ⟨fun h => h.2, fun h => ⟨rfl, h⟩⟩
theorem k_ylt (vs : List AV) (l c : List (Option AV)) (H : AH) : tyW 3 [.tup vs] ⟨l, c, H, false⟩ Q = (Small (List.length vs) ∧ ∀ a, H a = none → Q (.lst a) ⟨l, c, H.upd a (.lst vs), false⟩) := propext ⟨fun h => h.2, fun h => ⟨rfl, h⟩⟩
theorem k_yll (b : Addr) (l c : List (Option AV)) (H : AH) : tyW 3 [.lst b] ⟨l, c, H, false⟩ Q = need (getL H b) fun vs => (Small (List.length vs) ∧ ∀ a, H a = none → Q (.lst a) ⟨l, c, H.upd a (.lst vs), false⟩) := propext ⟨fun h => h.2, fun h => ⟨rfl, h⟩⟩
theorem k_new (vs : List AV) (l c : List (Option AV)) (H : AH) (hd : Bool) : newL vs ⟨l, c, H, hd⟩ Q = (Small (List.length vs) ∧ ∀ a, H a = none → Q (.lst a) ⟨l, c, H.upd a (.lst vs), hd⟩) := rfl
theorem k_rng (n : Int) (l c : List (Option AV)) (H : AH) (hd : Bool) : tyW 4 [.int n] ⟨l, c, H, hd⟩ Q = (Place n ∧ Q (.rng 0 n) ⟨l, c, H, hd⟩) := rfl
theorem k_rng2 (m n : Int) (l c : List (Option AV)) (H : AH) (hd : Bool) : tyW 4 [.int m, .int n] ⟨l, c, H, hd⟩ Q = (Place m ∧ Place n ∧ Q (.rng m n) ⟨l, c, H, hd⟩) := rfl
theorem k_slt (vs : List AV) (lo hi : AV) (l c : List (Option AV)) (H : AH) (hd : Bool) : slcW (.tup vs) lo hi ⟨l, c, H, hd⟩ Q = (placeV lo ∧ placeV hi ∧ need (cut vs lo hi) fun r => Q (.tup r) ⟨l, c, H, hd⟩) := rfl
theorem k_sll (b : Addr) (lo hi : AV) (l c : List (Option AV)) (H : AH) (hd : Bool) : slcW (.lst b) lo hi ⟨l, c, H, hd⟩ Q = (placeV lo ∧ placeV hi ∧ need (getL H b) fun vs => need (cut vs lo hi) fun r => (Small (List.length r) ∧ ∀ a, H a = none → Q (.lst a) ⟨l, c, H.upd a (.lst r), hd⟩)) := rfl
theorem k_rev (b : Addr) (l c : List (Option AV)) (H : AH) (hd : Bool) : revW (.lst b) ⟨l, c, H, hd⟩ Q = need (getL H b) fun vs => (Small (List.length vs.reverse) ∧ ∀ a, H a = none → Q (.lst a) ⟨l, c, H.upd a (.lst vs.reverse), hd⟩) := rfl
theorem k_fn (f : Nat) (as : List AV) (l c : List (Option AV)) (H : AH) (hd : Bool) : callW T hk (.fn f) as ⟨l, c, H, hd⟩ Q X = hk f as H hd (KONT Q l c hd) (KONX X l c hd) := rfl
theorem k_kont (v : AV) (l c : List (Option AV)) (H : AH) (hd : Bool) : KONT Q l c hd v H = Q v ⟨l, c, H, hd⟩ := rfl
theorem k_konx (k : Nat) (l c : List (Option AV)) (H : AH) (hd : Bool) : KONX X l c hd k H = X k ⟨l, c, H, hd⟩ := rfl
theorem k_bi (b : Nat) (as : List AV) : callW T hk (.bi b) as σ Q X = biW b as σ Q := rfl
theorem k_typ (b : Nat) (as : List AV) : callW T hk (.typ b) as σ Q X = tyW b as σ Q := rfl
theorem k_app (b : Addr) (v : AV) (l c : List (Option AV)) (H : AH) (hd : Bool) : methW T hk (.lst b) 0 [v] ⟨l, c, H, hd⟩ Q X = need (getL H b) fun vs => Small (vs.length + 1) ∧ Q .none ⟨l, c, H.upd b (.lst (vs ++ [v])), hd⟩ := rfl
theorem k_join (s : Str) (a : Addr) (l c : List (Option AV)) (H : AH) (hd : Bool) : methW T hk (.str s) 2 [.lst a] ⟨l, c, H, hd⟩ Q X = (2 = Mt.join ∧ s = Str.ofString " " ∧ need (getL H a) fun vs => need (strs? vs) fun xs => (xs.map (·.length)).sum + xs.length ≤ 1000 ∧ Q (.str (PySem.Txt.join (Str.ofString " ") xs)) ⟨l, c, H, hd⟩) := rfl
theorem k_rdy_l (H : AH) (a : Addr) (P : Prop) : (ready T H (.lst a) 0 = true ∧ P) = ((getL H a).isSome = true ∧ P) := by simp [ready]
theorem k_rdy_s (H : AH) (s : Str) (P : Prop) : (ready T H (.str s) 2 = true ∧ P) = P := propext ⟨fun h => h.2, fun h => ⟨rfl, h⟩⟩
theorem k_add (x y : Int) : binW .add (.int x) (.int y) σ Q = Q (.int (x + y)) σ := rfl
theorem k_sub (x y : Int) : binW .sub (.int x) (.int y) σ Q = Q (.int (x - y)) σ := rfl
theorem k_mul (x y : Int) : binW .mul (.int x) (.int y) σ Q = (MulOk x y ∧ Q (.int (x * y)) σ) := rfl
theorem k_fdiv (x y : Int) : binW .fdiv (.int x) (.int y) σ Q = (DivOk y ∧ Q (.int (x / y)) σ) := rfl
theorem k_mod (x y : Int) : binW .mod (.int x) (.int y) σ Q = (0 < y ∧ Q (.int (x % y)) σ) := rfl
theorem k_pow (x y : Int) : binW .pow (.int x) (.int y) σ Q = (x = 10 ∧ y = 20 ∧ Q (.int 100000000000000000000) σ) := rfl
theorem k_addt (xs ys : List AV) : binW .add (.tup xs) (.tup ys) σ Q = (Small (xs ++ ys).length ∧ Q (.tup (xs ++ ys)) σ) := rfl
theorem k_addl (p q : Addr) (l c : List (Option AV)) (H : AH) (hd : Bool) : binW .add (.lst p) (.lst q) ⟨l, c, H, hd⟩ Q = need (getL H p) fun xs => need (getL H q) fun ys => (Small (List.length (xs ++ ys)) ∧ ∀ a, H a = none → Q (.lst a) ⟨l, c, H.upd a (.lst (xs ++ ys)), hd⟩) := rfl
theorem k_mult (xs : List AV) (n : Int) : binW .mul (.tup xs) (.int n) σ Q = (2 ≤ n ∧ n ≤ 1000 ∧ xs ≠ [] ∧ xs.length ≤ 1000 ∧ Q (.tup (List.replicate n.toNat xs).flatten) σ) := rfl
theorem k_mull (p : Addr) (n : Int) (l c : List (Option AV)) (H : AH) (hd : Bool) : binW .mul (.lst p) (.int n) ⟨l, c, H, hd⟩ Q = (0 ≤ n ∧ n ≤ 1000000 ∧ need (getL H p) fun xs => (Small (List.length (List.replicate n.toNat xs).flatten) ∧ ∀ a, H a = none → Q (.lst a) ⟨l, c, H.upd a (.lst (List.replicate n.toNat xs).flatten), hd⟩)) := rfl
theorem k_muls (x : Str) (n : Int) : binW .mul (.str x) (.int n) σ Q = ((n = 1 ∧ Q (.str x) σ) ∨ (n = 0 ∧ Q (.str Str.empty) σ)) := rfl
theorem k_eqi (x y : Int) : cmpW .eq (.int x) (.int y) σ Q = Q (.bool (decide (x = y))) σ := rfl
theorem k_nei (x y : Int) : cmpW .ne (.int x) (.int y) σ Q = Q (.bool (!decide (x = y))) σ := rfl
theorem k_lt (x y : Int) : cmpW .lt (.int x) (.int y) σ Q = Q (.bool (decide (x < y))) σ := rfl
theorem k_le (x y : Int) : cmpW .le (.int x) (.int y) σ Q = Q (.bool (decide (x ≤ y))) σ := rfl
theorem k_gt (x y : Int) : cmpW .gt (.int x) (.int y) σ Q = Q (.bool (decide (x > y))) σ := rfl
theorem k_ge (x y : Int) : cmpW .ge (.int x) (.int y) σ Q = Q (.bool (decide (x ≥ y))) σ := rfl
theorem k_is (x : AV) : cmpW .is x .none σ Q = Q (.bool (isNone x)) σ := propext ⟨fun h => h.2, fun h => ⟨rfl, h⟩⟩
theorem k_isnot (x : AV) : cmpW .isnot x .none σ Q = Q (.bool (!isNone x)) σ := propext ⟨fun h => h.2, fun h => ⟨rfl, h⟩⟩
theorem k_trb (H : AH) (b : Bool) (k : Bool → Prop) : need (truth H (.bool b)) k = k b := rfl
theorem k_setI (a : Addr) (k : Int) (v : AV) (l c : List (Option AV)) (H : AH) (hd : Bool) : setI (.lst a) (.int k) v ⟨l, c, H, hd⟩ QS = (0 ≤ k ∧ need (getL H a) fun vs => k < vs.length ∧ QS .next ⟨l, c, H.upd a (.lst (vs.set k.toNat v)), hd⟩) := rfl
theorem k_setIdx (o i e : ME) : WS T hk (.setIdx o i e) σ QS X = WE T hk e σ (fun v σ₁ => WE T hk o σ₁ (fun ov σ₂ => WE T hk i σ₂ (fun iv σ₃ => setI ov iv v σ₃ QS) X) X) X := rfl
theorem k_for (t : Tgt) (it : ME) (b : List MS) : WS T hk (.for t it b) σ QS X = WE T hk it σ (fun iv σ₁ => FOR0 T hk t b iv σ₁ QS X) X := rfl
theorem k_for_t (t : Tgt) (b : List MS) (vs : List AV) (l c : List (Option AV)) (H : AH) : FOR0 T hk t b (.tup vs) ⟨l, c, H, false⟩ QS X = FOR T hk t b (.tup vs) vs vs ⟨l, c, H, false⟩ QS X := propext ⟨fun h => h.2, fun h => ⟨rfl, h⟩⟩
theorem k_for_r (t : Tgt) (b : List MS) (m n : Int) (l c : List (Option AV)) (H : AH) : FOR0 T hk t b (.rng m n) ⟨l, c, H, false⟩ QS X = FOR T hk t b (.rng m n) (rngL m n) (rngL m n) ⟨l, c, H, false⟩ QS X := propext ⟨fun h => h.2, fun h => ⟨rfl, h⟩⟩
theorem k_for_l (t : Tgt) (b : List MS) (a : Addr) (l c : List (Option AV)) (H : AH) : FOR0 T hk t b (.lst a) ⟨l, c, H, false⟩ QS X = need (getL H a) fun vs => FOR T hk t b (.lst a) vs vs ⟨l, c, H, false⟩ QS X := propext ⟨fun h => h.2, fun h => ⟨rfl, h⟩⟩
theorem k_comp (nc : Nat) (elt : ME) (t : Tgt) (it : ME) (ifs : List MT) : WE T hk (.comp nc elt t it ifs) σ Q X = WE T hk it σ (fun iv σ₁ => COMP0 T hk nc elt t ifs iv σ₁ Q) X := rfl
theorem k_comp_t (nc : Nat) (elt : ME) (t : Tgt) (ifs : List MT) (vs : List AV) (l c : List (Option AV)) (H : AH) : COMP0 T hk nc elt t ifs (.tup vs) ⟨l, c, H, false⟩ Q = COMP T hk elt t ifs (.tup vs) vs vs [] ⟨l, List.replicate nc none, H, false⟩ (compK c Q) := propext ⟨fun h => h.2, fun h => ⟨rfl, h⟩⟩
theorem k_comp_r (nc : Nat) (elt : ME) (t : Tgt) (ifs : List MT) (m n : Int) (l c : List (Option AV)) (H : AH) : COMP0 T hk nc elt t ifs (.rng m n) ⟨l, c, H, false⟩ Q = COMP T hk elt t ifs (.rng m n) (rngL m n) (rngL m n) [] ⟨l, List.replicate nc none, H, false⟩ (compK c Q) := propext ⟨fun h => h.2, fun h => ⟨rfl, h⟩⟩
theorem k_comp_l (nc : Nat) (elt : ME) (t : Tgt) (ifs : List MT) (b : Addr) (l c : List (Option AV)) (H : AH) : COMP0 T hk nc elt t ifs (.lst b) ⟨l, c, H, false⟩ Q = need (getL H b) fun vs => COMP T hk elt t ifs (.lst b) vs vs [] ⟨l, List.replicate nc none, H, false⟩ (compK c Q) := propext ⟨fun h => h.2, fun h => ⟨rfl, h⟩⟩
theorem k_raise (k : Nat) (s : Str) (l c : List (Option AV)) (H : AH) : WS T hk (.raise k s) ⟨l, c, H, false⟩ QS X = X k ⟨l, c, H, false⟩ := propext ⟨fun h => h.2, fun h => ⟨rfl, h⟩⟩
theorem k_try (b : List MS) (k n : Nat) (h : List MS) (l c : List (Option AV)) (H : AH) : WS T hk (.try b k n h) ⟨l, c, H, false⟩ QS X = WSs T hk b ⟨l, c, H, false⟩ QS (TRYX T hk k n h QS) := propext ⟨fun h => h.2, fun h => ⟨rfl, h⟩⟩
theorem k_tryx (j k n : Nat) (h : List MS) (l c : List (Option AV)) (H : AH) : TRYX T hk k n h QS j ⟨l, c, H, false⟩ = (subCls j k = true ∧ ∀ a, WSs T hk h ⟨l.set n (some (.exc j a)), c, H, true⟩ (fun o σ₂ => QS o ⟨σ₂.loc.set n none, σ₂.cv, σ₂.H, false⟩) noX) := propext ⟨fun h => h.2, fun h => ⟨rfl, h⟩⟩
theorem k_m73 (a d : Addr) (as : List AV) (l c : List (Option AV)) (H : AH) (hd : Bool) : methW TB hk (.obj 7 a d) 3 as ⟨l, c, H, hd⟩ Q X = hk F.Writer_take (.obj 7 a d :: as) H hd (KONT Q l c hd) (KONX X l c hd) := rfl
theorem k_rdy73 (H : AH) (a d : Addr) (P : Prop) : (ready TB H (.obj 7 a d) 3 = true ∧ P) = ((getD H d).isSome = true ∧ P) := propext ⟨fun h => ⟨(Bool.and_eq_true_iff.mp h.1).1, h.2⟩, fun h => ⟨Bool.and_eq_true_iff.mpr ⟨h.1, rfl⟩, h.2⟩⟩
theorem k_m74 (a d : Addr) (as : List AV) (l c : List (Option AV)) (H : AH) (hd : Bool) : methW TB hk (.obj 7 a d) 4 as ⟨l, c, H, hd⟩ Q X = hk F.Writer_told (.obj 7 a d :: as) H hd (KONT Q l c hd) (KONX X l c hd) := rfl
theorem k_rdy74 (H : AH) (a d : Addr) (P : Prop) : (ready TB H (.obj 7 a d) 4 = true ∧ P) = ((getD H d).isSome = true ∧ P) := propext ⟨fun h => ⟨(Bool.and_eq_true_iff.mp h.1).1, h.2⟩, fun h => ⟨Bool.and_eq_true_iff.mpr ⟨h.1, rfl⟩, h.2⟩⟩
theorem k_m76 (a d : Addr) (as : List AV) (l c : List (Option AV)) (H : AH) (hd : Bool) : methW TB hk (.obj 7 a d) 6 as ⟨l, c, H, hd⟩ Q X = hk F.Writer_end (.obj 7 a d :: as) H hd (KONT Q l c hd) (KONX X l c hd) := rfl
theorem k_rdy76 (H : AH) (a d : Addr) (P : Prop) : (ready TB H (.obj 7 a d) 6 = true ∧ P) = ((getD H d).isSome = true ∧ P) := propext ⟨fun h => ⟨(Bool.and_eq_true_iff.mp h.1).1, h.2⟩, fun h => ⟨Bool.and_eq_true_iff.mpr ⟨h.1, rfl⟩, h.2⟩⟩
theorem k_m77 (a d : Addr) (as : List AV) (l c : List (Option AV)) (H : AH) (hd : Bool) : methW TB hk (.obj 7 a d) 7 as ⟨l, c, H, hd⟩ Q X = hk F.Writer_need_open (.obj 7 a d :: as) H hd (KONT Q l c hd) (KONX X l c hd) := rfl
theorem k_rdy77 (H : AH) (a d : Addr) (P : Prop) : (ready TB H (.obj 7 a d) 7 = true ∧ P) = ((getD H d).isSome = true ∧ P) := propext ⟨fun h => ⟨(Bool.and_eq_true_iff.mp h.1).1, h.2⟩, fun h => ⟨Bool.and_eq_true_iff.mpr ⟨h.1, rfl⟩, h.2⟩⟩
theorem k_m78 (a d : Addr) (as : List AV) (l c : List (Option AV)) (H : AH) (hd : Bool) : methW TB hk (.obj 7 a d) 8 as ⟨l, c, H, hd⟩ Q X = hk F.Writer_fresh (.obj 7 a d :: as) H hd (KONT Q l c hd) (KONX X l c hd) := rfl
theorem k_rdy78 (H : AH) (a d : Addr) (P : Prop) : (ready TB H (.obj 7 a d) 8 = true ∧ P) = ((getD H d).isSome = true ∧ P) := propext ⟨fun h => ⟨(Bool.and_eq_true_iff.mp h.1).1, h.2⟩, fun h => ⟨Bool.and_eq_true_iff.mpr ⟨h.1, rfl⟩, h.2⟩⟩
theorem k_cls7 (as : List AV) (l c : List (Option AV)) (H : AH) : callW TB hk (.cls 7) as ⟨l, c, H, false⟩ Q X = ∀ a d, a ≠ d → H a = none → H d = none → hk F.Writer_init (.obj 7 a d :: as) (H.upd d (.dct [])) false (KONC Q l c 7 a d) (KONX X l c false) := propext ⟨fun h => h.2, fun h => ⟨rfl, h⟩⟩
theorem k_konc (cc : Nat) (a d : Addr) (l c : List (Option AV)) (H : AH) : KONC Q l c cc a d .none H = Q (.obj cc a d) ⟨l, c, H, false⟩ := propext ⟨fun h => h.2, fun h => ⟨rfl, h⟩⟩
theorem k_setAttr (o : ME) (k : Nat) (e : ME) : WS T hk (.setAttr o k e) σ QS X = WE T hk e σ (fun v σ₁ => WE T hk o σ₁ (fun ov σ₂ => setA ov k v σ₂ QS) X) X := rfl
theorem k_attr (o : ME) (k : Nat) : WE T hk (.attr o k) σ Q X = WE T hk o σ (fun ov σ₁ => attrW ov k σ₁ Q) X := rfl
theorem k_key (o : ME) (k : Nat) : WE T hk (.key o k) σ Q X = WE T hk o σ (fun ov σ₁ => keyW ov k σ₁ Q) X := rfl
theorem k_setKey (o : ME) (k : Nat) (e : ME) : WS T hk (.setKey o k e) σ QS X = WE T hk e σ (fun v σ₁ => WE T hk o σ₁ (fun ov σ₂ => setK ov k v σ₂ QS) X) X := rfl
theorem k_dict (ks : List Nat) (es : List ME) : WE T hk (.dict ks es) σ Q X = WEs T hk es σ (fun vs σ₁ => DICT ks vs σ₁ Q) X := rfl
theorem k_inn (x : Int) (vs : List AV) : cmpW .inn (.int x) (.tup vs) σ Q = need (ints? vs) fun ns => Q (.bool (ns.any (· == x))) σ := rfl
theorem k_notin (x : Int) (vs : List AV) : cmpW .notin (.int x) (.tup vs) σ Q = need (ints? vs) fun ns => Q (.bool (!(ns.any (· == x)))) σ := rfl
theorem k_it1 (p q : Prop) : @ite Prop (true = true) (instDecidableEqBool true true) p q = p := rfl
theorem k_it2 (p q : Prop) : @ite Prop (false = true) (instDecidableEqBool false true) p q = q := rfl
theorem k_it3 (p q : Prop) : @ite Prop ((!true) = true) (instDecidableEqBool (!true) true) p q = q := rfl
theorem k_it4 (p q : Prop) : @ite Prop ((!false) = true) (instDecidableEqBool (!false) true) p q = p := rfl
theorem k_self (H : AH) (a : Addr) (vs : List AV) (k : List AV → Prop) : need (getL (H.upd a (.lst vs)) a) k = k vs := by rw [getL_self]; rfl
theorem ke_cNone  (l c : List (Option AV)) (H : AH) (hd : Bool) : WE T hk .cNone ⟨l, c, H, hd⟩ Q X = Q .none ⟨l, c, H, hd⟩ := rfl
theorem ke_cBool (b : Bool) (l c : List (Option AV)) (H : AH) (hd : Bool) : WE T hk (.cBool b) ⟨l, c, H, hd⟩ Q X = Q (.bool b) ⟨l, c, H, hd⟩ := rfl
theorem ke_cInt (b : Int) (l c : List (Option AV)) (H : AH) (hd : Bool) : WE T hk (.cInt b) ⟨l, c, H, hd⟩ Q X = Q (.int b) ⟨l, c, H, hd⟩ := rfl
theorem ke_cStr (b : Str) (l c : List (Option AV)) (H : AH) (hd : Bool) : WE T hk (.cStr b) ⟨l, c, H, hd⟩ Q X = Q (.str b) ⟨l, c, H, hd⟩ := rfl
theorem ke_gfn (i : Nat) (l c : List (Option AV)) (H : AH) (hd : Bool) : WE T hk (.gfn i) ⟨l, c, H, hd⟩ Q X = Q (.fn i) ⟨l, c, H, hd⟩ := rfl
theorem ke_gcls (i : Nat) (l c : List (Option AV)) (H : AH) (hd : Bool) : WE T hk (.gcls i) ⟨l, c, H, hd⟩ Q X = Q (.cls i) ⟨l, c, H, hd⟩ := rfl
theorem ke_gty (i : Nat) (l c : List (Option AV)) (H : AH) (hd : Bool) : WE T hk (.gty i) ⟨l, c, H, hd⟩ Q X = Q (.typ i) ⟨l, c, H, hd⟩ := rfl
theorem ke_gbi (i : Nat) (l c : List (Option AV)) (H : AH) (hd : Bool) : WE T hk (.gbi i) ⟨l, c, H, hd⟩ Q X = Q (.bi i) ⟨l, c, H, hd⟩ := rfl
theorem ke_gint (i : Int) (l c : List (Option AV)) (H : AH) (hd : Bool) : WE T hk (.gint i) ⟨l, c, H, hd⟩ Q X = Q (.int i) ⟨l, c, H, hd⟩ := rfl
theorem ke_gtup (is : List Int) (l c : List (Option AV)) (H : AH) (hd : Bool) : WE T hk (.gtup is) ⟨l, c, H, hd⟩ Q X = Q (.tup (is.map .int)) ⟨l, c, H, hd⟩ := rfl
theorem ke_bin (op : BOp) (a b : ME) (l c : List (Option AV)) (H : AH) (hd : Bool) : WE T hk (.bin op a b) ⟨l, c, H, hd⟩ Q X = WE T hk a ⟨l, c, H, hd⟩ (fun x σ₁ => WE T hk b σ₁ (fun y σ₂ => binW op x y σ₂ Q) X) X := rfl
theorem ke_neg (e : ME) (l c : List (Option AV)) (H : AH) (hd : Bool) : WE T hk (.neg e) ⟨l, c, H, hd⟩ Q X = WE T hk e ⟨l, c, H, hd⟩ (fun a σ₁ => match a with | .int i => Q (.int (-i)) σ₁ | _ => False) X := rfl
theorem ke_not (e : ME) (l c : List (Option AV)) (H : AH) (hd : Bool) : WE T hk (.not e) ⟨l, c, H, hd⟩ Q X = WE T hk e ⟨l, c, H, hd⟩ (fun a σ₁ => need (truth σ₁.H a) fun b => Q (.bool (!b)) σ₁) X := rfl
theorem ke_and1 (e : ME) (l c : List (Option AV)) (H : AH) (hd : Bool) : WE T hk (.and [e]) ⟨l, c, H, hd⟩ Q X = WE T hk e ⟨l, c, H, hd⟩ Q X := rfl
theorem ke_and (e e1 : ME) (es : List ME) (l c : List (Option AV)) (H : AH) (hd : Bool) : WE T hk (.and (e :: e1 :: es)) ⟨l, c, H, hd⟩ Q X = WE T hk e ⟨l, c, H, hd⟩ (fun v σ₁ => need (truth σ₁.H v) fun b => if b then WE T hk (.and (e1 :: es)) σ₁ Q X else Q v σ₁) X := rfl
theorem ke_or1 (e : ME) (l c : List (Option AV)) (H : AH) (hd : Bool) : WE T hk (.or [e]) ⟨l, c, H, hd⟩ Q X = WE T hk e ⟨l, c, H, hd⟩ Q X := rfl
theorem ke_or (e e1 : ME) (es : List ME) (l c : List (Option AV)) (H : AH) (hd : Bool) : WE T hk (.or (e :: e1 :: es)) ⟨l, c, H, hd⟩ Q X = WE T hk e ⟨l, c, H, hd⟩ (fun v σ₁ => need (truth σ₁.H v) fun b => if b then Q v σ₁ else WE T hk (.or (e1 :: es)) σ₁ Q X) X := rfl
theorem ke_cmp (op : COp) (a b : ME) (l c : List (Option AV)) (H : AH) (hd : Bool) : WE T hk (.cmp op a b) ⟨l, c, H, hd⟩ Q X = WE T hk a ⟨l, c, H, hd⟩ (fun x σ₁ => WE T hk b σ₁ (fun y σ₂ => cmpW op x y σ₂ Q) X) X := rfl
theorem ke_cmp2 (o1 o2 : COp) (a m b : ME) (l c : List (Option AV)) (H : AH) (hd : Bool) : WE T hk (.cmp2 o1 o2 a m b) ⟨l, c, H, hd⟩ Q X = WE T hk a ⟨l, c, H, hd⟩ (fun x σ₁ => WE T hk m σ₁ (fun y σ₂ => cmpW o1 x y σ₂ fun c σ₃ => match c with | .bool t => if t then WE T hk b σ₃ (fun d σ₄ => cmpW o2 y d σ₄ Q) X else Q (.bool false) σ₃ | _ => False) X) X := rfl
theorem ke_tup (es : List ME) (l c : List (Option AV)) (H : AH) (hd : Bool) : WE T hk (.tup es) ⟨l, c, H, hd⟩ Q X = WEs T hk es ⟨l, c, H, hd⟩ (fun vs σ₁ => Small vs.length ∧ Q (.tup vs) σ₁) X := rfl
theorem ke_lst (es : List ME) (l c : List (Option AV)) (H : AH) (hd : Bool) : WE T hk (.lst es) ⟨l, c, H, hd⟩ Q X = WEs T hk es ⟨l, c, H, hd⟩ (fun vs σ₁ => newL vs σ₁ Q) X := rfl
theorem ke_idx (e i : ME) (l c : List (Option AV)) (H : AH) (hd : Bool) : WE T hk (.idx e i) ⟨l, c, H, hd⟩ Q X = WE T hk e ⟨l, c, H, hd⟩ (fun o σ₁ => WE T hk i σ₁ (fun k σ₂ => idxW o k σ₂ Q) X) X := rfl
theorem ke_slc (e lo hi : ME) (l c : List (Option AV)) (H : AH) (hd : Bool) : WE T hk (.slc e lo hi) ⟨l, c, H, hd⟩ Q X = WE T hk e ⟨l, c, H, hd⟩ (fun o σ₁ => WE T hk lo σ₁ (fun a σ₂ => WE T hk hi σ₂ (fun b σ₃ => slcW o a b σ₃ Q) X) X) X := rfl
theorem ke_rev (e : ME) (l c : List (Option AV)) (H : AH) (hd : Bool) : WE T hk (.rev e) ⟨l, c, H, hd⟩ Q X = WE T hk e ⟨l, c, H, hd⟩ (fun o σ₁ => revW o σ₁ Q) X := rfl
theorem ke_call (f : ME) (as : List ME) (l c : List (Option AV)) (H : AH) (hd : Bool) : WE T hk (.call f as) ⟨l, c, H, hd⟩ Q X = WE T hk f ⟨l, c, H, hd⟩ (fun fv σ₁ => callable fv = true ∧ WEs T hk as σ₁ (fun vs σ₂ => callW T hk fv vs σ₂ Q X) X) X := rfl
theorem ke_meth (o : ME) (m : Nat) (as : List ME) (l c : List (Option AV)) (H : AH) (hd : Bool) : WE T hk (.meth o m as) ⟨l, c, H, hd⟩ Q X = WE T hk o ⟨l, c, H, hd⟩ (fun ov σ₁ => ready T σ₁.H ov m = true ∧ WEs T hk as σ₁ (fun vs σ₂ => methW T hk ov m vs σ₂ Q X) X) X := rfl
theorem kes_cons (e : ME) (es : List ME) (l c : List (Option AV)) (H : AH) (hd : Bool) : WEs T hk (e :: es) ⟨l, c, H, hd⟩ QL X = WE T hk e ⟨l, c, H, hd⟩ (fun v σ₁ => WEs T hk es σ₁ (fun vs σ₂ => QL (v :: vs) σ₂) X) X := rfl
theorem kt_e (e : ME) (l c : List (Option AV)) (H : AH) (hd : Bool) : WT T hk (.e e) ⟨l, c, H, hd⟩ QB X = WE T hk e ⟨l, c, H, hd⟩ (fun v σ₁ => need (truth σ₁.H v) fun b => QB b σ₁) X := rfl
theorem kt_not (e : MT) (l c : List (Option AV)) (H : AH) (hd : Bool) : WT T hk (.not e) ⟨l, c, H, hd⟩ QB X = WT T hk e ⟨l, c, H, hd⟩ (fun b σ₁ => QB (!b) σ₁) X := rfl
theorem kt_all0  (l c : List (Option AV)) (H : AH) (hd : Bool) : WT T hk (.all []) ⟨l, c, H, hd⟩ QB X = QB true ⟨l, c, H, hd⟩ := rfl
theorem kt_all (e : MT) (es : List MT) (l c : List (Option AV)) (H : AH) (hd : Bool) : WT T hk (.all (e :: es)) ⟨l, c, H, hd⟩ QB X = WT T hk e ⟨l, c, H, hd⟩ (fun b σ₁ => if b then WT T hk (.all es) σ₁ QB X else QB false σ₁) X := rfl
theorem kt_any0  (l c : List (Option AV)) (H : AH) (hd : Bool) : WT T hk (.any []) ⟨l, c, H, hd⟩ QB X = QB false ⟨l, c, H, hd⟩ := rfl
theorem kt_any (e : MT) (es : List MT) (l c : List (Option AV)) (H : AH) (hd : Bool) : WT T hk (.any (e :: es)) ⟨l, c, H, hd⟩ QB X = WT T hk e ⟨l, c, H, hd⟩ (fun b σ₁ => if b then QB true σ₁ else WT T hk (.any es) σ₁ QB X) X := rfl
theorem ks_expr (e : ME) (l c : List (Option AV)) (H : AH) (hd : Bool) : WS T hk (.expr e) ⟨l, c, H, hd⟩ QS X = WE T hk e ⟨l, c, H, hd⟩ (fun v σ₁ => isNone v = true ∧ QS .next σ₁) X := rfl
theorem ks_ret (e : ME) (l c : List (Option AV)) (H : AH) (hd : Bool) : WS T hk (.ret e) ⟨l, c, H, hd⟩ QS X = WE T hk e ⟨l, c, H, hd⟩ (fun v σ₁ => QS (.ret v) σ₁) X := rfl
theorem ks_asg (t : Tgt) (e : ME) (l c : List (Option AV)) (H : AH) (hd : Bool) : WS T hk (.asg t e) ⟨l, c, H, hd⟩ QS X = WE T hk e ⟨l, c, H, hd⟩ (fun v σ₁ => asgW t v σ₁ fun σ₂ => QS .next σ₂) X := rfl
theorem ks_ite (c₀ : MT) (b o : List MS) (l c : List (Option AV)) (H : AH) (hd : Bool) : WS T hk (.ite c₀ b o) ⟨l, c, H, hd⟩ QS X = WT T hk c₀ ⟨l, c, H, hd⟩ (fun t σ₁ => if t then WSs T hk b σ₁ QS X else WSs T hk o σ₁ QS X) X := rfl
theorem kss_nil  (l c : List (Option AV)) (H : AH) (hd : Bool) : WSs T hk [] ⟨l, c, H, hd⟩ QS X = QS .next ⟨l, c, H, hd⟩ := rfl
theorem kp_call1 (f : Nat) : callable (.fn f) = true := rfl
theorem kp_call2 (f : Nat) : callable (.bi f) = true := rfl
theorem kp_call3 (f : Nat) : callable (.typ f) = true := rfl
theorem kp_call4 (f : Nat) : callable (.cls f) = true := rfl
theorem kp_none : isNone .none = true := rfl
theorem kp_ni (x : Int) : isNone (.int x) = false := rfl
theorem kp_out (v : AV) : outV (.ret v) = v := rfl
theorem kp_outn : outV .next = .none := rfl
theorem kp_some (v : List AV) : (some v).isSome = true := rfl
theorem kp_mapc (a : Int) (l : List Int) : (a :: l).map AV.int = .int a :: l.map AV.int := rfl
theorem kp_mapn : ([] : List Int).map AV.int = [] := rfl
theorem kp_appn (r : List AV) : [] ++ r = r := rfl
theorem kp_lenc (a : AV) (l : List AV) : (a :: l).length = l.length + 1 := rfl
theorem kp_lenn : ([] : List AV).length = 0 := rfl
theorem kp_nt : (!true) = false := rfl
theorem kp_nf : (!false) = true := rfl
theorem kp_ft : (false = true) = False := by simp
theorem kp_ta (p : Prop) : (True ∧ p) = p := by simp
theorem kp_at (p : Prop) : (p ∧ True) = p := by simp
theorem kp_dt (h : Decidable True) : @decide True h = true := by simp
theorem kp_df (h : Decidable False) : @decide False h = false := by simp
theorem kp_it (h : Decidable True) (p q : Prop) : @ite Prop True h p q = p := by simp
theorem kp_if (h : Decidable False) (p q : Prop) : @ite Prop False h p q = q := by simp
theorem kp_s0 (x : Option AV) (r : List (Option AV)) (v : Option AV) : (x :: r).set 0 v = v :: r := rfl
theorem kp_sS (x : Option AV) (r : List (Option AV)) (n : Nat) (v : Option AV) : (x :: r).set (n + 1) v = x :: r.set n v := rfl
theorem kp_pn : placeV .none = True := rfl
theorem kp_pi (i : Int) : placeV (.int i) = Place i := rfl
theorem wss_app (b2 : List MS) : ∀ (b1 : List MS) (σ : AS), WSs T hk (b1 ++ b2) σ QS X = WSs T hk b1 σ (SEQ T hk b2 QS X) X
  | [], _ => rfl
  | s :: ss, σ => congrArg (fun K => WS T hk s σ K X) (funext fun o => funext fun σ₁ => by
    cases o with
    | next => exact wss_app b2 ss σ₁
    | ret v => rfl)
theorem split_at (n : Nat) {b : List MS} (h : WSs T hk (b.take n) σ (SEQ T hk (b.drop n) QS X) X) : WSs T hk b σ QS X := by
  rw [← wss_app, List.take_append_drop] at h
  exact h
end
noncomputable def WKp := And.intro (And.intro (@kp_ft) (And.intro (@kp_ta) (@kp_at))) (And.intro (And.intro (@kp_dt) (@kp_df)) (And.intro (@kp_it) (@kp_if)))
noncomputable def WKv := And.intro (And.intro (And.intro (And.intro (And.intro (And.intro (@idx_t0) (@idx_t1)) (And.intro (@idx_t2) (And.intro (@k_tup23) (@k_tup234)))) (And.intro (And.intro (@k_tup567) (And.intro (@k_tup123) (@k_tup657))) (And.intro (@k_tupc12) (And.intro (@k_sum_t) (@k_min))))) (And.intro (And.intro (And.intro (@k_isi_i0) (@k_isi_i1)) (And.intro (@k_isi_i2) (And.intro (@k_isi_i3) (@k_isi_b0)))) (And.intro (And.intro (@k_isi_b1) (And.intro (@k_isi_b2) (@k_isi_b3))) (And.intro (@k_isi_t0) (And.intro (@k_isi_t1) (@k_isi_t2)))))) (And.intro (And.intro (And.intro (And.intro (@k_isi_t3) (@k_isi_s0)) (And.intro (@k_isi_s1) (And.intro (@k_isi_s2) (@k_isi_s3)))) (And.intro (And.intro (@k_isi_n0) (And.intro (@k_isi_n1) (@k_isi_n2))) (And.intro (@k_isi_n3) (And.intro (@k_isi_l0) (@k_isi_l1))))) (And.intro (And.intro (And.intro (@k_isi_l2) (@k_isi_l3)) (And.intro (@k_isi_e11) (And.intro (@k_isi_e12) (@k_isi_e13)))) (And.intro (And.intro (@k_isi_e14) (And.intro (@k_isi_e15) (@k_isi_e1v))) (And.intro (@k_isi_e21) (And.intro (@k_isi_e22) (@k_isi_e23))))))) (And.intro (And.intro (And.intro (And.intro (And.intro (@k_isi_e24) (@k_isi_e25)) (And.intro (@k_isi_e2v) (And.intro (@k_isi_e31) (@k_isi_e32)))) (And.intro (And.intro (@k_isi_e33) (And.intro (@k_isi_e34) (@k_isi_e35))) (And.intro (@k_isi_e3v) (And.intro (@k_isi_e41) (@k_isi_e42))))) (And.intro (And.intro (And.intro (@k_isi_e43) (@k_isi_e44)) (And.intro (@k_isi_e45) (And.intro (@k_isi_e4v) (@k_isi_e51)))) (And.intro (And.intro (@k_isi_e52) (And.intro (@k_isi_e53) (@k_isi_e54))) (And.intro (@k_isi_e55) (And.intro (@k_isi_e5v) (@k_all)))))) (And.intro (And.intro (And.intro (And.intro (@k_ytt) (@k_ytl)) (And.intro (@k_rdy_l) (And.intro (@k_rdy_s) (@k_is)))) (And.intro (And.intro (@k_isnot) (And.intro (@k_for_t) (@k_for_r))) (And.intro (@k_for_l) (And.intro (@k_comp_t) (@k_comp_r))))) (And.intro (And.intro (And.intro (@k_comp_l) (@k_raise)) (And.intro (@k_try) (And.intro (@k_tryx) (@k_rdy73)))) (And.intro (And.intro (@k_rdy74) (And.intro (@k_rdy76) (@k_rdy77))) (And.intro (@k_rdy78) (And.intro (@k_cls7) (@k_konc)))))))
noncomputable def WKw := And.intro (@k_ylt) (And.intro (@k_yll) (@k_self))
end Mine
end
section
open PySem
set_option maxRecDepth 5000
set_option compiler.extract_closed false
namespace Mine
local macro_rules | `(tactic| walk_at "v") => do let d ← ("k_seq k_seqn k_seqr kss_nil ks_expr ks_ret ks_asg ks_ite ke_cNone ke_cBool ke_cInt ke_cStr ke_gfn ke_gcls ke_gty ke_gbi ke_gint ke_gtup ke_bin ke_neg ke_not ke_and1 ke_and ke_or1 ke_or ke_cmp ke_cmp2 ke_tup ke_lst ke_idx ke_slc ke_rev ke_call ke_meth k_esn kes_cons kt_e kt_not kt_all0 kt_all kt_any0 kt_any k_need k_loc k_cv k_lg0 k_lgS k_asg k_asgc k_sg0 k_sgS k_len_t k_len_f k_len_l k_yint k_rng k_rng2 k_slt k_fn k_kont k_konx k_bi k_typ k_app k_add k_sub k_mul k_fdiv k_mod k_pow k_addt k_mult k_muls k_eqi k_nei k_lt k_le k_gt k_ge k_trb k_setI k_setIdx k_for k_comp k_m73 k_m74 k_m76 k_m77 k_m78 k_setAttr k_attr k_key k_setKey k_dict k_inn k_notin k_it1 k_it2 k_it3 k_it4".splitOn " ").toArray.mapM fun n => `(Lean.Parser.Tactic.simpLemma| ↓ $(Lean.mkIdent (Lean.Name.mkSimple n)):ident); let p ← ("kp_call1 kp_call2 kp_call3 kp_call4 kp_none kp_ni kp_out kp_outn kp_some kp_mapc kp_mapn kp_appn kp_lenc kp_lenn kp_nt kp_nf kp_s0 kp_sS kp_pn kp_pi".splitOn " ").toArray.mapM fun n => `(Lean.Parser.Tactic.simpLemma| $(Lean.mkIdent (Lean.Name.mkSimple n)):ident); `(tactic| try simp only [↓WKv, WKp, List.replicate, $d,*, $p,*])
local macro_rules | `(tactic| walk_at "w") => `(tactic| (walk_at "v"; repeat (simp only [↓WKw, ↓k_new, ↓k_sll, ↓k_rev, ↓k_addl, ↓k_mull]; walk_at "v")))
local macro_rules | `(tactic| walk_at "e") => `(tactic| simp only [List.map_cons, List.map_nil, List.replicate, List.cons_append, List.nil_append])
section
/-- is_among of a whole number -/
theorem is_among_int {k : Nat} {x l m : Int} {H : AH} {hd : Bool} {Q : AV → AH → Prop} {X : Nat → AH → Prop} (h : Q (.bool (decide (l ≤ x ∧ x ≤ m))) H) : CallN TB (k + 1) F.is_among [.int x, .int l, .int m] H hd Q X := by
  refine ⟨rfl, ?_⟩
  simp only [D.is_among]
  walk_at "e"
  walk_at "w"
  by_cases h1 : l ≤ x
  · simpa [h1] using h
  · simpa [h1] using h

theorem is_plan_loop {k : Nat} {vs : List AV} {p : AV} {H : AH} {Q : Out → AS → Prop} {X : Nat → AS → Prop} : ∀ (cs : List Int) (x : Option AV) (_ : ∀ c ∈ cs, 1 ≤ c ∧ c ≤ 1000000) (_ : ∀ y, Q .next ⟨[some (.tup [.tup vs, p]), y, none, none, none, none, none, none, none], [], H, false⟩),
    FOR TB (CallN TB (k + 1)) (.loc 1) [.ite (.not (.e (.call (.gfn F.is_among) [(.loc 1), (.cInt 1), (.gint 1000000)]))) [.ret (.cBool false)] []] (.tup vs) vs (cs.map .int) ⟨[some (.tup [.tup vs, p]), x, none, none, none, none, none, none, none], [], H, false⟩ Q X
  | [], x, _, h => FOR_nil rfl (h x)
  | c :: cs, x, hc, h => by
    refine FOR_cons rfl ?_
    show WSs TB (CallN TB (k + 1)) _ ⟨[some (.tup [.tup vs, p]), some (.int c), none, none, none, none, none, none, none], [], H, false⟩ _ X
    walk_at "w"
    refine is_among_int ?_
    walk_at "v"
    have := hc c (.head _)
    rw [show decide (1 ≤ c ∧ c ≤ 1000000) = true by simp [this]]
    walk_at "w"
    exact is_plan_loop cs _ (fun d hd => hc d (.tail _ hd)) h

theorem is_plan_ok {k : Nat} {cs : List Int} {g : Int} {H : AH} {Q : AV → AH → Prop} {X : Nat → AH → Prop} (p : PlanOk cs g) (h : Q (.bool true) H) : CallN TB (k + 2) F.is_plan [plV cs g] H false Q X := by
  refine ⟨rfl, ?_⟩
  simp only [D.is_plan, plV]
  walk_at "e"
  walk_at "w"
  rw [if_neg (by simp), if_pos (by have := p.l2; simp; omega), if_neg (by have := p.l8; simp; omega)]
  refine is_plan_loop cs none p.cnt fun y => ?_
  walk_at "w"
  refine is_among_int ?_
  walk_at "v"
  rw [show decide (0 ≤ g ∧ g ≤ 1000000) = true by simp [p.g0, p.g1]]
  exact h

theorem need_plan_ok {k : Nat} {cs : List Int} {g : Int} {H : AH} {Q : AV → AH → Prop} {X : Nat → AH → Prop} (p : PlanOk cs g) (h : Q .none H) : CallN TB (k + 3) F.need_plan [plV cs g] H false Q X := by
  refine ⟨rfl, ?_⟩
  simp only [D.need_plan]
  walk_at "e"
  walk_at "w"
  refine is_plan_ok p ?_
  walk_at "w"
  exact h
section
variable {k : Nat} {cs : List Int} {g : Int} {H : AH} {Q : AV → AH → Prop} {X : Nat → AH → Prop}
theorem need_sign_ok {s : Nat} (hs : s < cs.length) (h : Q .none H) : CallN TB (k + 2) F.need_sign [plV cs g, .int s] H false Q X := by
  refine ⟨rfl, ?_⟩
  simp only [D.need_sign, plV]
  walk_at "e"
  walk_at "w"
  refine is_among_int ?_
  walk_at "v"
  rw [show decide ((0 : Int) ≤ s ∧ (s : Int) ≤ (List.map AV.int cs).length - 1) = true by simp; omega]
  walk_at "w"
  exact h
theorem need_signs_loop {vs : List AV} {a : Addr} {Q : Out → AS → Prop} {X : Nat → AS → Prop} (hv : getL H a = some vs) : ∀ (ks : List Nat) (x : Option AV) (_ : TxOk cs ks) (_ : ∀ y, Q .next ⟨[some (plV cs g), some (.lst a), y, none, none, none, none, none, none, none], [], H, false⟩),
    FOR TB (CallN TB (k + 2)) (.loc 2) [.expr (.call (.gfn F.need_sign) [(.loc 0), (.loc 2)])] (.lst a) vs (txV ks) ⟨[some (plV cs g), some (.lst a), x, none, none, none, none, none, none, none], [], H, false⟩ Q X
  | [], x, _, h => FOR_nil hv (h x)
  | s :: ks, x, hc, h => by
    refine FOR_cons hv ?_
    walk_at "w"
    refine need_sign_ok (hc s (.head _)) ?_
    walk_at "w"
    exact need_signs_loop hv ks _ (fun d hd => hc d (.tail _ hd)) h
theorem need_signs_ok {ks : List Nat} {a : Addr} (p : PlanOk cs g) (hv : getL H a = some (txV ks)) (hl : ks.length ≤ 60) (ht : TxOk cs ks) (h : Q .none H) : CallN TB (k + 4) F.need_signs [plV cs g, .lst a] H false Q X := by
  refine ⟨rfl, ?_⟩
  simp only [D.need_signs]
  walk_at "e"
  walk_at "w"
  refine need_plan_ok p ?_
  walk_at "v"
  simp only [hv]
  walk_at "w"
  rw [if_neg (by simp; omega)]
  exact need_signs_loop hv ks _ ht fun y => h
theorem sum_ok (h : ∀ c ∈ cs, 1 ≤ c ∧ c ≤ 1000000) : SumOk cs := fun n hn => by have := h n hn; omega
theorem take_ok (h : ∀ c ∈ cs, 1 ≤ c ∧ c ≤ 1000000) (j : Nat) : ∀ c ∈ cs.take j, 1 ≤ c ∧ c ≤ 1000000 := fun n hn => h n (List.mem_of_mem_take hn)
theorem share_ok {s : Nat} (p : PlanOk cs g) (hs : s < cs.length) (h : Q (stV ⟨blw cs s, cnt cs s, cs.sum⟩) H) : CallN TB (k + 4) F.share [plV cs g, .int s] H false Q X := by
  refine ⟨rfl, ?_⟩
  simp only [D.share]
  walk_at "e"
  walk_at "w"
  refine need_plan_ok p ?_
  walk_at "w"
  refine need_sign_ok hs ?_
  walk_at "v"
  simp only [plV]
  walk_at "w"
  rw [cut_ni (by (clear hs; omega))]
  have := p.l8
  refine ⟨⟨by (clear hs this; omega), by omega⟩, ?_⟩
  simp only [need_some, ← List.map_take, ints_map, Int.toNat_natCast]
  refine ⟨sum_ok (take_ok p.cnt s), ?_⟩
  walk_at "v"
  refine idx_of (vs := cs.map AV.int) (v := .int (cnt cs s)) (by (clear hs this; omega)) (by omega) rfl (by simp [cnt_at hs]) ?_
  walk_at "w"
  rw [ints_map]
  exact ⟨sum_ok p.cnt, by decide, h⟩
theorem behind_ok {s : Nat} (p : PlanOk cs g) (hs : s < cs.length) (h : Q (plV (bhd cs g s) g) H) : CallN TB (k + 4) F.behind [plV cs g, .int s] H false Q X := by
  refine ⟨rfl, ?_⟩
  simp only [D.behind]
  walk_at "e"
  walk_at "w"
  refine need_plan_ok p ?_
  walk_at "w"
  refine need_sign_ok hs ?_
  walk_at "v"
  simp only [plV]
  walk_at "w"
  have := p.l8
  refine idx_of (vs := cs.map AV.int) (v := .int (cnt cs s)) (by (clear hs this; omega)) (by omega) rfl (by simp [cnt_at hs]) ?_
  walk_at "w"
  rw [cut_ni (by (clear hs this; omega)), cut_in (by (clear hs this; omega))]
  refine ⟨⟨by (clear hs this; omega), by omega⟩, ?_⟩
  refine ⟨by decide, by simp [Small]; omega, ⟨by (clear hs this; omega), by omega⟩, by simp [Small]; omega, by decide, ?_⟩
  rw [show AV.tup [AV.tup (List.take (s : Int).toNat (cs.map AV.int) ++ [AV.int (min 1000000 (cnt cs s + g))] ++ List.drop ((s : Int) + 1).toNat (cs.map AV.int)), AV.int g] = plV (bhd cs g s) g by
    simp only [plV, bhd, List.map_set]
    rw [List.set_eq_take_append_cons_drop, if_pos (by simpa using hs)]
    simp [Int.toNat_natCast, show ((s : Int) + 1).toNat = s + 1 by (clear hs this; omega)]]
  exact h
theorem parted_ok {s o : Sg} (h0 : o.l.natAbs < 2 ^ 64) (h1 : o.w.natAbs < 2 ^ 64) (h2 : o.t.natAbs < 2 ^ 64) (h : Q (stV ⟨s.l * o.t + s.w * o.l, s.w * o.w, s.t * o.t⟩) H) : CallN TB (k + 1) F.parted [stV s, stV o] H false Q X := by
  refine ⟨rfl, ?_⟩
  simp only [D.parted, stV]
  walk_at "e"
  walk_at "w"
  exact ⟨mul_r h2, mul_r h0, mul_r h1, mul_r h2, by decide, h⟩
theorem parted_sh {s : Sg} {j : Nat} (p : PlanOk cs g) (hj : j < cs.length) (h : Q (stV (stp s cs j)) H) : CallN TB (k + 1) F.parted [stV s, stV ⟨blw cs j, cnt cs j, cs.sum⟩] H false Q X := by
  have b1 := p.tot; have b2 := p.blw hj; have b3 := p.cnt1 hj
  exact parted_ok (by simp; (clear hj; omega)) (by simp; (clear hj b1 b2; omega)) (by simp; (clear hj b2 b3; omega)) h
theorem within_ok {s o : Sg} {n m : Nat} (hs : StOk n s) (ho : StOk m o) (hn : n + m ≤ 99990) (h : Q (.bool (decide (o.l * s.t ≤ s.l * o.t ∧ (s.l + s.w) * o.t ≤ (o.l + o.w) * s.t))) H) : CallN TB (k + 1) F.within [stV s, stV o] H false Q X := by
  refine ⟨rfl, ?_⟩
  have a := hs.abs
  have b := ho.abs
  simp only [D.within, stV]
  walk_at "e"
  walk_at "w"
  refine ⟨mul_n _ _ a.1 b.2.2.1 (by (clear a b; omega)), mul_n _ _ b.1 a.2.2.1 (by (clear a b; omega)), ?_⟩
  by_cases c : s.l * o.t < o.l * s.t
  · rw [if_pos (by simp [c])]
    rw [show decide (o.l * s.t ≤ s.l * o.t ∧ (s.l + s.w) * o.t ≤ (o.l + o.w) * s.t) = false by simp; (clear hn a b; omega)] at h
    exact h
  · rw [if_neg (by simp; (clear hn a b; omega))]
    refine ⟨mul_n _ _ a.2.2.2 b.2.2.1 (by (clear a b c; omega)), mul_n _ _ b.2.2.2 a.2.2.1 (by (clear a b c; omega)), ?_⟩
    rw [show decide (o.l * s.t ≤ s.l * o.t ∧ (s.l + s.w) * o.t ≤ (o.l + o.w) * s.t) = decide ((s.l + s.w) * o.t ≤ (o.l + o.w) * s.t) by rw [Bool.eq_iff_iff]; simp; (clear hn a b; omega)] at h
    exact h
theorem stretch_loop {vs : List AV} {a : Addr} {Q : Out → AS → Prop} {X : Nat → AS → Prop} (hv : getL H a = some vs) : ∀ (ks : List Nat) (cs : List Int) (s : Sg) (x : Option AV) (_ : PlanOk cs g) (_ : TxOk cs ks) (_ : ∀ p y, Q .next ⟨[p, some (.lst a), some (stV (str s cs g ks)), y, none, none, none, none, none], [], H, false⟩),
    FOR TB (CallN TB (k + 4)) (.loc 3) [
    .asg (.loc 2) (.call (.gfn F.parted) [(.loc 2), (.call (.gfn F.share) [(.loc 0), (.loc 3)])]),
    .asg (.loc 0) (.call (.gfn F.behind) [(.loc 0), (.loc 3)])] (.lst a) vs (txV ks) ⟨[some (plV cs g), some (.lst a), some (stV s), x, none, none, none, none, none], [], H, false⟩ Q X
  | [], cs, s, x, _, _, h => FOR_nil hv (h _ x)
  | j :: ks, cs, s, x, p, hc, h => by
    refine FOR_cons hv ?_
    have hj := hc j (.head _)
    walk_at "w"
    refine share_ok p hj ?_
    walk_at "v"
    refine parted_sh p hj ?_
    walk_at "w"
    refine behind_ok p hj ?_
    walk_at "v"
    exact stretch_loop hv ks _ _ _ (p.bhd hj) (TxOk.bhd fun d hd => hc d (.tail _ hd)) h
theorem stretch_of_ok {ks : List Nat} {a : Addr} (p : PlanOk cs g) (hv : getL H a = some (txV ks)) (hl : ks.length ≤ 60) (ht : TxOk cs ks) (h : Q (stV (str one cs g ks)) H) : CallN TB (k + 5) F.stretch_of [plV cs g, .lst a] H false Q X := by
  refine ⟨rfl, ?_⟩
  simp only [D.stretch_of]
  walk_at "e"
  walk_at "w"
  refine need_signs_ok p hv hl ht ?_
  walk_at "w"
  simp only [hv, need_some]
  refine stretch_loop hv ks cs one _ p ht fun q y => ?_
  walk_at "w"
  exact h
end
end
section
section
variable {k : Nat} {cs : List Int} {g : Int} {H : AH} {Q : AV → AH → Prop} {X : Nat → AH → Prop}
theorem l_cell_at_ok {a : Addr} {ns : List Int} {j : Int} (h0 : 0 ≤ j) (hn : ns.length ≤ 63) (h : ∀ c, Q (.int c) H) : CallN TB (k + 1) F.l_cell_at [.frz a ns, .int j] H false Q X := by
  refine ⟨rfl, ?_⟩
  simp only [D.l_cell_at]
  walk_at "e"
  walk_at "w"
  by_cases c : j < (ns.map AV.int).length
  · rw [if_pos (by simp only [decide_eq_true_eq]; exact c)]
    refine idx_any (vs := ns.map AV.int) h0 c (by simp; (clear h0 c; omega)) rfl fun v hv => ?_
    obtain ⟨n, _, rfl⟩ := List.mem_map.mp hv
    walk_at "w"
    refine idx_any (vs := ns.map AV.int) h0 c (by simp; (clear h0 c; omega)) rfl fun v hv => ?_
    obtain ⟨m, _, rfl⟩ := List.mem_map.mp hv
    walk_at "w"
    exact ⟨by decide, mul_r (by decide), h _⟩
  · rw [if_neg (by simp only [decide_eq_true_eq]; exact c)]
    exact h 0
theorem l_mixed_ok {c j : Int} (h0 : 0 ≤ j) (h1 : j ≤ 1000000) (h : ∀ r, 0 ≤ r → r < 2147483647 → Q (.int r) H) : CallN TB (k + 1) F.l_mixed [.int c, .int j] H false Q X := by
  refine ⟨rfl, ?_⟩
  simp only [D.l_mixed]
  walk_at "e"
  walk_at "w"
  have e : 7919 * j * j ≤ 7919000000 * 1000000 := Int.mul_le_mul (by omega) h1 h0 (by decide)
  have e' : 0 ≤ 7919 * j * j := Int.mul_nonneg (by (clear e; omega)) h0
  exact ⟨mul_l (by decide), mul_r (by (clear e e'; omega)), mul_l (by decide), mul_r (by omega), mul_l (by decide), by decide, h _ (Int.emod_nonneg _ (by decide)) (Int.emod_lt_of_pos _ (by decide))⟩
noncomputable def Cn (most : Int) (ds : List Int) : Prop := ∀ d ∈ ds, 1 ≤ d ∧ d ≤ most
theorem l_plan_comp {c most m : Int} {r : List (Option AV)} {vs : List AV} {K : List AV → AS → Prop} (hm : 1 ≤ most) (hs : src H (.rng 0 m) = some vs) : ∀ (rs acc : List Int) (y z : Option AV) (w : List (Option AV)) (_ : ∀ r ∈ rs, 0 ≤ r ∧ r ≤ 1000) (_ : acc.length + rs.length ≤ 1000) (_ : Cn most acc)
    (_ : ∀ ds w, Cn most ds → ds.length = acc.length + rs.length → K (ds.map .int) ⟨some (.int c) :: some (.int most) :: r, w, H, false⟩),
    COMP TB (CallN TB (k + 1)) (.bin .add (.cInt 1) (.bin .mod (.call (.gfn F.l_mixed) [(.bin .fdiv (.loc 0) (.cInt 112)), (.cv 1)]) (.loc 1))) (.cv 1) [] (.rng 0 m) vs (rs.map .int) (acc.map .int) ⟨some (.int c) :: some (.int most) :: r, y :: z :: w, H, false⟩ K
  | [], acc, y, z, w, _, _, ha, h => COMP_nil hs (h acc _ ha rfl)
  | d :: rs, acc, y, z, w, hr, hl, ha, h => by
    refine COMP_cons hs ?_
    walk_at "w"
    refine ⟨div_s (by decide) (by decide), ?_⟩
    have hd := hr d (.head _)
    refine l_mixed_ok (by (clear hm hl; omega)) (by (clear hm hl; omega)) fun q q0 q1 => ?_
    walk_at "w"
    refine ⟨by (clear hl hd q0 q1; omega), ?_⟩
    simp only [List.length_cons] at hl
    refine ⟨by simp [Small]; (clear hm hd q0 q1; omega), ?_⟩
    rw [show acc.map AV.int ++ [AV.int (1 + q % most)] = (acc ++ [1 + q % most]).map AV.int by simp]
    have e0 := Int.emod_nonneg q (show most ≠ 0 by (clear hl hd q0 q1; omega))
    have e1 := Int.emod_lt_of_pos q (show 0 < most by (clear hl hd q0 q1 e0; omega))
    refine l_plan_comp hm hs rs _ _ _ _ (fun r hr' => hr r (.tail _ hr')) (by simp; (clear hm hd q0 q1 e0 e1; omega)) ?_ fun ds w hd hl' => h ds w hd (by simp at hl' ⊢; (clear hm hl q0 q1 e0 e1; omega))
    intro e he
    rcases List.mem_append.mp he with h1 | h1
    · exact ha e h1
    · rw [List.mem_singleton.mp h1]; (clear hm hl hd q0 q1; omega)
theorem rng_map (n : Int) : rngL 0 n = ((List.range n.toNat).map fun (k : Nat) => (k : Int)).map .int := by
  simp [rngL, List.map_map, Function.comp_def]
theorem rng_bd {n : Int} {r : Int} (h : r ∈ (List.range n.toNat).map fun (k : Nat) => (k : Int)) : 0 ≤ r ∧ r < n := by
  obtain ⟨j, hj, rfl⟩ := List.mem_map.mp h
  have := List.mem_range.mp hj
  omega
theorem gain_mem {x : Int} {v : AV} (h : v ∈ [AV.int 0, .int 1, .int 7, .int x]) (h0 : 0 ≤ x) (h1 : x ≤ 1000000) : ∃ g, v = .int g ∧ 0 ≤ g ∧ g ≤ 1000000 := by
  simp only [List.mem_cons, List.not_mem_nil, or_false] at h
  rcases h with h | h | h | h
  · exact ⟨_, h, by decide, by decide⟩
  · exact ⟨_, h, by decide, by decide⟩
  · exact ⟨_, h, by decide, by decide⟩
  · exact ⟨_, h, h0, h1⟩
theorem most_mem {v : AV} (h : v ∈ [AV.int 3, .int 9, .int 1000, .int 1000000]) : ∃ most : Int, v = .int most ∧ 1 ≤ most ∧ most ≤ 1000000 := by
  simp only [List.mem_cons, List.not_mem_nil, or_false] at h
  rcases h with h | h | h | h <;> exact ⟨_, h, by decide, by decide⟩
theorem pl7 {n : Int} (h0 : 0 ≤ n) (h1 : n < 7) : Place (2 + n) := ⟨by omega, by omega⟩
theorem ln7 {n : Int} {l : Nat} (h0 : 0 ≤ n) (h1 : n < 7) (h : l = 0 + (2 + n).toNat) : 2 ≤ l ∧ l ≤ 8 := by omega
theorem rg7 {n r : Int} (h1 : n < 7) (h : 0 ≤ r ∧ r < 2 + n) : 0 ≤ r ∧ r ≤ 1000 := by omega
theorem m6 (c : Int) : 0 ≤ c / 112 % 1000001 ∧ c / 112 % 1000001 ≤ 1000000 := by omega
theorem l_plan_ok {c : Int} (h : ∀ cs g H', PlanOk cs g → Le H H' → Q (plV cs g) H') : CallN TB (k + 2) F.l_plan [.int c] H false Q X := by
  refine ⟨rfl, ?_⟩
  simp only [D.l_plan]
  walk_at "e"
  walk_at "w"
  refine ⟨by decide, fun a0 h0 => ⟨div_s (by decide) (by decide), by decide, ?_⟩⟩
  have m0 := Int.emod_nonneg (c / 7) (show (4 : Int) ≠ 0 by decide)
  have m1 := Int.emod_lt_of_pos (c / 7) (show (0 : Int) < 4 by decide)
  have n0 := Int.emod_nonneg c (show (7 : Int) ≠ 0 by decide)
  have n1 := Int.emod_lt_of_pos c (show (0 : Int) < 7 by decide)
  refine idx_any m0 (by simpa using m1) (by decide) (getL_self _ _ _) fun v hv => ?_
  obtain ⟨most, rfl, hm0, hm1⟩ := most_mem hv
  walk_at "w"
  refine ⟨by decide, pl7 n0 n1, ?_⟩
  rw [rng_map]
  refine l_plan_comp hm0 (by rw [← rng_map]; rfl) ((List.range (2 + c % 7).toNat).map fun (k : Nat) => (k : Int)) [] _ _ _ (fun r hr => rg7 n1 (rng_bd hr)) (by simp; (clear m0 m1 n0 n1 hm0 hm1; omega)) (fun _ h => nomatch h) ?_
  intro ds w hd hl a1 h1
  simp only [List.length_nil, List.length_map, List.length_range] at hl
  have hl' := ln7 n0 n1 hl
  have hle : Le H ((H.upd a0 (.lst [.int 3, .int 9, .int 1000, .int 1000000])).upd a1 (.lst (ds.map .int))) := ((Le.refl H).new h0).new (upd_none h1).1
  have h1' := (upd_none h1).1
  have key : ∀ (es : List Int) (H₁ : AH), Le H H₁ → getL H₁ a1 = some (es.map .int) → (∀ e ∈ es, 1 ≤ e ∧ e ≤ 1000000) → es.length = ds.length → 
      need (getL H₁ a1) fun vs => ∀ a2, H₁ a2 = none → ∀ g, 0 ≤ g → g ≤ 1000000 → Q (.tup [.tup vs, .int g]) (H₁.upd a2 (.lst [.int 0, .int 1, .int 7, .int (c / 112 % 1000001)])) := by
    intro es H₁ l1 g1 hc hl2
    rw [g1]
    exact fun a2 h2 g g0 g1 => h es g _ ⟨hl2 ▸ hl'.1, hl2 ▸ hl'.2, hc, g0, g1⟩ (l1.new (l1.none h2))
  have k0 := Int.emod_nonneg (c / 28) (show (4 : Int) ≠ 0 by decide)
  have k1 := Int.emod_lt_of_pos (c / 28) (show (0 : Int) < 4 by decide)
  have fin : ∀ (vs : List AV) (H₁ : AH) (R : AV → AS → Prop) (l : List (Option AV)), (∀ a2, H₁ a2 = none → ∀ g, 0 ≤ g → g ≤ 1000000 → R (.int g) ⟨l, [], H₁.upd a2 (.lst [.int 0, .int 1, .int 7, .int (c / 112 % 1000001)]), false⟩) →
      ∀ a2, H₁ a2 = none → idxW (.lst a2) (.int (c / 28 % 4)) ⟨l, [], H₁.upd a2 (.lst [.int 0, .int 1, .int 7, .int (c / 112 % 1000001)]), false⟩ R := by
    intro vs H₁ R l hR a2 h2
    refine idx_any k0 (by simpa using k1) (by simp) (getL_self _ _ _) fun v hv => ?_
    obtain ⟨g, rfl, q0, q1⟩ := gain_mem hv (m6 c).1 (m6 c).2
    exact hR a2 h2 g q0 q1
  walk_at "w"
  refine ⟨div_s (by decide) (by decide), by decide, ?_⟩
  have hcnt : ∀ e ∈ ds, 1 ≤ e ∧ e ≤ 1000000 := fun e he => ⟨(hd e he).1, Int.le_trans (hd e he).2 hm1⟩
  have lm : (List.map AV.int ds).length = ds.length := by simp
  by_cases e3 : c / 28 % 4 = 3
  · rw [if_pos (by simpa using e3)]
    refine ⟨div_s (by decide) (by decide), by decide, div_s (by decide) (by decide), by simp; (clear m0 m1 n0 n1 hm0 hm1 k0 k1 e3; omega), Int.emod_nonneg _ (by (clear m0 m1 n0 n1 hm0 hm1 k0 k1 e3; omega)), ?_⟩
    have q1 := Int.emod_lt_of_pos (c / 112) (show (0 : Int) < (List.map AV.int ds).length by simp; (clear m0 m1 n0 n1 hm0 hm1 k0 k1 e3; omega))
    refine ⟨q1, ?_⟩
    have w0 := Int.emod_nonneg (c / 300) (show (3 : Int) ≠ 0 by decide)
    have w1 := Int.emod_lt_of_pos (c / 300) (show (0 : Int) < 3 by decide)
    rw [← List.map_set]
    refine ⟨div_s (by decide) (by decide), by decide, by decide, fun a2 h2 => ⟨div_s (by decide) (by decide), by decide, ?_⟩⟩
    have kk := key (ds.set (c / 112 % (List.map AV.int ds).length).toNat (1000000 - c / 300 % 3)) (((H.upd a0 (.lst [.int 3, .int 9, .int 1000, .int 1000000])).upd a1 (.lst (ds.map .int))).upd a1 (.lst ((ds.set (c / 112 % (List.map AV.int ds).length).toNat (1000000 - c / 300 % 3)).map .int))) (hle.new h1') (getL_self _ _ _) (by
      intro e he
      rcases List.mem_or_eq_of_mem_set he with h1 | h1
      · exact hcnt e h1
      · (clear m0 m1 n0 n1 hm0 hm1 hl hl' k0 k1 lm e3 q1 w1; omega)) (by simp)
    rw [getL_self] at kk
    refine fin [] _ _ _ ?_ a2 h2
    intro a2 h2 g g0 g1
    exact ⟨by decide, kk a2 h2 g g0 g1⟩
  · rw [if_neg (by simpa using e3)]
    refine ⟨div_s (by decide) (by decide), by decide, by decide, fun a2 h2 => ⟨div_s (by decide) (by decide), by decide, ?_⟩⟩
    have kk := key ds _ hle (getL_self _ _ _) hcnt rfl
    rw [getL_self] at kk
    refine fin [] _ _ _ ?_ a2 h2
    intro a2 h2 g g0 g1
    exact ⟨by decide, kk a2 h2 g g0 g1⟩
end
end
section
section
variable {k : Nat} {cs : List Int} {g : Int} {H : AH} {Q : AV → AH → Prop} {X : Nat → AH → Prop}
theorem l_signs_loop {c y z n w : Int} {H₀ : AH} {cs : List Int} {g : Int} {a : Addr} {vs : List AV} {QS : Out → AS → Prop} {XS : Nat → AS → Prop} (ha : H₀ a = none) (hcs : 1 ≤ cs.length ∧ cs.length ≤ 8) : ∀ (rs : List Int) (H : AH) (ks : List Nat) (x6 x7 : Option AV) (_ : ∀ r ∈ rs, 0 ≤ r ∧ r ≤ 1000) (_ : ks.length + rs.length ≤ 1000) (_ : Le H₀ H) (_ : getL H a = some (txV ks)) (_ : TxOk cs ks)
    (_ : ∀ H' ks' x6 x7, Le H₀ H' → getL H' a = some (txV ks') → TxOk cs ks' → ks'.length = ks.length + rs.length → QS .next ⟨[some (.int c), some (plV cs g), some (.int y), some (.int z), some (.int w), some (.lst a), x6, x7, none, none, none], [], H', false⟩),
    src H₀ (.rng 0 n) = some vs →
    FOR TB (CallN TB (k + 1)) (.loc 6) [
    .asg (.loc 7) (.bin .mod (.call (.gfn F.l_mixed) [(.bin .fdiv (.loc 0) (.cInt 244)), (.loc 6)]) (.call (.gbi Bi.len) [(.idx (.loc 1) (.cInt 0))])),
    .ite (.e (.cmp .eq (.loc 4) (.cInt 1))) [
      .asg (.loc 7) (.bin .mod (.bin .fdiv (.loc 0) (.cInt 244)) (.call (.gbi Bi.len) [(.idx (.loc 1) (.cInt 0))]))] [],
    .ite (.all [(.e (.cmp .eq (.loc 4) (.cInt 2))), (.e (.cmp .lt (.bin .mod (.loc 6) (.cInt 4)) (.cInt 3)))]) [
      .asg (.loc 7) (.cInt 0)] [],
    .expr (.meth (.loc 5) Mt.append [(.loc 7)])] (.rng 0 n) vs (rs.map .int) ⟨[some (.int c), some (plV cs g), some (.int y), some (.int z), some (.int w), some (.lst a), x6, x7, none, none, none], [], H, false⟩ QS XS
  | [], H, ks, x6, x7, _, _, le, hg, ht, h, hs => FOR_nil hs (h H ks x6 x7 le hg ht (by simp))
  | r :: rs, H, ks, x6, x7, hr, hl, le, hg, ht, h, hs => by
    refine FOR_cons hs ?_
    simp only [plV]
    walk_at "w"
    refine ⟨div_s (by decide) (by decide), ?_⟩
    have hr0 := hr r (.head _)
    refine l_mixed_ok (by (clear hcs hl; omega)) (by (clear hcs hl; omega)) fun q q0 q1 => ?_
    walk_at "v"
    have lm : ((List.map AV.int cs).length : Int) = cs.length := by simp
    have step : ∀ (s : Int) x6 x7, 0 ≤ s → s < cs.length → FOR TB (CallN TB (k + 1)) (.loc 6) [
    .asg (.loc 7) (.bin .mod (.call (.gfn F.l_mixed) [(.bin .fdiv (.loc 0) (.cInt 244)), (.loc 6)]) (.call (.gbi Bi.len) [(.idx (.loc 1) (.cInt 0))])),
    .ite (.e (.cmp .eq (.loc 4) (.cInt 1))) [
      .asg (.loc 7) (.bin .mod (.bin .fdiv (.loc 0) (.cInt 244)) (.call (.gbi Bi.len) [(.idx (.loc 1) (.cInt 0))]))] [],
    .ite (.all [(.e (.cmp .eq (.loc 4) (.cInt 2))), (.e (.cmp .lt (.bin .mod (.loc 6) (.cInt 4)) (.cInt 3)))]) [
      .asg (.loc 7) (.cInt 0)] [],
    .expr (.meth (.loc 5) Mt.append [(.loc 7)])] (.rng 0 n) vs (rs.map .int) ⟨[some (.int c), some (plV cs g), some (.int y), some (.int z), some (.int w), some (.lst a), x6, x7, none, none, none], [], H.upd a (.lst (txV ks ++ [.int s])), false⟩ QS XS := by
      intro s x6 x7 s0 s1
      have e : txV ks ++ [AV.int s] = txV (ks ++ [s.toNat]) := by simp [txV]; (clear hcs hl hr0 q0 q1 lm s1; omega)
      rw [e]
      simp only [List.length_cons] at hl
      refine l_signs_loop ha hcs rs _ (ks ++ [s.toNat]) _ _ (fun r hr' => hr r (.tail _ hr')) (by simp; (clear hcs hr0 q0 q1 lm s0 s1; omega)) (le.new ha) (getL_self _ _ _) ?_ ?_ hs
      · intro j hj
        rcases List.mem_append.mp hj with h1 | h1
        · exact ht j h1
        · rw [List.mem_singleton.mp h1]; (clear hl hr0 q0 q1 s0; omega)
      · intro H' ks' x6 x7 a1 a2 a3 a4
        exact h H' ks' x6 x7 a1 a2 a3 (by simp at a4 ⊢; (clear hcs hl hr0 q0 q1 lm s0 s1; omega))
    have sm : Small ((txV ks).length + 1) := by simp [Small] at hl ⊢; (clear hcs hr0 q0 q1 lm; omega)
    have m0 := Int.emod_nonneg (c / 244) (show (cs.length : Int) ≠ 0 by (clear hl hr0 q0 q1 sm; omega))
    have m1 := Int.emod_lt_of_pos (c / 244) (show 0 < (cs.length : Int) by (clear hl hr0 q0 q1 sm m0; omega))
    have n0 := Int.emod_nonneg q (show (cs.length : Int) ≠ 0 by (clear hl hr0 q0 q1 sm m0 m1; omega))
    have n1 := Int.emod_lt_of_pos q (show 0 < (cs.length : Int) by (clear hl hr0 q0 q1 sm m0 m1 n0; omega))
    walk_at "w"
    rw [lm]
    refine ⟨by (clear hl hr0 q0 q1 sm m0 m1 n0 n1; omega), ?_⟩
    by_cases w1 : w = 1
    · simp only [w1, decide_true, if_true, hg, need_some]
      refine ⟨div_s (by decide) (by decide), by (clear hl hr0 q0 q1 sm m0 m1 n0 n1 w1; omega), ?_⟩
      simp only [show decide ((1 : Int) = 2) = false by decide, Bool.false_eq_true, if_false]
      refine ⟨rfl, sm, ?_⟩
      have := step (c / 244 % cs.length) (some (.int r)) (some (.int (c / 244 % cs.length))) m0 m1
      rw [w1] at this
      exact this
    · simp only [w1, decide_false, Bool.false_eq_true, if_false, hg, need_some]
      have fin := step (q % cs.length) (some (.int r)) (some (.int (q % cs.length))) n0 n1
      by_cases w2 : w = 2
      · simp only [w2, decide_true, if_true]
        refine ⟨by decide, ?_⟩
        rw [w2] at fin
        by_cases w3 : r % 4 < 3
        · simp only [w3, decide_true, if_true]
          refine ⟨rfl, sm, ?_⟩
          have := step 0 (some (.int r)) (some (.int 0)) (by (clear hcs hl hr0 q0 q1 lm sm m0 m1 n0 n1 w1 w2 w3; omega)) (by (clear hl hr0 q0 q1 sm m0 m1 n0 n1 w1 w2 w3; omega))
          rw [w2] at this
          exact this
        · simp only [w3, decide_false, Bool.false_eq_true, if_false]
          exact ⟨rfl, sm, fin⟩
      · simp only [w2, decide_false, Bool.false_eq_true, if_false]
        exact ⟨rfl, sm, fin⟩
theorem l_signs_ok {c m : Int} (p : PlanOk cs g) (m0 : 0 ≤ m) (m1 : m ≤ 500) (h : ∀ a ks H', H a = none → Le H H' → getL H' a = some (txV ks) → TxOk cs ks → (ks.length : Int) ≤ m → Q (.lst a) H') : CallN TB (k + 2) F.l_signs [.int c, plV cs g, .int m] H false Q X := by
  refine ⟨rfl, ?_⟩
  simp only [D.l_signs]
  walk_at "e"
  walk_at "w"
  have n0 := Int.emod_nonneg c (show m + 1 ≠ 0 by omega)
  have n1 := Int.emod_lt_of_pos c (show 0 < m + 1 by (clear n0; omega))
  refine ⟨by (clear n0 n1; omega), div_s (by decide) (by decide), by decide, by decide, fun a ha => ⟨⟨by (clear m0 m1 n1; omega), by (clear n0; omega)⟩, ?_⟩⟩
  rw [rng_map]
  have := p.l2; have := p.l8
  refine l_signs_loop ha ⟨by (clear m0 m1 n0 n1; omega), by (clear m0 m1 n0 n1; omega)⟩ _ _ [] _ _ (fun r hr => by have := rng_bd hr; omega) (by simp; (clear n0 this; omega)) ((Le.refl H).new ha) (getL_self _ _ _) (fun _ h => nomatch h) ?_ (by rw [← rng_map]; rfl)
  intro H' ks x6 x7 le hg ht hl
  walk_at "w"
  exact h a ks H' ha le hg ht (by simp at hl; (clear m0 m1 this; omega))
theorem l_behind_ok {s : Nat} (p : PlanOk cs g) (hs : s < cs.length) (h : ∀ H', Le H H' → Q (plV (bhd cs g s) g) H') : CallN TB (k + 1) F.l_behind [plV cs g, .int s] H false Q X := by
  refine ⟨rfl, ?_⟩
  have := p.l8
  simp only [D.l_behind, plV]
  walk_at "e"
  walk_at "w"
  refine ⟨by simp [Small]; (clear hs; omega), fun a ha => ?_⟩
  refine idx_of (vs := cs.map AV.int) (v := .int (cnt cs s)) (by (clear hs this; omega)) (by omega) (getL_self _ _ _) (by simp [cnt_at hs]) ?_
  walk_at "w"
  refine ⟨by (clear hs this; omega), by simpa using hs, by decide, ?_⟩
  have e : (List.map AV.int cs).set (s : Int).toNat (AV.int (min 1000000 (cnt cs s + g))) = (bhd cs g s).map AV.int := by simp [bhd, List.map_set]
  rw [e]
  exact h _ (((Le.refl H).new ha).new ha)
theorem l_stretch_loop {vs : List AV} {a : Addr} {Q : Out → AS → Prop} {X : Nat → AS → Prop} : ∀ (ks : List Nat) (cs : List Int) (s : Sg) (H : AH) (x y : Option AV) (_ : getL H a = some vs) (_ : PlanOk cs g) (_ : TxOk cs ks) (_ : ∀ p x y H', Le H H' → Q .next ⟨[p, some (.lst a), some (.int (str s cs g ks).l), some (.int (str s cs g ks).w), some (.int (str s cs g ks).t), x, y, none, none], [], H', false⟩),
    FOR TB (CallN TB (k + 1)) (.loc 5) [
    .asg (.loc 6) (.call (.gbi Bi.sum) [(.idx (.loc 0) (.cInt 0))]),
    .asg (.loc 2) (.bin .add (.bin .mul (.loc 2) (.loc 6)) (.bin .mul (.loc 3) (.call (.gbi Bi.sum) [(.slc (.idx (.loc 0) (.cInt 0)) .cNone (.loc 5))]))),
    .asg (.loc 3) (.bin .mul (.loc 3) (.idx (.idx (.loc 0) (.cInt 0)) (.loc 5))),
    .asg (.loc 4) (.bin .mul (.loc 4) (.loc 6)),
    .asg (.loc 0) (.call (.gfn F.l_behind) [(.loc 0), (.loc 5)])] (.lst a) vs (txV ks) ⟨[some (plV cs g), some (.lst a), some (.int s.l), some (.int s.w), some (.int s.t), x, y, none, none], [], H, false⟩ Q X
  | [], cs, s, H, x, y, hv, _, _, h => FOR_nil hv (h _ x y H (Le.refl H))
  | j :: ks, cs, s, H, x, y, hv, p, hc, h => by
    refine FOR_cons hv ?_
    have hj := hc j (.head _)
    have b1 := p.tot; have b2 := p.blw hj; have b3 := p.cnt1 hj; have b4 := p.l8
    simp only [plV]
    walk_at "w"
    rw [ints_map]
    refine ⟨sum_ok p.cnt, ?_⟩
    walk_at "w"
    refine ⟨mul_r (by (clear hj b2 b3 b4; omega)), ⟨by (clear hj b1 b2 b3 b4; omega), by (clear b1 b2 b3; omega)⟩, ?_⟩
    rw [cut_ni (by (clear hj b1 b2 b3 b4; omega))]
    simp only [need_some, ← List.map_take, ints_map, Int.toNat_natCast]
    refine ⟨sum_ok (take_ok p.cnt j), ?_⟩
    walk_at "w"
    refine ⟨mul_r (show (blw cs j).natAbs < _ by (clear hj b4; omega)), ?_⟩
    refine idx_of (vs := cs.map AV.int) (v := .int (cnt cs j)) (by (clear hj b1 b2 b3 b4; omega)) (by (clear b1 b2 b3; omega)) rfl (by simp [cnt_at hj]) ?_
    walk_at "w"
    refine ⟨mul_r (by (clear hj b1 b2 b4; omega)), mul_r (by (clear hj b2 b3 b4; omega)), ?_⟩
    refine l_behind_ok p hj fun H' le => ?_
    walk_at "v"
    exact l_stretch_loop ks _ (stp s cs j) H' _ _ (getL_le le hv) (p.bhd hj) (TxOk.bhd fun d hd => hc d (.tail _ hd)) fun q x y H₂ l2 => h q x y H₂ (le.trans l2)
theorem l_stretch_ok {ks : List Nat} {a : Addr} (p : PlanOk cs g) (hv : getL H a = some (txV ks)) (ht : TxOk cs ks) (h : ∀ H', Le H H' → Q (stV (str one cs g ks)) H') : CallN TB (k + 2) F.l_stretch [plV cs g, .lst a] H false Q X := by
  refine ⟨rfl, ?_⟩
  simp only [D.l_stretch]
  walk_at "e"
  walk_at "w"
  rw [hv]
  refine ⟨by decide, ?_⟩
  refine l_stretch_loop ks cs one H _ _ hv p ht fun q x y H' le => ?_
  walk_at "w"
  exact ⟨by decide, h H' le⟩
theorem l_within_ok {s o : Sg} {n m : Nat} (hs : StOk n s) (ho : StOk m o) (hn : n + m ≤ 99990) (h : Q (.bool (decide (o.l * s.t ≤ s.l * o.t ∧ (s.l + s.w) * o.t ≤ (o.l + o.w) * s.t))) H) : CallN TB (k + 1) F.l_within [stV s, stV o] H false Q X := by
  refine ⟨rfl, ?_⟩
  have a := hs.abs
  have b := ho.abs
  simp only [D.l_within, stV]
  walk_at "e"
  walk_at "w"
  refine ⟨mul_n _ _ a.1 b.2.2.1 (by (clear a b; omega)), mul_n _ _ b.1 a.2.2.1 (by (clear a b; omega)), mul_n _ _ b.2.2.2 a.2.2.1 (by (clear a b; omega)), mul_n _ _ a.2.2.2 b.2.2.1 (by (clear a b; omega)), ?_⟩
  by_cases c : s.l * o.t < o.l * s.t
  · rw [if_neg (by simp; (clear hn a b; omega))]
    rw [show decide (o.l * s.t ≤ s.l * o.t ∧ (s.l + s.w) * o.t ≤ (o.l + o.w) * s.t) = false by simp; (clear hn a b; omega)] at h
    rw [show decide (s.l * o.t - o.l * s.t ≥ 0) = false by simp; (clear hn a b; omega)]
    exact h
  · rw [if_pos (by simp; (clear hn a b; omega))]
    rw [show decide (o.l * s.t ≤ s.l * o.t ∧ (s.l + s.w) * o.t ≤ (o.l + o.w) * s.t) = decide ((o.l + o.w) * s.t - (s.l + s.w) * o.t ≥ 0) by rw [Bool.eq_iff_iff]; simp; (clear hn a b; omega)] at h
    exact h
theorem l_whole_ok {x : Int} (h : Q (.bool true) H) : CallN TB (k + 1) F.l_whole [.int x] H false Q X := by
  refine ⟨rfl, ?_⟩
  simp only [D.l_whole]
  walk_at "e"
  walk_at "w"
  exact h
end
end
section
/-! equality of lists of whole numbers -/
theorem rds_ints (H : AH) : ∀ xs : List Int, rds H (xs.map .int) (xs.map .int)
  | [] => True.intro
  | _ :: xs => ⟨rfl, rds_ints H xs⟩
theorem rd_lst {H : AH} {a : Addr} {xs : List Int} (h : getL H a = some (xs.map .int)) : rd H (.lst a) (.list (xs.map .int)) := ⟨a, _, rfl, h, rds_ints H xs⟩
theorem lay_ints : ∀ xs : List Int, PyData.canLayAll0 (xs.map .int) = true
  | [] => rfl
  | _ :: xs => lay_ints xs
theorem dep_ints : ∀ xs : List Int, PyData.depthAll (xs.map .int) ≤ 1
  | [] => by decide
  | _ :: xs => by
    have := dep_ints xs
    simp only [List.map_cons, PyData.depthAll, PyData.depth]
    omega
theorem shp_lst (xs : List Int) : PySem.SeqAt.shaped (.list (xs.map .int)) = true := by
  have := dep_ints xs
  simp [PySem.SeqAt.shaped, PyData.canLay0, lay_ints xs, PyData.depth]; omega
theorem eqv_ints : ∀ xs ys : List Int, PyData.eqvAll (xs.map .int) (ys.map .int) = decide (xs = ys)
  | [], [] => by simp [PyData.eqvAll]
  | x :: xs, y :: ys => by
    simp only [List.map_cons, PyData.eqvAll, PyData.eqv, eqv_ints xs ys]
    rw [Bool.eq_iff_iff]; simp
  | [], _ :: _ => by simp [PyData.eqvAll]
  | _ :: _, [] => by simp [PyData.eqvAll]
theorem eq_ll {H : AH} {a b : Addr} {xs ys : List Int} {Q : Bool → Prop} (ha : getL H a = some (xs.map .int)) (hb : getL H b = some (ys.map .int)) (h : Q (decide (xs = ys))) : eqW (.lst a) (.lst b) H Q :=
  ⟨_, _, rd_lst ha, rd_lst hb, shp_lst xs, shp_lst ys, by rw [show PyData.eqv (.list (xs.map .int)) (.list (ys.map .int)) = PyData.eqvAll (xs.map .int) (ys.map .int) by simp only [PyData.eqv], eqv_ints]; exact h⟩
theorem cmp_eq {a b : AV} {σ : AS} {Q : AV → AS → Prop} (h : eqW a b σ.H fun r => Q (.bool r) σ) : cmpW .eq a b σ Q := h
theorem cmp_ne {a b : AV} {σ : AS} {Q : AV → AS → Prop} (h : eqW a b σ.H fun r => Q (.bool (!r)) σ) : cmpW .ne a b σ Q := h
theorem txV_map (ks : List Nat) : txV ks = (ks.map fun (k : Nat) => (k : Int)).map .int := by simp [txV]
theorem nat_inj : ∀ {ks js : List Nat}, (ks.map fun (k : Nat) => (k : Int)) = (js.map fun (k : Nat) => (k : Int)) → ks = js
  | [], [], _ => rfl
  | k :: ks, j :: js, h => by
    simp only [List.map_cons, List.cons.injEq] at h
    rw [nat_inj h.2, show k = j by omega]
  | [], _ :: _, h => nomatch h
  | _ :: _, [], h => nomatch h
theorem eq_txt {H : AH} {a b : Addr} {ks js : List Nat} {Q : Bool → Prop} (ha : getL H a = some (txV ks)) (hb : getL H b = some (txV js)) (h : Q (decide (ks = js))) : eqW (.lst a) (.lst b) H Q := by
  rw [txV_map] at ha hb
  refine eq_ll ha hb ?_
  rw [show decide ((ks.map fun (k : Nat) => (k : Int)) = js.map fun (k : Nat) => (k : Int)) = decide (ks = js) by rw [Bool.eq_iff_iff]; simp; exact ⟨nat_inj, fun h => h ▸ rfl⟩]
  exact h
end
section
theorem blw_succ {cs : List Int} {k : Nat} (h : k < cs.length) : blw cs (k + 1) = blw cs k + cnt cs k := by
  have h5 : Mine.cnt cs k = cs[k] := by simp [Mine.cnt, List.getD, List.getElem?_eq_getElem h]
  unfold blw
  rw [List.take_succ_eq_append_getElem h, List.sum_append, h5]; simp
noncomputable def pln (cs : List Int) (g : Int) : List Nat → List Int
  | [] => cs
  | k :: ks => pln (bhd cs g k) g ks
theorem str_app (g : Int) : ∀ (ks js : List Nat) (s : Sg) (cs : List Int), str s cs g (ks ++ js) = str (str s cs g ks) (pln cs g ks) g js
  | [], _, _, _ => rfl
  | k :: ks, js, s, cs => str_app g ks js (stp s cs k) (bhd cs g k)
theorem pln_ok {g : Int} : ∀ {ks : List Nat} {cs : List Int} (_ : PlanOk cs g) (_ : TxOk cs ks), PlanOk (pln cs g ks) g ∧ (pln cs g ks).length = cs.length
  | [], cs, p, _ => ⟨p, rfl⟩
  | k :: ks, cs, p, t => by
    obtain ⟨h1, h2⟩ := pln_ok (ks := ks) (p.bhd (t k (.head _))) (TxOk.bhd fun j hj => t j (.tail _ hj))
    exact ⟨h1, h2.trans (bhd_len cs g k)⟩
theorem stp_in {n : Nat} {s : Sg} {cs : List Int} {g : Int} {k : Nat} (h : StOk n s) (p : PlanOk cs g) (hk : k < cs.length) : s.l * (stp s cs k).t ≤ (stp s cs k).l * s.t ∧ ((stp s cs k).l + (stp s cs k).w) * s.t ≤ (s.l + s.w) * (stp s cs k).t := by
  obtain ⟨a, b⟩ := p.blw hk
  obtain ⟨c, d⟩ := p.tot
  obtain ⟨l0, w1, lw, tn⟩ := h
  have t0 : 0 ≤ s.t := by (clear hk a b c d tn; omega)
  constructor
  · show s.l * (s.t * cs.sum) ≤ (s.l * cs.sum + s.w * blw cs k) * s.t
    rw [Int.add_mul, show s.l * (s.t * cs.sum) = s.l * cs.sum * s.t by rw [Int.mul_assoc, Int.mul_comm cs.sum]]
    have := Int.mul_nonneg (Int.mul_nonneg (show 0 ≤ s.w by (clear hk a b c d l0 lw tn t0; omega)) a) t0
    (clear hk a b c d l0 w1 lw tn t0; omega)
  · show (s.l * cs.sum + s.w * blw cs k + s.w * cnt cs k) * s.t ≤ (s.l + s.w) * (s.t * cs.sum)
    rw [show (s.l + s.w) * (s.t * cs.sum) = (s.l * cs.sum + s.w * cs.sum) * s.t by rw [← Int.add_mul, Int.mul_assoc, Int.mul_comm cs.sum]]
    refine Int.mul_le_mul_of_nonneg_right ?_ t0
    have h1 : s.w * Mine.blw cs k + s.w * Mine.cnt cs k ≤ s.w * cs.sum := by
      rw [← Int.mul_add]; exact Int.mul_le_mul_of_nonneg_left b (by (clear hk a b c d l0 lw tn t0; omega))
    (clear hk a b c d l0 w1 lw tn t0; omega)
end
section
theorem s_while {T : Tab} {hk : Hook} {c : MT} {b : List MS} {σ : AS} {QS : Out → AS → Prop} {X : Nat → AS → Prop} {I : Nat → AS → Prop} (n : Nat) (h0 : I n σ) (h : ∀ n σ₁, I n σ₁ → WT T hk c σ₁ (fun t σ₂ => if t then WSs T hk b σ₂ (fun o σ₃ => match o with | .next => ∃ m, m < n ∧ I m σ₃ | .ret v => QS (.ret v) σ₃) noX else QS .next σ₂) noX) : WS T hk (.while c b) σ QS X := ⟨I, ⟨n, h0⟩, h⟩
/-! figures, the plain side -/
noncomputable def lsb : Nat → Nat → List Nat
  | 0, _ => []
  | m + 1, n => n % 2 :: lsb m (n / 2)
noncomputable def bits (m n : Nat) : List Nat := (lsb m n).reverse
noncomputable def num (fs : List Nat) : Nat := fs.foldl (fun x b => 2 * x + b) 0
noncomputable def Bin (fs : List Nat) : Prop := ∀ b ∈ fs, b < 2
theorem lsb_len : ∀ m n, (lsb m n).length = m
  | 0, _ => rfl
  | m + 1, n => congrArg (· + 1) (lsb_len m (n / 2))
theorem bits_len (m n : Nat) : (bits m n).length = m := by simp [bits, lsb_len]
theorem lsb_bin : ∀ m n, Bin (lsb m n)
  | 0, _ => fun _ h => nomatch h
  | m + 1, n => fun b h => by
    rcases List.mem_cons.mp h with h | h
    · omega
    · exact lsb_bin m (n / 2) b h
theorem bits_bin (m n : Nat) : Bin (bits m n) := fun b h => lsb_bin m n b (List.mem_reverse.mp h)
theorem lsb_num : ∀ m n, n < 2 ^ m → (lsb m n).foldr (fun b x => 2 * x + b) 0 = n
  | 0, n, h => by simp at h; simp [lsb, h]
  | m + 1, n, h => by
    simp only [lsb, List.foldr_cons]
    rw [lsb_num m (n / 2) (by rw [Nat.pow_succ] at h; omega)]
    (clear h; omega)
theorem bits_num {m n : Nat} (h : n < 2 ^ m) : num (bits m n) = n := by
  unfold num bits
  rw [List.foldl_reverse, lsb_num m n h]
theorem num_snoc (fs : List Nat) (b : Nat) : num (fs ++ [b]) = 2 * num fs + b := by simp [num]
theorem num_fold : ∀ (fs : List Nat) (x : Nat), fs.foldl (fun x b => 2 * x + b) x = x * 2 ^ fs.length + num fs
  | [], x => by simp [num]
  | f :: fs, x => by
    unfold num
    simp only [List.foldl_cons, List.length_cons]
    rw [num_fold fs (2 * x + f), num_fold fs (2 * 0 + f), Nat.pow_succ, Nat.add_mul, Nat.mul_zero, Nat.zero_add, Nat.mul_comm 2 x, Nat.mul_assoc, Nat.mul_comm 2]
    omega
theorem num_app (fs hs : List Nat) : num (fs ++ hs) = num fs * 2 ^ hs.length + num hs := by
  unfold num
  rw [List.foldl_append, num_fold]; rfl
theorem num_lt : ∀ {fs : List Nat}, Bin fs → num fs < 2 ^ fs.length := by
  intro fs
  induction fs with
  | nil => intro _; simp [num]
  | cons f fs ih =>
    intro h
    have := ih fun b hb => h b (.tail _ hb)
    have h0 := h f (.head _)
    unfold num at *
    simp only [List.foldl_cons, List.length_cons]
    rw [num_fold]
    unfold num
    rw [Nat.pow_succ]
    have : (2 * 0 + f) * 2 ^ fs.length ≤ 1 * 2 ^ fs.length := Nat.mul_le_mul_right _ (by (clear this; omega))
    (clear h0; omega)
noncomputable def fgd (fs : List Nat) : Sg := ⟨num fs, 1, 2 ^ fs.length⟩
theorem fgd_ok {fs : List Nat} (h : Bin fs) : StOk fs.length (fgd fs) := by
  refine ⟨by show (0 : Int) ≤ (num fs : Nat); omega, Int.le_refl 1, ?_, Int.le_refl _⟩
  have := num_lt h
  show ((num fs : Nat) : Int) + 1 ≤ 2 ^ fs.length
  exact_mod_cast this
/-- ceil (l * p / t) -/
noncomputable def cl (l p t : Int) : Int := -(-l * p / t)
theorem cl_le {l p t : Int} (h : 0 < t) : l * p ≤ cl l p t * t := by
  unfold cl
  have h1 := Int.mul_ediv_add_emod (-l * p) t
  have h2 := Int.emod_nonneg (-l * p) (show t ≠ 0 by (clear h1; omega))
  rw [Int.neg_mul, Int.mul_comm _ t]
  rw [Int.neg_mul] at h1 h2
  rw [Int.neg_mul]
  (clear h; omega)
theorem cl_lt {l p t : Int} (h : 0 < t) : cl l p t * t < l * p + t := by
  unfold cl
  have h1 := Int.mul_ediv_add_emod (-l * p) t
  have h2 := Int.emod_lt_of_pos (-l * p) h
  rw [Int.neg_mul, Int.mul_comm _ t]
  rw [Int.neg_mul] at h1 h2
  rw [Int.neg_mul]
  (clear h; omega)
noncomputable def Fit (s : Sg) (m : Nat) : Prop := (cl s.l (2 ^ m) s.t + 1) * s.t ≤ (s.l + s.w) * 2 ^ m
theorem pow_pos (m : Nat) : (0 : Int) < 2 ^ m := Int.pow_pos (by decide)
theorem fit_end {n m : Nat} {s : Sg} (h : StOk n s) (hm : n + 1 ≤ m) : Fit s m := by
  obtain ⟨l0, w1, lw, tn⟩ := h
  have t0 : 0 < s.t := by (clear hm tn; omega)
  have h1 := cl_lt (l := s.l) (p := 2 ^ m) t0
  unfold Fit
  rw [Int.add_mul, Int.add_mul]
  have h2 : (1 : Int) * 2 ^ m ≤ s.w * 2 ^ m := Int.mul_le_mul_of_nonneg_right w1 (Int.le_of_lt (pow_pos m))
  have h3 : (2 : Int) ^ (n + 1) ≤ 2 ^ m := by exact_mod_cast Nat.pow_le_pow_right (by decide : 0 < 2) hm
  rw [Int.pow_succ] at h3
  (clear hm l0 w1 lw t0; omega)
theorem fit_need {n m : Nat} {s : Sg} (h : StOk n s) (f : Fit s m) : s.t ≤ 2 ^ m * s.w := by
  obtain ⟨l0, w1, lw, tn⟩ := h
  have t0 : 0 < s.t := by (clear tn; omega)
  have h1 := cl_le (l := s.l) (p := 2 ^ m) t0
  unfold Fit at f
  rw [Int.add_mul, Int.add_mul] at f
  rw [Int.mul_comm _ s.w]
  (clear l0 w1 lw tn t0; omega)
theorem fit_num {n m : Nat} {s : Sg} (h : StOk n s) (f : Fit s m) : ∃ N : Nat, cl s.l (2 ^ m) s.t = N ∧ N < 2 ^ m := by
  obtain ⟨l0, w1, lw, tn⟩ := h
  have t0 : 0 < s.t := by (clear tn; omega)
  have h1 := cl_le (l := s.l) (p := 2 ^ m) t0
  have h0 : 0 ≤ cl s.l (2 ^ m) s.t := by
    have : 0 ≤ cl s.l (2 ^ m) s.t * s.t := Int.le_trans (Int.mul_nonneg l0 (Int.le_of_lt (pow_pos m))) h1
    exact Int.nonneg_of_mul_nonneg_left this t0
  refine ⟨(cl s.l (2 ^ m) s.t).toNat, by (clear l0 w1 lw tn t0 h1; omega), ?_⟩
  have h2 : (s.l + s.w) * 2 ^ m ≤ s.t * 2 ^ m := Int.mul_le_mul_of_nonneg_right lw (Int.le_of_lt (pow_pos m))
  have h3 : (cl s.l (2 ^ m) s.t + 1) * s.t ≤ 2 ^ m * s.t := by rw [Int.mul_comm (2 ^ m)]; exact Int.le_trans f h2
  have h4 := Int.le_of_mul_le_mul_right h3 t0
  have h5 : ((2 ^ m : Nat) : Int) = 2 ^ m := by simp
  (clear l0 w1 lw tn t0 h1 h2 h3; omega)
/-- the figures of a stretch -/
structure Figs (s : Sg) (fs : List Nat) : Prop where
  fit : Fit s fs.length
  few : ∀ j, j < fs.length → ¬ Fit s j
  val : ((num fs : Nat) : Int) = cl s.l (2 ^ fs.length) s.t
  bin : Bin fs
theorem Figs.uniq {s : Sg} {fs hs : List Nat} (a : Figs s fs) (b : Figs s hs) : fs.length = hs.length ∧ num fs = num hs := by
  have e : fs.length = hs.length := by
    rcases Nat.lt_trichotomy fs.length hs.length with h | h | h
    · exact absurd a.fit (b.few _ h)
    · exact h
    · exact absurd b.fit (a.few _ h)
  refine ⟨e, ?_⟩
  have h1 := a.val; have h2 := b.val
  rw [e] at h1
  (clear e; omega)
theorem num_inj : ∀ {fs hs : List Nat}, Bin fs → Bin hs → fs.length = hs.length → num fs = num hs → fs = hs
  | [], [], _, _, _, _ => rfl
  | f :: fs, h :: hs, a, b, l, e => by
    have l' : fs.length = hs.length := by simpa using l
    have a' : Bin fs := fun x hx => a x (.tail _ hx)
    have b' : Bin hs := fun x hx => b x (.tail _ hx)
    have n1 := num_lt a'; have n2 := num_lt b'
    have e1 : ∀ (x : Nat) (xs : List Nat), num (x :: xs) = x * 2 ^ xs.length + num xs := fun x xs => by
      show (x :: xs).foldl _ 0 = _
      simp only [List.foldl_cons]; rw [num_fold]; simp
    rw [e1, e1, l'] at e
    rw [l'] at n1
    have a0 := a f (.head _); have b0 := b h (.head _)
    have c1 : f = 0 ∨ f = 1 := by (clear l e l' n1 n2 b0; omega)
    have c2 : h = 0 ∨ h = 1 := by (clear l e l' n1 n2 a0 c1; omega)
    have : f = h ∧ num fs = num hs := by
      rcases c1 with c1 | c1 <;> rcases c2 with c2 | c2 <;> subst c1 <;> subst c2 <;> simp at e ⊢ <;> (clear l' a0 b0 l; omega)
    rw [this.1, num_inj a' b' l' this.2]
  | [], _ :: _, _, _, l, _ => nomatch l
  | _ :: _, [], _, _, l, _ => nomatch l
theorem Figs.same {s : Sg} {fs hs : List Nat} (a : Figs s fs) (b : Figs s hs) : fs = hs := num_inj a.bin b.bin (a.uniq b).1 (a.uniq b).2
theorem Figs.len {n : Nat} {s : Sg} {fs : List Nat} (a : Figs s fs) (h : StOk n s) : fs.length ≤ n + 1 := by
  rcases Nat.lt_or_ge (n + 1) fs.length with g | g
  · exact absurd (fit_end h (Nat.le_refl _)) (a.few _ g)
  · exact g
section
variable {k : Nat} {cs : List Int} {g : Int} {H : AH} {Q : AV → AH → Prop} {X : Nat → AH → Prop}
theorem spelled_loop {H₀ : AH} {x1 : Option AV} {a : Addr} {m : Int} {ws : List AV} {hk : Hook} {QS : Out → AS → Prop} {XS : Nat → AS → Prop} (ha : H₀ a = none) (hs : src H₀ (.rng 0 m) = some ws) : ∀ (rs : List Nat) (n : Nat) (pre : List Nat) (H : AH) (x3 : Option AV) (_ : Le H₀ H) (_ : getL H a = some (txV pre)) (_ : pre.length + rs.length ≤ 10000)
    (_ : ∀ H' x0 x3, Le H₀ H' → getL H' a = some (txV (pre ++ lsb rs.length n)) → QS .next ⟨[x0, x1, some (.lst a), x3, none], [], H', false⟩),
    FOR TB hk (.loc 3) [
    .expr (.meth (.loc 2) Mt.append [(.bin .mod (.loc 0) (.cInt 2))]),
    .asg (.loc 0) (.bin .fdiv (.loc 0) (.cInt 2))] (.rng 0 m) ws (txV rs) ⟨[some (.int n), x1, some (.lst a), x3, none], [], H, false⟩ QS XS
  | [], n, pre, H, x3, le, hg, hl, h => FOR_nil hs (h H _ x3 le (by simpa [lsb] using hg))
  | r :: rs, n, pre, H, x3, le, hg, hl, h => by
    refine FOR_cons hs ?_
    walk_at "w"
    simp only [hg]
    walk_at "w"
    simp only [List.length_cons] at hl
    refine ⟨by decide, by simp [Small]; omega, div_s (by decide) (by decide), ?_⟩
    rw [show txV pre ++ [AV.int ((n : Int) % 2)] = txV (pre ++ [n % 2]) by simp [txV], show (n : Int) / 2 = ((n / 2 : Nat) : Int) by (clear hl; omega)]
    exact spelled_loop ha hs rs (n / 2) (pre ++ [n % 2]) _ _ (le.new ha) (getL_self _ _ _) (by simp; omega) fun H' x0 x3 q1 q2 => h H' x0 x3 q1 (by simpa [lsb] using q2)
theorem spelled_ok {n m : Nat} (hm : m ≤ 10000) (h : ∀ a H', H a = none → Le H H' → getL H' a = some (txV (bits m n)) → Q (.lst a) H') : CallN TB (k + 1) F.spelled [.int n, .int m] H false Q X := by
  refine ⟨rfl, ?_⟩
  simp only [D.spelled]
  walk_at "e"
  walk_at "w"
  refine ⟨by decide, fun a ha => ⟨⟨by omega, by omega⟩, ?_⟩⟩
  have e : rngL 0 (m : Int) = txV (List.range m) := by simp [rngL, txV]
  rw [e]
  refine spelled_loop ha (by rw [← e]; rfl) (List.range m) n [] _ _ ((Le.refl H).new ha) (getL_self _ _ _) (by simp; omega) fun H' x0 x3 q1 q2 => ?_
  walk_at "w"
  rw [q2]
  simp only [List.length_range, List.nil_append] at *
  refine ⟨by simp [Small, lsb_len]; omega, fun b hb => ?_⟩
  exact h b _ (q1.none hb) (q1.new (q1.none hb)) (by rw [getL_self]; simp [txV, bits])
theorem ar1 {n m : Nat} (hn : n ≤ 8000) (hm : m ≤ n + 1) : m + 1 + (n + 1) ≤ 100000 ∧ n + 1 + (m + 1) ≤ 100000 ∧ n + 1 ≤ 9000 ∧ m + 3 + (n + 1) ≤ 100000 ∧ m ≤ 10000 := by omega
theorem cl_abs {n m : Nat} {s : Sg} (hs : StOk n s) : (cl s.l (2 ^ m) s.t + 1).natAbs < 2 ^ (m + 3) := by
  have t0 : 0 < s.t := by have := hs.l0; have := hs.w1; have := hs.lw; omega
  have c0 := cl_le (l := s.l) (p := 2 ^ m) t0
  have c1 := cl_lt (l := s.l) (p := 2 ^ m) t0
  have h0 : 0 ≤ cl s.l (2 ^ m) s.t := Int.nonneg_of_mul_nonneg_left (Int.le_trans (Int.mul_nonneg hs.l0 (Int.le_of_lt (pow_pos m))) c0) t0
  have h2 : s.l * 2 ^ m ≤ s.t * 2 ^ m := Int.mul_le_mul_of_nonneg_right (by have := hs.lw; have := hs.w1; (clear t0 c0 c1 h0; omega)) (Int.le_of_lt (pow_pos m))
  have h3 : cl s.l (2 ^ m) s.t * s.t < (2 ^ m + 1) * s.t := by rw [Int.add_mul, Int.mul_comm (2 ^ m)]; (clear t0 c0 h0; omega)
  have h4 := Int.lt_of_mul_lt_mul_right h3 (Int.le_of_lt t0)
  have h5 : ((2 ^ m : Nat) : Int) = 2 ^ m := by simp
  have h6 : (2 : Nat) ^ (m + 3) = 2 ^ m * 8 := by rw [Nat.pow_add]
  have h7 : 0 < (2 : Nat) ^ m := Nat.pow_pos (by decide)
  clear c0 c1 h2 h3
  (clear t0; omega)
theorem pm_lt (m : Nat) : ((2 : Int) ^ m).natAbs < 2 ^ (m + 1) := by
  rw [Int.natAbs_pow]; exact Nat.pow_lt_pow_right (by decide) (by omega)
theorem st_t0 {n : Nat} {s : Sg} (hs : StOk n s) : 0 < s.t := by have := hs.l0; have := hs.w1; have := hs.lw; omega
theorem figures_in_ok {s : Sg} {n : Nat} (hs : StOk n s) (hn : n ≤ 8000) (h : ∀ a fs H', H a = none → Le H H' → Figs s fs → getL H' a = some (txV fs) → Q (.lst a) H') : CallN TB (k + 2) F.figures_in [stV s] H false Q X := by
  refine ⟨rfl, ?_⟩
  simp only [D.figures_in, stV]
  walk_at "e"
  walk_at "w"
  refine s_while (I := fun j σ => ∃ m x6, j + m = n + 2 ∧ (∀ i, i < m → ¬ Fit s i) ∧ σ = ⟨[some (.tup [.int s.l, .int s.w, .int s.t]), some (.int s.l), some (.int s.w), some (.int s.t), some (.int (m : Nat)), some (.int (2 ^ m)), x6, none], [], H, false⟩) (n + 2) ⟨0, none, by (clear hn; omega), fun i h => absurd h (Nat.not_lt_zero i), rfl⟩ ?_
  rintro j _ ⟨m, x6, hj, hf, rfl⟩
  have sa := hs.abs
  have t0 := st_t0 hs
  have hm : m ≤ n + 1 := by
    rcases Nat.lt_or_ge (n + 1) m with g | g
    · exact absurd (fit_end hs (Nat.le_refl _)) (hf _ g)
    · exact g
  have pm := pm_lt m
  have ar := ar1 hn hm
  walk_at "w"
  refine ⟨mul_n _ _ pm sa.2.1 ar.1, ?_⟩
  have next : ¬ Fit s m → ∀ x6, ∃ j', j' < j ∧ ∃ (m' : Nat) (x6' : Option AV), j' + m' = n + 2 ∧ (∀ i, i < m' → ¬ Fit s i) ∧ (⟨[some (.tup [.int s.l, .int s.w, .int s.t]), some (.int s.l), some (.int s.w), some (.int s.t), some (.int ((m : Nat) + 1)), some (.int (2 * 2 ^ m)), x6, none], [], H, false⟩ : AS) = ⟨[some (.tup [.int s.l, .int s.w, .int s.t]), some (.int s.l), some (.int s.w), some (.int s.t), some (.int (m' : Nat)), some (.int (2 ^ m')), x6', none], [], H, false⟩ := by
    intro nf x6
    refine ⟨j - 1, by (clear hn sa t0 pm ar; omega), m + 1, x6, by (clear hn sa t0 pm ar; omega), ?_, ?_⟩
    · intro i hi
      rcases Nat.lt_or_ge i m with g | g
      · exact hf i g
      · rw [show i = m by (clear hn hj sa t0 hm pm ar; omega)]; exact nf
    · rw [Int.pow_succ, Int.mul_comm _ 2]; rfl
  by_cases c : 2 ^ m * s.w ≥ s.t
  · rw [if_pos (by simpa using c)]
    refine ⟨mul_n (n + 1) _ (by rw [Int.natAbs_neg]; exact sa.1) pm ar.2.1, ⟨t0, n + 1, sa.2.2.1, ar.2.2.1⟩, ?_⟩
    refine ⟨mul_n (m + 3) _ (cl_abs hs) sa.2.2.1 ar.2.2.2.1, mul_n _ _ sa.2.2.2 pm ar.2.1, ?_⟩
    · by_cases f : Fit s m
      · rw [if_pos (by simp only [decide_eq_true_eq]; exact f)]
        obtain ⟨N, e, hN⟩ := fit_num hs f
        rw [show -(-s.l * 2 ^ m / s.t) = (N : Int) from e]
        refine spelled_ok ar.2.2.2.2 fun a H' q1 q2 q3 => ?_
        walk_at "v"
        refine h a _ H' q1 q2 ⟨?_, ?_, ?_, bits_bin m N⟩ q3
        · rw [bits_len]; exact f
        · rw [bits_len]; exact hf
        · rw [bits_len, bits_num hN]; exact e.symm
      · rw [if_neg (by simp only [decide_eq_true_eq]; exact f)]
        exact ⟨mul_l (by decide), next f _⟩
  · rw [if_neg (by simpa using c)]
    exact ⟨mul_l (by decide), next (fun f => c (fit_need hs f)) _⟩
end
end
section
noncomputable def Wi (a b : Sg) : Prop := b.l * a.t ≤ a.l * b.t ∧ (a.l + a.w) * b.t ≤ (b.l + b.w) * a.t
noncomputable def wib (a b : Sg) : Bool := decide (b.l * a.t ≤ a.l * b.t ∧ (a.l + a.w) * b.t ≤ (b.l + b.w) * a.t)
theorem wib_iff {a b : Sg} : wib a b = true ↔ Wi a b := by simp [wib, Wi]
noncomputable def nx (s : Sg) (cs : List Int) (o : Sg) : Option Nat := (List.range cs.length).find? fun k => wib o (stp s cs k)
noncomputable def cert : Nat → Sg → List Int → Int → Sg → List Nat
  | 0, _, _, _, _ => []
  | m + 1, s, cs, g, o => match nx s cs o with
    | none => []
    | some k => k :: cert m (stp s cs k) (bhd cs g k) g o
inductive InvC (cs : List Int) (g : Int) (m : Nat) (fs : List Nat) (a b : Addr) (H : AH) (j : Nat) (σ : AS) : Prop
  | mk (cs' : List Int) (s : Sg) (pre : List Nat) (H' : AH) (x6 : Option AV) (h0 : PlanOk cs' g) (h1 : StOk (23 * pre.length) s) (h2 : j + pre.length = m) (h3 : Le H H') (h4 : getL H' b = some (txV pre)) (h5 : cert m one cs g (fgd fs) = pre ++ cert j s cs' g (fgd fs)) (h6 : σ = ⟨[some (plV cs' g), some (.int m), some (.lst a), some (stV (fgd fs)), some (stV s), some (.lst b), x6, none, none, none, none, none, none, none, none, none], [], H', false⟩)
section
variable {k : Nat} {cs : List Int} {g : Int} {H : AH} {Q : AV → AH → Prop} {X : Nat → AH → Prop}
theorem pressed_ok {ks : List Nat} {a : Addr} (p : PlanOk cs g) (hv : getL H a = some (txV ks)) (hl : ks.length ≤ 60) (ht : TxOk cs ks) (h : ∀ a fs H', H a = none → Le H H' → Figs (str one cs g ks) fs → getL H' a = some (txV fs) → Q (.lst a) H') : CallN TB (k + 6) F.pressed [plV cs g, .lst a] H false Q X := by
  refine ⟨rfl, ?_⟩
  simp only [D.pressed]
  walk_at "e"
  walk_at "w"
  refine stretch_of_ok p hv hl ht ?_
  walk_at "w"
  exact figures_in_ok (str_ok one_ok p ht) (by omega) h
end
end
section
/-! reading, the plain side -/
theorem Wi.trans {a b c : Sg} (h : Wi a b) (g : Wi b c) (ha : 0 ≤ a.t) (hb : 0 < b.t) (hc : 0 ≤ c.t) : Wi a c := by
  obtain ⟨h1, h2⟩ := h
  obtain ⟨g1, g2⟩ := g
  constructor
  · refine Int.le_of_mul_le_mul_right (a := b.t) ?_ hb
    have e1 := Int.mul_le_mul_of_nonneg_right g1 ha
    have e2 := Int.mul_le_mul_of_nonneg_right h1 hc
    calc c.l * a.t * b.t = c.l * b.t * a.t := Int.mul_right_comm ..
      _ ≤ b.l * c.t * a.t := e1
      _ = b.l * a.t * c.t := Int.mul_right_comm ..
      _ ≤ a.l * b.t * c.t := e2
      _ = a.l * c.t * b.t := Int.mul_right_comm ..
  · refine Int.le_of_mul_le_mul_right (a := b.t) ?_ hb
    have e1 := Int.mul_le_mul_of_nonneg_right g2 ha
    have e2 := Int.mul_le_mul_of_nonneg_right h2 hc
    calc (a.l + a.w) * c.t * b.t = (a.l + a.w) * b.t * c.t := Int.mul_right_comm ..
      _ ≤ (b.l + b.w) * a.t * c.t := e2
      _ = (b.l + b.w) * c.t * a.t := Int.mul_right_comm ..
      _ ≤ (c.l + c.w) * b.t * a.t := e1
      _ = (c.l + c.w) * a.t * b.t := Int.mul_right_comm ..
theorem StOk.t0 {n : Nat} {s : Sg} (h : StOk n s) : 0 < s.t := by have := h.l0; have := h.w1; have := h.lw; omega
theorem Wi.refl (s : Sg) : Wi s s := ⟨Int.le_refl _, Int.le_refl _⟩
theorem str_in {g : Int} : ∀ {ks : List Nat} {n : Nat} {s : Sg} {cs : List Int} (_ : StOk n s) (_ : PlanOk cs g) (_ : TxOk cs ks), Wi (str s cs g ks) s
  | [], _, s, _, _, _, _ => Wi.refl s
  | k :: ks, n, s, cs, h, p, t => by
    have hk := t k (.head _)
    have t' : TxOk (bhd cs g k) ks := TxOk.bhd fun j hj => t j (.tail _ hj)
    have s1 := h.stp p hk
    exact (str_in s1 (p.bhd hk) t').trans (stp_in h p hk) (Int.le_of_lt (str_ok s1 (p.bhd hk) t').t0) s1.t0 (Int.le_of_lt h.t0)
theorem blw_mono {cs : List Int} {g : Int} (p : PlanOk cs g) : ∀ {i j : Nat}, i ≤ j → j ≤ cs.length → blw cs i ≤ blw cs j
  | i, 0, h, _ => by rw [show i = 0 by omega]; exact Int.le_refl _
  | i, j + 1, h, hj => by
    rcases Nat.lt_or_ge j i with g | g
    · rw [show i = j + 1 by (clear hj; omega)]; exact Int.le_refl _
    · have := blw_mono p g (by (clear h g; omega))
      rw [blw_succ (by (clear h g this; omega))]
      have := p.cnt1 (k := j) (by (clear h g this; omega))
      (clear h hj g; omega)
theorem apart {n : Nat} {s o : Sg} {cs : List Int} {g : Int} {i j : Nat} (h : StOk n s) (p : PlanOk cs g) (hw : 1 ≤ o.w) (ht : 0 ≤ o.t) (hij : i < j) (hj : j < cs.length) (a : Wi o (stp s cs i)) (b : Wi o (stp s cs j)) : False := by
  have hi : i < cs.length := by (clear hw ht; omega)
  have T0 := (h.stp p hi).t0
  have h1 := a.2
  have h2 := b.1
  have e : (stp s cs i).l + (stp s cs i).w ≤ (stp s cs j).l := by
    show s.l * cs.sum + s.w * blw cs i + s.w * cnt cs i ≤ s.l * cs.sum + s.w * blw cs j
    have := blw_mono p (show i + 1 ≤ j by (clear hw ht hj hi T0 h1 h2; omega)) (by (clear hw ht hij hi T0 h1 h2; omega))
    rw [blw_succ hi] at this
    have := Int.mul_le_mul_of_nonneg_left this (show 0 ≤ s.w by have := h.w1; (clear hw ht hij hj hi T0 h1 h2; omega))
    rw [Int.mul_add] at this
    (clear hw ht hij hj hi T0 h1 h2; omega)
  have h3 := Int.mul_le_mul_of_nonneg_right e ht
  have h4 : (o.l + o.w) * (stp s cs i).t ≤ o.l * (stp s cs i).t := Int.le_trans h1 (Int.le_trans h3 h2)
  rw [Int.add_mul] at h4
  have h5 : 1 * (stp s cs i).t ≤ o.w * (stp s cs i).t := Int.mul_le_mul_of_nonneg_right hw (Int.le_of_lt T0)
  (clear hw ht hij hj hi h1 h2 e h3; omega)
theorem Figs.wi {s : Sg} {n : Nat} {fs : List Nat} (f : Figs s fs) (h : StOk n s) : Wi (fgd fs) s := by
  have t0 := h.t0
  constructor
  · show s.l * 2 ^ fs.length ≤ ((num fs : Nat) : Int) * s.t
    rw [f.val]; exact cl_le t0
  · show (((num fs : Nat) : Int) + 1) * s.t ≤ (s.l + s.w) * 2 ^ fs.length
    rw [f.val]; exact f.fit
theorem fgd_app {fs hs : List Nat} (hb : Bin hs) : Wi (fgd (fs ++ hs)) (fgd fs) := by
  have n1 := num_lt hb
  have e : (((fs ++ hs).length : Nat)) = fs.length + hs.length := by simp
  constructor
  · show ((num fs : Nat) : Int) * 2 ^ (fs ++ hs).length ≤ ((num (fs ++ hs) : Nat) : Int) * 2 ^ fs.length
    rw [num_app, e]
    have : num fs * 2 ^ (fs.length + hs.length) ≤ (num fs * 2 ^ hs.length + num hs) * 2 ^ fs.length := by
      rw [Nat.pow_add, Nat.add_mul, Nat.mul_assoc, Nat.mul_comm (2 ^ hs.length)]; (clear n1 e; omega)
    exact_mod_cast this
  · show (((num (fs ++ hs) : Nat) : Int) + 1) * 2 ^ fs.length ≤ (((num fs : Nat) : Int) + 1) * 2 ^ (fs ++ hs).length
    rw [num_app, e]
    have : (num fs * 2 ^ hs.length + num hs + 1) * 2 ^ fs.length ≤ (num fs + 1) * 2 ^ (fs.length + hs.length) := by
      rw [Nat.pow_add, Nat.mul_comm (2 ^ fs.length), ← Nat.mul_assoc]
      refine Nat.mul_le_mul_right _ ?_
      rw [Nat.add_mul]; (clear e; omega)
    exact_mod_cast this
section
variable {k : Nat} {cs : List Int} {g : Int} {H : AH} {Q : AV → AH → Prop} {X : Nat → AH → Prop}
theorem whole_comp {iv : AV} {vs : List AV} {l : List (Option AV)} {K : List AV → AS → Prop} (hs : src H iv = some vs) : ∀ (xs : List Int) (n : Nat) (y z : Option AV) (w : List (Option AV)) (_ : n + xs.length ≤ 100000)
    (_ : ∀ w, K ((List.replicate (n + xs.length) true).map .bool) ⟨l, w, H, false⟩),
    COMP TB (CallN TB (k + 1)) (.call (.gfn F.l_whole) [(.cv 1)]) (.cv 1) [] iv vs (xs.map .int) ((List.replicate n true).map .bool) ⟨l, y :: z :: w, H, false⟩ K
  | [], n, y, z, w, _, h => COMP_nil hs (by simpa using h _)
  | x :: xs, n, y, z, w, hl, h => by
    refine COMP_cons hs ?_
    walk_at "w"
    refine l_whole_ok ?_
    walk_at "v"
    simp only [List.length_cons] at hl
    refine ⟨by simp [Small]; omega, ?_⟩
    have e : (List.replicate n true).map AV.bool ++ [AV.bool true] = (List.replicate (n + 1) true).map AV.bool := by rw [List.replicate_succ']; simp
    rw [e]
    refine whole_comp hs xs (n + 1) _ _ _ (by omega) fun w => ?_
    have := h w
    rw [List.length_cons, show n + (xs.length + 1) = n + 1 + xs.length by (clear hl; omega)] at this
    exact this
/-- all (l_whole (x) for x in xs), as a list first -/
theorem whole_all {iv : AV} {xs : List Int} {l : List (Option AV)} {R : AV → AS → Prop} (hs : src H iv = some (xs.map .int)) (hl : xs.length ≤ 100000) (h : ∀ a, H a = none → R (.bool true) ⟨l, [], H.upd a (.lst ((List.replicate xs.length true).map .bool)), false⟩) :
    COMP TB (CallN TB (k + 1)) (.call (.gfn F.l_whole) [(.cv 1)]) (.cv 1) [] iv (xs.map .int) (xs.map .int) [] ⟨l, [none, none, none], H, false⟩ (compK [] fun v σ => biW Bi.all [v] σ R) := by
  refine whole_comp hs xs 0 _ _ _ (by omega) fun w a ha => ?_
  dsimp only
  rw [k_all, getL_self, need_some, bools_map, need_some, Nat.zero_add, show (List.replicate xs.length true).all id = true by simp]
  exact h a ha
end
end
section
/-! what is refused -/
noncomputable def NotAm (H : AH) (l m : Int) : AV → Prop
  | .int x => ¬ (l ≤ x ∧ x ≤ m)
  | .bool _ => True
  | .str _ => True
  | .none => True
  | .tup _ => True
  | .lst a => ∃ vs, getL H a = some vs
  | _ => False
theorem NotAm.le {H H' : AH} {l m : Int} (h : Le H H') : ∀ {v : AV}, NotAm H l m v → NotAm H' l m v
  | .int _, g => g
  | .bool _, g => g
  | .str _, g => g
  | .none, g => g
  | .tup _, g => g
  | .lst _, ⟨vs, g⟩ => ⟨vs, getL_le h g⟩
/-- is no plan -/
inductive BadPl (H : AH) : AV → Prop
  | non : BadPl H .none
  | lst {a : Addr} {vs : List AV} (h : getL H a = some vs) : BadPl H (.lst a)
  | one (v : AV) : BadPl H (.tup [v])
  | inl {a : Addr} {vs : List AV} {g : AV} (h : getL H a = some vs) : BadPl H (.tup [.lst a, g])
  | len {vs : List AV} {g : AV} (h : vs.length < 2 ∨ 8 < vs.length) : BadPl H (.tup [.tup vs, g])
  | cnt {cs : List Int} {b : AV} {r : List AV} {g : AV} (h : ∀ c ∈ cs, 1 ≤ c ∧ c ≤ 1000000) (h2 : 2 ≤ (cs.map AV.int ++ b :: r).length) (h8 : (cs.map AV.int ++ b :: r).length ≤ 8) (hb : NotAm H 1 1000000 b) : BadPl H (.tup [.tup (cs.map .int ++ b :: r), g])
  | gain {cs : List Int} {g : AV} (h : ∀ c ∈ cs, 1 ≤ c ∧ c ≤ 1000000) (h2 : 2 ≤ cs.length) (h8 : cs.length ≤ 8) (hb : NotAm H 0 1000000 g) : BadPl H (.tup [.tup (cs.map .int), g])
theorem BadPl.le {H H' : AH} (l : Le H H') {v : AV} (h : BadPl H v) : BadPl H' v := by
  cases h with
  | non => exact .non
  | lst h => exact .lst (getL_le l h)
  | one v => exact .one v
  | inl h => exact .inl (getL_le l h)
  | len h => exact .len h
  | cnt h h2 h8 hb => exact .cnt h h2 h8 (hb.le l)
  | gain h h2 h8 hb => exact .gain h h2 h8 (hb.le l)
section
variable {k : Nat} {cs : List Int} {g : Int} {H : AH} {Q : AV → AH → Prop} {X : Nat → AH → Prop}
theorem is_among_no {v : AV} {l m : Int} (hb : NotAm H l m v) (h : Q (.bool false) H) : CallN TB (k + 1) F.is_among [v, .int l, .int m] H false Q X := by
  cases v with
  | int x => exact is_among_int (by rw [show decide (l ≤ x ∧ x ≤ m) = false from decide_eq_false hb]; exact h)
  | bool _ => refine ⟨rfl, ?_⟩; simp only [D.is_among]; walk_at "e"; walk_at "w"; exact h
  | str _ => refine ⟨rfl, ?_⟩; simp only [D.is_among]; walk_at "e"; walk_at "w"; exact h
  | none => refine ⟨rfl, ?_⟩; simp only [D.is_among]; walk_at "e"; walk_at "w"; exact h
  | tup _ => refine ⟨rfl, ?_⟩; simp only [D.is_among]; walk_at "e"; walk_at "w"; exact h
  | lst a => obtain ⟨vs, hv⟩ := hb; refine ⟨rfl, ?_⟩; simp only [D.is_among]; walk_at "e"; walk_at "w"; rw [hv]; exact h
  | _ => exact hb.elim
theorem is_plan_loop_no {b p : AV} {vs r : List AV} {QS : Out → AS → Prop} {XS : Nat → AS → Prop} (hb : NotAm H 1 1000000 b) : ∀ (cs : List Int) (x : Option AV) (_ : ∀ c ∈ cs, 1 ≤ c ∧ c ≤ 1000000) (_ : ∀ y, QS (.ret (.bool false)) ⟨[some (.tup [.tup vs, p]), y, none, none, none, none, none, none, none], [], H, false⟩),
    FOR TB (CallN TB (k + 1)) (.loc 1) [.ite (.not (.e (.call (.gfn F.is_among) [(.loc 1), (.cInt 1), (.gint 1000000)]))) [.ret (.cBool false)] []] (.tup vs) vs (cs.map .int ++ b :: r) ⟨[some (.tup [.tup vs, p]), x, none, none, none, none, none, none, none], [], H, false⟩ QS XS
  | [], x, _, h => by
    refine FOR_cons rfl ?_
    walk_at "w"
    refine is_among_no hb ?_
    walk_at "w"
    exact h _
  | c :: cs, x, hc, h => by
    refine FOR_cons rfl ?_
    walk_at "w"
    refine is_among_int ?_
    walk_at "v"
    have := hc c (.head _)
    rw [show decide (1 ≤ c ∧ c ≤ 1000000) = true by simp [this]]
    walk_at "w"
    exact is_plan_loop_no hb cs _ (fun d hd => hc d (.tail _ hd)) h
theorem is_plan_loop' {k : Nat} {vs : List AV} {p : AV} {Q : Out → AS → Prop} {X : Nat → AS → Prop} (cs : List Int) (x : Option AV) (h1 : ∀ c ∈ cs, 1 ≤ c ∧ c ≤ 1000000) (h : ∀ y, Q .next ⟨[some (.tup [.tup vs, p]), y, none, none, none, none, none, none, none], [], H, false⟩) :
    FOR TB (CallN TB (k + 1)) (.loc 1) [.ite (.not (.e (.call (.gfn F.is_among) [(.loc 1), (.cInt 1), (.gint 1000000)]))) [.ret (.cBool false)] []] (.tup vs) vs (cs.map .int) ⟨[some (.tup [.tup vs, p]), x, none, none, none, none, none, none, none], [], H, false⟩ Q X := is_plan_loop cs x h1 h
theorem is_plan_no {v : AV} (hb : BadPl H v) (h : Q (.bool false) H) : CallN TB (k + 2) F.is_plan [v] H false Q X := by
  refine ⟨rfl, ?_⟩
  simp only [D.is_plan]
  walk_at "e"
  walk_at "v"
  cases hb with
  | non => walk_at "w"; exact h
  | lst g => walk_at "w"; rw [g]; exact h
  | one v => walk_at "w"; rw [if_pos (by simp)]; exact h
  | inl g => walk_at "w"; rw [if_neg (by simp), g]; exact h
  | len g =>
    walk_at "w"
    rw [if_neg (by simp)]
    rcases g with g | g
    · rw [if_neg (by simp; omega)]; exact h
    · rw [if_pos (by simp; omega), if_pos (by simp; omega)]; exact h
  | cnt g h2 h8 hb =>
    walk_at "w"
    rw [if_neg (by simp), if_pos (by simp at h2 ⊢; (clear h8; omega)), if_neg (by simp at h8 ⊢; (clear h2; omega))]
    exact is_plan_loop_no hb _ _ g fun y => h
  | gain g h2 h8 hb =>
    walk_at "w"
    rw [if_neg (by simp), if_pos (by simp at h2 ⊢; omega), if_neg (by simp at h8 ⊢; omega)]
    refine is_plan_loop' _ _ g fun y => ?_
    walk_at "w"
    exact is_among_no hb h
theorem need_plan_no {v : AV} (hb : BadPl H v) (h : X Cl.BadPlan H) : CallN TB (k + 3) F.need_plan [v] H false Q X := by
  refine ⟨rfl, ?_⟩
  simp only [D.need_plan]
  walk_at "e"
  walk_at "w"
  refine is_plan_no hb ?_
  walk_at "w"
  exact h
theorem need_sign_no {v : AV} (hb : NotAm H 0 (cs.length - 1) v) (h : X Cl.BadSign H) : CallN TB (k + 2) F.need_sign [plV cs g, v] H false Q X := by
  refine ⟨rfl, ?_⟩
  simp only [D.need_sign, plV]
  walk_at "e"
  walk_at "w"
  rw [show ((List.map AV.int cs).length : Int) = cs.length by simp]
  refine is_among_no hb ?_
  walk_at "w"
  exact h
/-- is no text of such a plan -/
inductive BadTx (H : AH) (n : Nat) : AV → Prop
  | non : BadTx H n .none
  | int (x : Int) : BadTx H n (.int x)
  | str (x : Str) : BadTx H n (.str x)
  | tup (x : List AV) : BadTx H n (.tup x)
  | len {a : Addr} {vs : List AV} (h : getL H a = some vs) (hl : 60 < vs.length) : BadTx H n (.lst a)
  | sgn {a : Addr} {ks : List Nat} {b : AV} {r : List AV} (h : getL H a = some (txV ks ++ b :: r)) (hk : ∀ k ∈ ks, k < n) (hb : NotAm H 0 (n - 1) b) (hl : (txV ks ++ b :: r).length ≤ 60) : BadTx H n (.lst a)
theorem BadTx.le {H H' : AH} {n : Nat} (l : Le H H') {v : AV} (h : BadTx H n v) : BadTx H' n v := by
  cases h with
  | non => exact .non
  | int x => exact .int x
  | str x => exact .str x
  | tup x => exact .tup x
  | len h hl => exact .len (getL_le l h) hl
  | sgn h hk hb hl => exact .sgn (getL_le l h) hk (hb.le l) hl
theorem need_signs_loop_no {vs r : List AV} {b : AV} {a : Addr} {Q : Out → AS → Prop} {X : Nat → AS → Prop} (hv : getL H a = some vs) (hb : NotAm H 0 (cs.length - 1) b) : ∀ (ks : List Nat) (x : Option AV) (_ : TxOk cs ks) (_ : ∀ y, X Cl.BadSign ⟨[some (plV cs g), some (.lst a), y, none, none, none, none, none, none, none], [], H, false⟩),
    FOR TB (CallN TB (k + 2)) (.loc 2) [.expr (.call (.gfn F.need_sign) [(.loc 0), (.loc 2)])] (.lst a) vs (txV ks ++ b :: r) ⟨[some (plV cs g), some (.lst a), x, none, none, none, none, none, none, none], [], H, false⟩ Q X
  | [], x, _, h => by
    refine FOR_cons hv ?_
    walk_at "w"
    exact need_sign_no hb (h _)
  | s :: ks, x, hc, h => by
    refine FOR_cons hv ?_
    walk_at "w"
    refine need_sign_ok (hc s (.head _)) ?_
    walk_at "w"
    exact need_signs_loop_no hv hb ks _ (fun d hd => hc d (.tail _ hd)) h
theorem need_signs_no {v : AV} (p : PlanOk cs g) (hb : BadTx H cs.length v) (h : X Cl.BadSign H) : CallN TB (k + 4) F.need_signs [plV cs g, v] H false Q X := by
  refine ⟨rfl, ?_⟩
  simp only [D.need_signs]
  walk_at "e"
  walk_at "v"
  refine need_plan_ok p ?_
  walk_at "v"
  cases hb with
  | non => walk_at "v"; exact h
  | int x => walk_at "v"; exact h
  | str x => walk_at "v"; exact h
  | tup x => walk_at "v"; exact h
  | len hv hl =>
    walk_at "v"
    simp only [hv]
    walk_at "v"
    rw [if_pos (by simp; omega)]
    walk_at "v"
    exact h
  | sgn hv hk hb hl =>
    walk_at "v"
    simp only [hv]
    walk_at "v"
    rw [if_neg (by simp at hl ⊢; omega)]
    walk_at "v"
    try simp only [hv]
    walk_at "v"
    exact need_signs_loop_no hv hb _ _ hk fun y => h
end
end
section
/-! allocations as steps -/
section
variable {H : AH} {l c : List (Option AV)} {hd : Bool} {Q : AV → AS → Prop}
theorem new_ok {vs : List AV} (hs : vs.length ≤ 1000000) (h : ∀ a H', H a = none → Le H H' → getL H' a = some vs → Q (.lst a) ⟨l, c, H', hd⟩) : newL vs ⟨l, c, H, hd⟩ Q :=
  ⟨hs, fun a n => h a _ n ((Le.refl H).new n) (getL_self _ _ _)⟩
theorem add_ok {p q : Addr} {xs ys : List AV} (ga : getL H p = some xs) (gb : getL H q = some ys) (hs : (xs ++ ys).length ≤ 1000000) (h : ∀ a H', H a = none → Le H H' → getL H' a = some (xs ++ ys) → Q (.lst a) ⟨l, c, H', hd⟩) : binW .add (.lst p) (.lst q) ⟨l, c, H, hd⟩ Q := by
  rw [k_addl, ga, gb]
  exact new_ok hs h
theorem mull_ok {p : Addr} {n : Int} {xs : List AV} (ga : getL H p = some xs) (h0 : 0 ≤ n) (h1 : n ≤ 1000000) (hs : (List.replicate n.toNat xs).flatten.length ≤ 1000000) (h : ∀ a H', H a = none → Le H H' → getL H' a = some (List.replicate n.toNat xs).flatten → Q (.lst a) ⟨l, c, H', hd⟩) : binW .mul (.lst p) (.int n) ⟨l, c, H, hd⟩ Q := by
  rw [k_mull, ga]
  exact ⟨h0, h1, new_ok hs h⟩
theorem tolist_ok {b : Addr} {vs : List AV} (g : getL H b = some vs) (hs : vs.length ≤ 1000000) (h : ∀ a H', H a = none → Le H H' → getL H' a = some vs → Q (.lst a) ⟨l, c, H', false⟩) : tyW Ty.list [.lst b] ⟨l, c, H, false⟩ Q := by
  rw [k_yll, g]
  exact new_ok hs h
theorem tolist_t {vs : List AV} (hs : vs.length ≤ 1000000) (h : ∀ a H', H a = none → Le H H' → getL H' a = some vs → Q (.lst a) ⟨l, c, H', false⟩) : tyW Ty.list [.tup vs] ⟨l, c, H, false⟩ Q := by
  rw [k_ylt]
  exact new_ok hs h
theorem slcl_ok {b : Addr} {vs r : List AV} {lo hi : AV} (g : getL H b = some vs) (pl : placeV lo) (ph : placeV hi) (hc : cut vs lo hi = some r) (hs : r.length ≤ 1000000) (h : ∀ a H', H a = none → Le H H' → getL H' a = some r → Q (.lst a) ⟨l, c, H', hd⟩) : slcW (.lst b) lo hi ⟨l, c, H, hd⟩ Q := by
  rw [k_sll, g, need_some, hc]
  exact ⟨pl, ph, new_ok hs h⟩
end
/-! the word of an exception -/
noncomputable def wd (c : Nat) : Str := match c with
  | 1 => Str.ofString "plan"
  | 2 => Str.ofString "sign"
  | 3 => Str.ofString "count"
  | 4 => Str.ofString "figures"
  | _ => Str.ofString "ended"
theorem join_one (x : Str) : PySem.Txt.join (Str.ofString " ") [x] = x := rfl
section
variable {k : Nat} {cs : List Int} {g : Int} {H : AH} {Q : AV → AH → Prop} {X : Nat → AH → Prop}
noncomputable def bitW (b : Bool) (s : Str) : List AV := if b then [.str s] else []
theorem bit_len (b : Bool) (s : Str) : (bitW b s).length ≤ 1 := by cases b <;> exact Nat.le_of_ble_eq_true rfl
theorem le_bit {xs : List AV} {n : Nat} {b : Bool} {s : Str} (h : xs.length ≤ n) : (xs ++ bitW b s).length ≤ n + 1 := by rw [List.length_append]; exact Nat.add_le_add h (bit_len b s)
theorem five {c : Nat} (hc : 1 ≤ c ∧ c ≤ 5) : c = 1 ∨ c = 2 ∨ c = 3 ∨ c = 4 ∨ c = 5 := by omega
theorem isi_cls {c : Nat} {e : Addr} (hc : 1 ≤ c ∧ c ≤ 5) {kk : Nat} (hk : Nat.ble kk 5 = true) : isi (.exc c e) (.cls kk) = some (subCls c kk) := by
  show (if Nat.ble c 5 && Nat.ble kk 5 then some (subCls c kk) else none) = _
  rw [hk, Nat.ble_eq_true_of_le hc.2]; rfl
theorem isi_val {c : Nat} {e : Addr} (hc : 1 ≤ c ∧ c ≤ 5) : isi (.exc c e) (.typ Ty.valueError) = some true := by
  rcases five hc with h | h | h | h | h <;> subst h <;> rfl
theorem wd_key {c : Nat} (hc : 1 ≤ c ∧ c ≤ 5) : bitW (subCls c 1) (Str.ofString "plan") ++ bitW (subCls c 2) (Str.ofString "sign") ++ bitW (subCls c 3) (Str.ofString "count") ++ bitW (subCls c 4) (Str.ofString "figures") ++ bitW (subCls c 5) (Str.ofString "ended") = [.str (wd c)] := by
  rcases five hc with h | h | h | h | h <;> subst h <;> rfl
theorem wd_sm {c : Nat} (hc : 1 ≤ c ∧ c ≤ 5) : ([wd c].map (·.length)).sum + [wd c].length ≤ 1000 := by
  rcases five hc with h | h | h | h | h <;> subst h <;> decide
theorem word_step {T : Tab} {hk : Hook} {c kk : Nat} {b : Bool} {s : Str} {e : Addr} {r cv : List (Option AV)} {hd : Bool} {Q : AV → AS → Prop} {X : Nat → AS → Prop} (hi : isi (.exc c e) (.cls kk) = some b) (h : ∀ a H', Le H H' → getL H' a = some (bitW b s) → Q (.lst a) ⟨some (.exc c e) :: r, cv, H', hd⟩) :
    WE T hk (.bin .mul (.lst [(.cStr s)]) (.call (.gty Ty.int) [(.call (.gbi Bi.isinstance) [(.loc 0), (.gcls kk)])])) ⟨some (.exc c e) :: r, cv, H, hd⟩ Q X := by
  walk_at "v"
  refine new_ok (Nat.le_of_ble_eq_true rfl) fun a1 H1 n1 l1 g1 => ?_
  walk_at "v"
  refine ⟨rfl, ?_⟩
  rw [hi]
  walk_at "v"
  refine mull_ok g1 (by cases b <;> decide) (by cases b <;> decide) (by cases b <;> exact Nat.le_of_ble_eq_true rfl) fun a2 H2 n2 l2 g2 => h a2 H2 (l1.trans l2) ?_
  rw [g2]; cases b <;> rfl
/-- a further word behind -/
theorem word_more {T : Tab} {hk : Hook} {c kk n : Nat} {b : Bool} {s : Str} {e p : Addr} {xs : List AV} {r cv : List (Option AV)} {hd : Bool} {Q : AV → AS → Prop} {X : Nat → AS → Prop} (hi : isi (.exc c e) (.cls kk) = some b) (g : getL H p = some xs) (hx : xs.length ≤ n) (hn : n ≤ 9) (h : ∀ a H', Le H H' → getL H' a = some (xs ++ bitW b s) → Q (.lst a) ⟨some (.exc c e) :: r, cv, H', hd⟩) :
    WE T hk (.bin .mul (.lst [(.cStr s)]) (.call (.gty Ty.int) [(.call (.gbi Bi.isinstance) [(.loc 0), (.gcls kk)])])) ⟨some (.exc c e) :: r, cv, H, hd⟩ (fun y σ₂ => binW .add (.lst p) y σ₂ Q) X :=
  word_step hi fun _ _ l2 g2 => add_ok (getL_le l2 g) g2 (Nat.le_trans (le_bit hx) (Nat.le_trans (Nat.add_le_add_right hn 1) (by decide))) fun a3 H3 _ l3 g3 => h a3 H3 (l2.trans l3) g3
theorem l_word_ok {c : Nat} {e : Addr} (hc : 1 ≤ c ∧ c ≤ 5) (h : ∀ a H', H a = none → Le H H' → getL H' a = some [.str (wd c)] → Q (.lst a) H') : CallN TB (k + 1) F.l_word [.exc c e] H true Q X := by
  refine ⟨rfl, ?_⟩
  simp only [D.l_word]
  walk_at "e"
  rw [ss_cons, s_asg, e_bin]
  refine word_step (isi_cls hc rfl) fun a1 H1 l1 g1 => ?_
  refine word_more (isi_cls hc rfl) g1 (bit_len _ _) (by decide) fun a3 H3 l3 g3 => ?_
  rw [k_asg]
  simp only [k_sg0, k_sgS]
  rw [ss_cons, s_asg, e_bin, e_bin]
  rw [k_loc, k_lgS, k_lg0]
  refine word_more (isi_cls hc rfl) g3 (le_bit (bit_len _ _)) (by decide) fun a5 H5 l5 g5 => ?_
  refine word_more (isi_cls hc rfl) g5 (le_bit (le_bit (bit_len _ _))) (by decide) fun a7 H7 l7 g7 => ?_
  rw [k_asg]
  simp only [k_sg0, k_sgS]
  rw [ss_cons, s_ret, e_lst, es_cons, e_bin, e_meth, e_cStr]
  refine ⟨rfl, ?_⟩
  rw [es_cons, e_bin, k_loc, k_lgS, k_lg0]
  refine word_more (isi_cls hc rfl) g7 (le_bit (le_bit (le_bit (bit_len _ _)))) (by decide) fun a9 H9 l9 g9 => ?_
  have L9 : Le H H9 := l1.trans (l3.trans (l5.trans (l7.trans l9)))
  rw [wd_key hc] at g9
  rw [es_nil, k_join, g9]
  refine ⟨rfl, rfl, wd_sm hc, ?_⟩
  rw [join_one]
  walk_at "v"
  refine ⟨rfl, ?_⟩
  rw [isi_val hc]
  walk_at "v"
  exact .inl ⟨rfl, new_ok (Nat.le_of_ble_eq_true rfl) fun a10 H10 n10 l10 g10 => h a10 H10 (L9.none n10) (L9.trans l10) g10⟩
end
end
section
section
variable {k : Nat} {cs : List Int} {g : Int} {H : AH} {Q : AV → AH → Prop} {X : Nat → AH → Prop}
theorem np_comp1 {cs : List Int} {at_ : Int} {x0 x1 x3 x4 : Option AV} {r : List (Option AV)} {iv : AV} {vs : List AV} {hk : Hook} {K : List AV → AS → Prop} (hs : src H iv = some vs) (h0 : 0 ≤ at_) (h1 : at_ < cs.length) (h8 : cs.length ≤ 8) : ∀ (bs : List AV) (acc : List AV) (y z : Option AV) (w : List (Option AV)) (_ : acc.length + bs.length ≤ 1000)
    (_ : ∀ w, K (acc ++ bs.map fun b => .tup ((cs.take at_.toNat).map .int ++ b :: (cs.drop (at_.toNat + 1)).map .int)) ⟨x0 :: x1 :: some (.tup (cs.map .int)) :: x3 :: x4 :: some (.int at_) :: r, w, H, false⟩),
    COMP TB hk (.bin .add (.bin .add (.slc (.loc 2) .cNone (.loc 5)) (.tup [(.cv 1)])) (.slc (.loc 2) (.bin .add (.loc 5) (.cInt 1)) .cNone)) (.cv 1) [] iv vs bs acc ⟨x0 :: x1 :: some (.tup (cs.map .int)) :: x3 :: x4 :: some (.int at_) :: r, y :: z :: w, H, false⟩ K
  | [], acc, y, z, w, _, h => COMP_nil hs (by simpa using h _)
  | b :: bs, acc, y, z, w, hl, h => by
    refine COMP_cons hs ?_
    walk_at "v"
    rw [cut_ni (by (clear h1 h8 hl; omega)), cut_in (by (clear h1 h8 hl; omega))]
    simp only [List.length_cons] at hl
    refine ⟨⟨by (clear h1 h8 hl; omega), by (clear h0 hl; omega)⟩, ?_⟩
    walk_at "v"
    refine ⟨by simp, by simp [Small]; (clear hl; omega), ⟨by (clear h1 h8 hl; omega), by (clear h0 hl; omega)⟩, by simp [Small]; (clear hl; omega), by simp [Small]; (clear h0 h1 h8; omega), ?_⟩
    have e : List.take at_.toNat (cs.map AV.int) ++ [b] ++ List.drop (at_ + 1).toNat (cs.map AV.int) = (cs.take at_.toNat).map .int ++ b :: (cs.drop (at_.toNat + 1)).map .int := by
      rw [show (at_ + 1).toNat = at_.toNat + 1 by (clear h1 h8 hl; omega)]; simp [List.map_take, List.map_drop]
    rw [e]
    refine np_comp1 hs h0 h1 h8 bs _ _ _ _ (by simp; (clear h0 h1 h8; omega)) fun w => ?_
    simpa using h w
theorem np_comp2 {x0 x1 x2 : Option AV} {gv : AV} {r : List (Option AV)} {iv : AV} {vs : List AV} {hk : Hook} {K : List AV → AS → Prop} (hs : src H iv = some vs) : ∀ (bs : List AV) (acc : List AV) (y z : Option AV) (w : List (Option AV)) (_ : acc.length + bs.length ≤ 1000)
    (_ : ∀ w, K (acc ++ bs.map fun b => .tup [b, gv]) ⟨x0 :: x1 :: x2 :: some gv :: r, w, H, false⟩),
    COMP TB hk (.tup [(.cv 1), (.loc 3)]) (.cv 1) [] iv vs bs acc ⟨x0 :: x1 :: x2 :: some gv :: r, y :: z :: w, H, false⟩ K
  | [], acc, y, z, w, _, h => COMP_nil hs (by simpa using h _)
  | b :: bs, acc, y, z, w, hl, h => by
    refine COMP_cons hs ?_
    walk_at "v"
    simp only [List.length_cons] at hl
    refine ⟨by simp, by simp [Small]; omega, ?_⟩
    refine np_comp2 hs bs _ _ _ _ (by simp; omega) fun w => ?_
    simpa using h w
theorem l_no_plan_ok {c : Int} (p : PlanOk cs g) (h : ∀ v H', Le H H' → BadPl H' v → Q v H') : CallN TB (k + 1) F.l_no_plan [plV cs g, .int c] H false Q X := by
  refine ⟨rfl, ?_⟩
  have l8 := p.l8; have l2 := p.l2
  simp only [D.l_no_plan, plV]
  walk_at "e"
  walk_at "v"
  have lm : ((List.map AV.int cs).length : Int) = cs.length := by simp
  rw [lm]
  have m0 := Int.emod_nonneg (c / 14) (show (cs.length : Int) ≠ 0 by omega)
  have m1 := Int.emod_lt_of_pos (c / 14) (show 0 < (cs.length : Int) by (clear m0; omega))
  have f0 := Int.emod_nonneg (c / 14) (show (100000000000000000000 : Int) ≠ 0 by decide)
  refine ⟨div_s (by decide) (by decide), by decide, div_s (by decide) (by decide), by (clear m0 m1 f0; omega), ?_⟩
  generalize c / 14 % 100000000000000000000 = far at f0 ⊢
  generalize c / 14 % (cs.length : Int) = at_ at m0 m1 ⊢
  refine new_ok (by simp) fun a1 H1 n1 l1 g1 => ?_
  walk_at "v"
  rw [g1]
  refine np_comp1 (iv := .lst a1) g1 m0 m1 l8 _ [] _ _ _ (by simp) fun w => compK_ok fun a2 H2 n2 l2' g2 => ?_
  walk_at "v"
  rw [g2]
  refine np_comp2 (iv := .lst a2) g2 _ [] _ _ _ (by simp) fun w => compK_ok fun a3 H3 n3 l3 g3 => ?_
  walk_at "v"
  refine ⟨by decide, by decide, by decide, ?_⟩
  refine tolist_t (by simp; (clear f0 m0 m1; omega)) fun a4 H4 n4 l4 g4 => ?_
  walk_at "v"
  refine ⟨by decide, ?_⟩
  refine new_ok (by simp) fun a5 H5 n5 l5 g5 => ?_
  walk_at "v"
  refine add_ok (getL_le (l4.trans l5) g3) g5 (by simp) fun a6 H6 n6 l6 g6 => ?_
  walk_at "v"
  refine new_ok (by simp) fun a7 H7 n7 l7 g7 => ?_
  walk_at "v"
  rw [cut_ni (by decide)]
  refine ⟨by decide, ⟨by decide, by decide⟩, ?_⟩
  walk_at "v"
  refine ⟨by decide, by decide, by decide, by decide, by simp, by decide, by decide, ?_⟩
  refine new_ok (by simp) fun a8 H8 n8 l8' g8 => ?_
  walk_at "v"
  refine add_ok (getL_le (l7.trans l8') g6) g8 (by simp) fun a9 H9 n9 l9 g9 => ?_
  walk_at "v"
  have c0 := Int.emod_nonneg c (show (14 : Int) ≠ 0 by decide)
  have c1 := Int.emod_lt_of_pos c (show (0 : Int) < 14 by decide)
  refine ⟨by decide, idx_any c0 (by simpa using c1) (by simp) g9 fun v hv => h v H9 (l1.trans (l2'.trans (l3.trans (l4.trans (l5.trans (l6.trans (l7.trans (l8'.trans l9)))))))) ?_⟩
  have tk : ∀ c ∈ cs.take at_.toNat, 1 ≤ c ∧ c ≤ 1000000 := fun c hc => p.cnt c (List.mem_of_mem_take hc)
  have len : ∀ b : AV, ((cs.take at_.toNat).map AV.int ++ b :: (cs.drop (at_.toNat + 1)).map AV.int).length = cs.length := fun b => by simp; (clear f0 c0 c1; omega)
  have bad : ∀ b : AV, NotAm H9 1 1000000 b → BadPl H9 (.tup [.tup ((cs.take at_.toNat).map AV.int ++ b :: (cs.drop (at_.toNat + 1)).map AV.int), .int g]) := fun b hb => .cnt tk (by rw [len]; exact l2) (by rw [len]; exact l8) hb
  simp only [List.nil_append, List.map_cons, List.map_nil, List.cons_append, List.mem_cons, List.not_mem_nil, or_false] at hv
  rcases hv with e | e | e | e | e | e | e | e | e | e | e | e | e | e <;> rw [e]
  · exact bad _ (by simp [NotAm])
  · exact bad _ (by simp [NotAm]; (clear l8 l2 lm m0 m1 c0 c1; omega))
  · exact bad _ trivial
  · exact bad _ trivial
  · exact bad _ trivial
  · exact bad _ (by simp [NotAm]; (clear l8 l2 lm m0 m1 c0 c1; omega))
  · exact .gain p.cnt l2 l8 (by simp [NotAm])
  · exact .gain p.cnt l2 l8 (by simp [NotAm]; (clear l8 l2 lm m0 m1 c0 c1; omega))
  · exact .gain p.cnt l2 l8 trivial
  · exact .inl (getL_le (l5.trans (l6.trans (l7.trans (l8'.trans l9)))) g4)
  · exact .lst (getL_le (l8'.trans l9) g7)
  · exact .one _
  · exact .len (.inl (by simp; (clear f0 m0 m1 c0 c1; omega)))
  · exact .len (.inr (by decide))
end
end
section
/-- are no figures -/
inductive BadFg (H : AH) : AV → Prop
  | non : BadFg H .none
  | int (x : Int) : BadFg H (.int x)
  | str (x : Str) : BadFg H (.str x)
  | tup (x : List AV) : BadFg H (.tup x)
  | len {a : Addr} {vs : List AV} (h : getL H a = some vs) (hl : 4000 < vs.length) : BadFg H (.lst a)
  | fig {a : Addr} {fs : List Nat} {b : AV} {r : List AV} (h : getL H a = some (txV fs ++ b :: r)) (hk : Bin fs) (hb : NotAm H 0 1 b) (hl : (txV fs ++ b :: r).length ≤ 4000) : BadFg H (.lst a)
theorem BadFg.le {H H' : AH} (l : Le H H') {v : AV} (h : BadFg H v) : BadFg H' v := by
  cases h with
  | non => exact .non
  | int x => exact .int x
  | str x => exact .str x
  | tup x => exact .tup x
  | len h hl => exact .len (getL_le l h) hl
  | fig h hk hb hl => exact .fig (getL_le l h) hk (hb.le l) hl
section
variable {k : Nat} {cs : List Int} {g : Int} {H : AH} {Q : AV → AH → Prop} {X : Nat → AH → Prop}
end
end
section
inductive InvL (cs : List Int) (g : Int) (m : Nat) (fs : List Nat) (a b : Addr) (H : AH) (j : Nat) (σ : AS) : Prop
  | mk (cs' : List Int) (s : Sg) (pre : List Nat) (H' : AH) (x6 x7 x8 x9 x10 : Option AV) (h0 : PlanOk cs' g) (h1 : StOk (23 * pre.length) s) (h2 : j + pre.length = m) (h3 : Le H H') (h4 : getL H' b = some (txV pre)) (h5 : cert m one cs g (fgd fs) = pre ++ cert j s cs' g (fgd fs)) (h6 : σ = ⟨[some (plV cs' g), some (.int m), some (.lst a), some (stV (fgd fs)), some (.lst b), some (stV s), x6, x7, x8, x9, x10, none, none, none, none, none, none], [], H', false⟩)
section
variable {k : Nat} {cs : List Int} {g : Int} {H : AH} {Q : AV → AH → Prop} {X : Nat → AH → Prop}
theorem idx_p0 (σ : AS) (R : AV → AS → Prop) : idxW (plV cs g) (.int 0) σ R = R (.tup (cs.map .int)) σ := idx_t0 ..
end
end
section
/-! stretches that stand one before the other -/
noncomputable def Bef (a b : Sg) : Prop := (a.l + a.w) * b.t ≤ b.l * a.t
/-- x / p ≤ y / q ≤ z / r -/
theorem frac {x p y q z r : Int} (h : x * q ≤ y * p) (g : y * r ≤ z * q) (q0 : 0 < q) (p0 : 0 ≤ p) (r0 : 0 ≤ r) : x * r ≤ z * p := by
  refine Int.le_of_mul_le_mul_right (a := q) ?_ q0
  have e1 := Int.mul_le_mul_of_nonneg_right h r0
  have e2 := Int.mul_le_mul_of_nonneg_right g p0
  calc x * r * q = x * q * r := Int.mul_right_comm ..
    _ ≤ y * p * r := e1
    _ = y * r * p := Int.mul_right_comm ..
    _ ≤ z * q * p := e2
    _ = z * p * q := Int.mul_right_comm ..
theorem Bef.of {a b A B : Sg} (h : Bef A B) (ha : Wi a A) (hb : Wi b B) (a0 : 0 ≤ a.t) (b0 : 0 ≤ b.t) (A0 : 0 < A.t) (B0 : 0 < B.t) : Bef a b :=
  frac ha.2 (frac h hb.1 B0 (Int.le_of_lt A0) b0) A0 a0 b0
/-- nothing lies before and within -/
theorem Bef.not {a b c : Sg} (h : Bef a b) (ha : Wi c a) (hb : Wi c b) (c0 : 0 < c.t) (a0 : 0 < a.t) (b0 : 0 < b.t) (w : 1 ≤ c.w) : False := by
  have q : Bef c c := h.of ha hb (Int.le_of_lt c0) (Int.le_of_lt c0) a0 b0
  unfold Bef at q
  have := Int.le_of_mul_le_mul_right q c0
  (clear c0 a0 b0 q; omega)
/-! figures -/
theorem bin_cases : ∀ {fs hs : List Nat}, Bin fs → Bin hs → (∃ r, hs = fs ++ r) ∨ (∃ r, fs = hs ++ r) ∨ (∃ p a b, fs = p ++ 0 :: a ∧ hs = p ++ 1 :: b) ∨ (∃ p a b, fs = p ++ 1 :: a ∧ hs = p ++ 0 :: b)
  | [], hs, _, _ => .inl ⟨hs, rfl⟩
  | fs, [], _, _ => .inr (.inl ⟨fs, rfl⟩)
  | x :: fs, y :: hs, h1, h2 => by
    have hx := h1 x (.head _)
    have hy := h2 y (.head _)
    by_cases e : x = y
    · subst e
      rcases bin_cases (fs := fs) (hs := hs) (fun b hb => h1 b (.tail _ hb)) (fun b hb => h2 b (.tail _ hb)) with ⟨r, q⟩ | ⟨r, q⟩ | ⟨p, a, b, q1, q2⟩ | ⟨p, a, b, q1, q2⟩
      · exact .inl ⟨r, by rw [q]; rfl⟩
      · exact .inr (.inl ⟨r, by rw [q]; rfl⟩)
      · exact .inr (.inr (.inl ⟨x :: p, a, b, by rw [q1]; rfl, by rw [q2]; rfl⟩))
      · exact .inr (.inr (.inr ⟨x :: p, a, b, by rw [q1]; rfl, by rw [q2]; rfl⟩))
    · by_cases c : x = 0
      · exact .inr (.inr (.inl ⟨[], fs, hs, by rw [c]; rfl, by rw [show y = 1 by (clear hx; omega)]; rfl⟩))
      · exact .inr (.inr (.inr ⟨[], fs, hs, by rw [show x = 1 by (clear hy e; omega)]; rfl, by rw [show y = 0 by omega]; rfl⟩))
theorem fgd_t (fs : List Nat) : 0 < (fgd fs).t := pow_pos _
theorem fgd_w (fs : List Nat) : 1 ≤ (fgd fs).w := Int.le_refl 1
theorem fgd_01 (p : List Nat) : Bef (fgd (p ++ [0])) (fgd (p ++ [1])) := by
  show (((num (p ++ [0]) : Nat) : Int) + 1) * 2 ^ (p ++ [1]).length ≤ ((num (p ++ [1]) : Nat) : Int) * 2 ^ (p ++ [0]).length
  rw [num_snoc, num_snoc, List.length_append, List.length_append]
  exact Int.le_of_eq (by simp)
theorem bin_app {p : List Nat} {x : Nat} {a : List Nat} (h : Bin (p ++ x :: a)) : Bin a := fun b hb => h b (List.mem_append.mpr (.inr (.tail _ hb)))
theorem apart01 {p a b : List Nat} (h1 : Bin (p ++ 0 :: a)) (h2 : Bin (p ++ 1 :: b)) : Bef (fgd (p ++ 0 :: a)) (fgd (p ++ 1 :: b)) := by
  have e1 : p ++ 0 :: a = (p ++ [0]) ++ a := by simp
  have e2 : p ++ 1 :: b = (p ++ [1]) ++ b := by simp
  have b1 := bin_app h1
  have b2 := bin_app h2
  rw [e1, e2]
  exact (fgd_01 p).of (fgd_app b1) (fgd_app b2) (Int.le_of_lt (fgd_t _)) (Int.le_of_lt (fgd_t _)) (fgd_t _) (fgd_t _)
/-- figures within others begin with them -/
theorem bits_in {fs hs : List Nat} (h1 : Bin fs) (h2 : Bin hs) (h : Wi (fgd hs) (fgd fs)) : hs.take fs.length = fs := by
  rcases bin_cases h1 h2 with ⟨r, q⟩ | ⟨r, q⟩ | ⟨p, a, b, q1, q2⟩ | ⟨p, a, b, q1, q2⟩
  · rw [q, List.take_left']; rfl
  · subst q
    have hr : r = [] := by
      cases r with
      | nil => rfl
      | cons x r =>
        have a := h.2
        have b := h.1
        have c : (fgd hs).w * (fgd (hs ++ x :: r)).t ≤ (fgd (hs ++ x :: r)).w * (fgd hs).t := by
          have e1 := Int.add_mul (fgd hs).l (fgd hs).w (fgd (hs ++ x :: r)).t
          have e2 := Int.add_mul (fgd (hs ++ x :: r)).l (fgd (hs ++ x :: r)).w (fgd hs).t
          omega
        have c' : (1 : Int) * 2 ^ (hs ++ x :: r).length ≤ 1 * 2 ^ hs.length := c
        rw [Int.one_mul, Int.one_mul] at c'
        have d : 2 ^ (hs ++ x :: r).length ≤ 2 ^ hs.length := by exact_mod_cast c'
        have := (Nat.pow_le_pow_iff_right (by decide : 1 < 2)).mp d
        rw [List.length_append, List.length_cons] at this; (clear a b c c' d; omega)
    subst hr
    simp
  · subst q1 q2
    exact ((apart01 h1 h2).not h (Wi.refl _) (fgd_t _) (fgd_t _) (fgd_t _) (fgd_w _)).elim
  · subst q1 q2
    exact ((apart01 h2 h1).not (Wi.refl _) h (fgd_t _) (fgd_t _) (fgd_t _) (fgd_w _)).elim
theorem TxOk.take {cs : List Int} {ks : List Nat} (t : TxOk cs ks) (n : Nat) : TxOk cs (ks.take n) := fun j hj => t j (List.mem_of_mem_take hj)
/-- figures begin with what the beginning of the text makes sure -/
theorem figs_sure {cs : List Int} {g : Int} {ks fs bs : List Nat} {n : Nat} (p : PlanOk cs g) (t : TxOk cs ks) (f : Figs (str one cs g ks) fs) (hb : Bin bs) (h : Wi (str one cs g (ks.take n)) (fgd bs)) : fs.take bs.length = bs := by
  have s1 := str_ok one_ok p t
  have s2 := str_ok one_ok p (t.take n)
  refine bits_in hb f.bin (((f.wi s1).trans ?_ (Int.le_of_lt (fgd_t _)) s1.t0 (Int.le_of_lt s2.t0)).trans h (Int.le_of_lt (fgd_t _)) s2.t0 (Int.le_of_lt (fgd_t _)))
  have e := str_app g (ks.take n) (ks.drop n) one cs
  rw [List.take_append_drop] at e
  rw [e]
  obtain ⟨q1, q2⟩ := pln_ok p (t.take n)
  exact str_in s2 q1 fun j hj => by rw [q2]; exact t j (List.mem_of_mem_drop hj)
end
section
/-- a call by a hook that is kept shut -/
theorem via {hk hk' : Hook} (e : hk = hk') {f : Nat} {as : List AV} {H : AH} {hd : Bool} {Q : AV → AH → Prop} {X : Nat → AH → Prop} (h : hk' f as H hd Q X) : hk f as H hd Q X := by rw [e]; exact h
theorem sure_len {n : Nat} {S : Sg} {bs : List Nat} (so : StOk n S) (h : Wi S (fgd bs)) : bs.length ≤ n := by
  have c : S.w * (fgd bs).t ≤ (fgd bs).w * S.t := by
    have a := h.2
    have b := h.1
    have e1 := Int.add_mul S.l S.w (fgd bs).t
    have e2 := Int.add_mul (fgd bs).l (fgd bs).w S.t
    omega
  have c' : S.w * 2 ^ bs.length ≤ 1 * S.t := c
  have p0 : (0 : Int) ≤ 2 ^ bs.length := Int.le_of_lt (pow_pos _)
  have w := Int.mul_le_mul_of_nonneg_right so.w1 p0
  have d : (2 : Int) ^ bs.length ≤ 2 ^ n := by have := so.tn; (clear c p0; omega)
  have d' : 2 ^ bs.length ≤ 2 ^ n := by exact_mod_cast d
  exact (Nat.pow_le_pow_iff_right (by decide : 1 < 2)).mp d'
theorem ls_part (bs : List Nat) (f : Nat) : AV.tup [.int (2 * ((num bs : Nat) : Int) + (f : Nat)), .int 1, .int (2 * 2 ^ bs.length)] = stV (fgd (bs ++ [f])) := by
  show _ = AV.tup [.int ((num (bs ++ [f]) : Nat) : Int), .int 1, .int (2 ^ (bs ++ [f]).length)]
  rw [num_snoc, show (2 : Int) * 2 ^ bs.length = 2 ^ (bs ++ [f]).length by simp [Int.pow_succ, Int.mul_comm], show (2 : Int) * (num bs : Nat) + (f : Nat) = ((2 * num bs + f : Nat) : Int) by omega]
theorem bin_one {bs : List Nat} {f : Nat} (h : Bin bs) (hf : f < 2) : Bin (bs ++ [f]) := fun b hb => by
  rcases List.mem_append.mp hb with q | q
  · exact h b q
  · rw [List.mem_singleton.mp q]; exact hf
section
variable {k : Nat} {cs : List Int} {g : Int} {H : AH} {Q : AV → AH → Prop} {X : Nat → AH → Prop} {hk : Hook}
theorem ls_loop (e : hk = CallN TB (k + 1)) {S : Sg} {n : Nat} {bs : List Nat} {c : Addr} {x0 x1 x5 : Option AV} {vs : List AV} {H₀ : AH} {QS : Out → AS → Prop} {XS : Nat → AS → Prop} (so : StOk n S) (hb : Bin bs) (hn : n + bs.length ≤ 90000) (hc : H₀ c = none) : ∀ (us pre : List Nat) (H : AH) (x7 x8 : Option AV) (_ : Bin us) (_ : Le H₀ H) (_ : getL H c = some (txV pre)) (_ : pre.length + us.length ≤ 2)
    (_ : ∀ x7 x8 H', Le H₀ H' → getL H' c = some (txV (pre ++ us.filter fun f => wib S (fgd (bs ++ [f])))) → QS .next ⟨[x0, x1, some (stV S), some (.int (num bs : Nat)), some (.int (2 ^ bs.length)), x5, some (.lst c), x7, x8, none, none], [], H', false⟩),
    FOR TB hk (.loc 7) [
      .asg (.loc 8) (.tup [(.bin .add (.bin .mul (.cInt 2) (.loc 3)) (.loc 7)), (.cInt 1), (.bin .mul (.cInt 2) (.loc 4))]),
      .ite (.e (.call (.gfn F.l_within) [(.loc 2), (.loc 8)])) [
        .expr (.meth (.loc 6) Mt.append [(.loc 7)])] []] (.tup vs) vs (txV us) ⟨[x0, x1, some (stV S), some (.int (num bs : Nat)), some (.int (2 ^ bs.length)), x5, some (.lst c), x7, x8, none, none], [], H, false⟩ QS XS
  | [], pre, H, x7, x8, _, le, hg, _, h => FOR_nil rfl (h x7 x8 H le (by rw [hg, List.filter_nil, List.append_nil]))
  | f :: us, pre, H, x7, x8, hu, le, hg, hl, h => by
    refine FOR_cons rfl ?_
    have hf := hu f (.head _)
    have hl2 : pre.length + us.length + 1 ≤ 2 := hl
    walk_at "v"
    refine ⟨mul_l (by decide), mul_l (by decide), by decide, ?_⟩
    rw [ls_part]
    refine via e (l_within_ok (s := S) (o := fgd (bs ++ [f])) so (fgd_ok (bin_one hb hf)) (by rw [List.length_append]; show n + (bs.length + 1) ≤ 99990; (clear hl hf hl2; omega)) ?_)
    walk_at "v"
    by_cases w : Wi S (fgd (bs ++ [f]))
    · rw [show decide ((fgd (bs ++ [f])).l * S.t ≤ S.l * (fgd (bs ++ [f])).t ∧ (S.l + S.w) * (fgd (bs ++ [f])).t ≤ ((fgd (bs ++ [f])).l + (fgd (bs ++ [f])).w) * S.t) = true from decide_eq_true w]
      walk_at "v"
      rw [hg]
      walk_at "v"
      refine ⟨by rw [List.length_map]; exact Nat.le_trans (show pre.length + 1 ≤ 2 by (clear hn hl hf; omega)) (by decide), ?_⟩
      refine ls_loop e so hb hn hc us (pre ++ [f]) _ _ _ (fun b hb' => hu b (.tail _ hb')) (le.new hc) (by rw [getL_self]; simp [txV]) (by rw [List.length_append]; show pre.length + 1 + _ ≤ 2; (clear hn hl hf; omega)) ?_
      rw [List.filter_cons_of_pos (by simpa [wib_iff] using w), List.append_cons] at h
      exact h
    · rw [show decide ((fgd (bs ++ [f])).l * S.t ≤ S.l * (fgd (bs ++ [f])).t ∧ (S.l + S.w) * (fgd (bs ++ [f])).t ≤ ((fgd (bs ++ [f])).l + (fgd (bs ++ [f])).w) * S.t) = false from decide_eq_false w]
      walk_at "v"
      refine ls_loop e so hb hn hc us pre H _ _ (fun b hb' => hu b (.tail _ hb')) le hg (by (clear hn hl hf; omega)) ?_
      rw [List.filter_cons_of_neg (by simpa [wib_iff] using w)] at h
      exact h
theorem fgd_nil : fgd [] = one := by simp [fgd, one, num]
theorem l_sure_ok {ks : List Nat} {a : Addr} (p : PlanOk cs g) (hv : getL H a = some (txV ks)) (ht : TxOk cs ks) (hk10 : ks.length ≤ 60) (h : ∀ b bs H', Le H H' → Bin bs → bs.length ≤ 1380 → Wi (str one cs g ks) (fgd bs) → getL H' b = some (txV bs) → H b = none → (∀ f, f < 2 → ¬ Wi (str one cs g ks) (fgd (bs ++ [f]))) → Q (.lst b) H') : CallN TB (k + 3) F.l_sure [plV cs g, .lst a] H false Q X := by
  refine ⟨rfl, ?_⟩
  generalize eh : CallN TB (k + 2) = hk
  replace eh := eh.symm
  simp only [D.l_sure]
  walk_at "e"
  walk_at "v"
  refine via eh (l_stretch_ok p hv ht fun H1 l1 => ?_)
  have so : StOk 1380 (str one cs g ks) := (str_ok one_ok p ht).le (by omega)
  have s0 : Wi (str one cs g ks) (fgd []) := by rw [fgd_nil]; exact str_in one_ok p ht
  generalize str one cs g ks = S at so s0 h
  walk_at "v"
  refine new_ok (Nat.le_of_ble_eq_true rfl) fun b H2 n2 l2 g2 => ?_
  walk_at "v"
  refine s_while (I := fun j σ => ∃ (bs : List Nat) (H' : AH) (x6 x7 x8 : Option AV), Bin bs ∧ Wi S (fgd bs) ∧ j + bs.length = 1381 ∧ Le H1 H' ∧ getL H' b = some (txV bs) ∧ σ = ⟨[some (plV cs g), some (.lst a), some (stV S), some (.int (num bs : Nat)), some (.int (2 ^ bs.length)), some (.lst b), x6, x7, x8, none, none], [], H', false⟩) 1381 ⟨[], H2, none, none, none, fun _ q => (nomatch q), s0, rfl, l2, g2, rfl⟩ ?_
  rintro j _ ⟨bs, H', x6, x7, x8, hb, hw, hj, le, hg, rfl⟩
  have hbl := sure_len so hw
  walk_at "v"
  refine new_ok (Nat.le_of_ble_eq_true rfl) fun c H3 n3 l3 g3 => ?_
  walk_at "v"
  refine ⟨by decide, ?_⟩
  refine ls_loop (H₀ := H') eh so hb (by (clear hk10; omega)) n3 [0, 1] [] H3 _ _ (fun b hb => by simp at hb; (clear hk10 hj hbl; omega)) l3 g3 (by decide) fun x7 x8 H4 l4 g4 => ?_
  rw [List.nil_append] at g4
  walk_at "v"
  refine new_ok (Nat.le_of_ble_eq_true rfl) fun d H5 n5 l5 g5 => ?_
  refine cmp_eq (eq_txt (js := []) (getL_le l5 g4) g5 ?_)
  have mem : ∀ f ∈ ([0, 1] : List Nat).filter (fun f => wib S (fgd (bs ++ [f]))), f < 2 ∧ Wi S (fgd (bs ++ [f])) := fun f hf => by
    obtain ⟨q1, q2⟩ := List.mem_filter.mp hf
    exact ⟨by simp at q1; (clear hk10 hj hbl; omega), wib_iff.mp q2⟩
  have none : ([0, 1] : List Nat).filter (fun f => wib S (fgd (bs ++ [f]))) = [] → ∀ f, f < 2 → ¬ Wi S (fgd (bs ++ [f])) := fun e f hf w => List.filter_eq_nil_iff.mp e f (by simp; (clear hk10 hj hbl; omega)) (wib_iff.mpr w)
  have g45 := getL_le l5 g4
  revert mem g45 none
  generalize ([0, 1] : List Nat).filter (fun f => wib S (fgd (bs ++ [f]))) = L
  intro mem none g45
  have le5 := le.trans (l4.trans l5)
  have hg5 := getL_le (l4.trans l5) hg
  cases L with
  | nil =>
    rw [decide_eq_true rfl]
    walk_at "v"
    exact h b bs H5 (l1.trans le5) hb hbl hw hg5 (l1.none n2) (none rfl)
  | cons f L =>
    rw [decide_eq_false (by simp)]
    obtain ⟨hf, hwf⟩ := mem f (.head _)
    walk_at "v"
    rw [hg5]
    refine ⟨rfl, idx_of (vs := txV (f :: L)) (v := .int f) (by decide) (by decide) g45 rfl ?_⟩
    walk_at "v"
    rw [hg5]
    walk_at "v"
    refine ⟨by rw [List.length_map]; exact Nat.le_trans (Nat.succ_le_succ hbl) (by decide), mul_l (by decide), ?_⟩
    refine idx_of (vs := txV (f :: L)) (v := .int f) (by decide) (by decide) (getL_ne (ne_of_new hg n3).symm g45) rfl ?_
    walk_at "v"
    refine ⟨mul_l (by decide), j - 1, by (clear hk10 hf; omega), bs ++ [f], _, some (.lst c), x7, x8, bin_one hb hf, hwf, by rw [List.length_append]; show j - 1 + (bs.length + 1) = 1381; (clear hk10 hf; omega), le5.new n2, getL_self _ _ _, ?_⟩
    have e1 := ls_part bs f
    simp only [stV, fgd, AV.tup.injEq, List.cons.injEq, AV.int.injEq, and_true, true_and] at e1
    rw [← e1.1, ← e1.2]
    simp [txV]
end
end
section
/-! figures that are sure, the plain side -/
structure Sure (S : Sg) (bs : List Nat) : Prop where
  bin : Bin bs
  wi : Wi S (fgd bs)
  most : ∀ f, f < 2 → ¬ Wi S (fgd (bs ++ [f]))
theorem sure_pre {n m : Nat} {S S' : Sg} {bs bs' : List Nat} (so : StOk n S) (so' : StOk m S') (w : Wi S' S) (b : Bin bs) (bw : Wi S (fgd bs)) (b' : Sure S' bs') : bs'.take bs.length = bs := by
  have w1 : Wi S' (fgd bs) := w.trans bw (Int.le_of_lt so'.t0) so.t0 (Int.le_of_lt (fgd_t _))
  rcases bin_cases b b'.bin with ⟨r, q⟩ | ⟨r, q⟩ | ⟨p, x, y, q1, q2⟩ | ⟨p, x, y, q1, q2⟩
  · rw [q, List.take_left']; rfl
  · cases r with
    | nil => rw [List.append_nil] at q; subst q; simp
    | cons f r =>
      subst q
      have hf := b f (List.mem_append.mpr (.inr (.head _)))
      have e : bs' ++ f :: r = (bs' ++ [f]) ++ r := by simp
      rw [e] at w1
      exact absurd (w1.trans (fgd_app (bin_app b)) (Int.le_of_lt so'.t0) (fgd_t _) (Int.le_of_lt (fgd_t _))) (b'.most f hf)
  · subst q1 q2
    exact ((apart01 b b'.bin).not w1 b'.wi so'.t0 (fgd_t _) (fgd_t _) so'.w1).elim
  · subst q1 q2
    exact ((apart01 b'.bin b).not b'.wi w1 so'.t0 (fgd_t _) (fgd_t _) so'.w1).elim
theorem sure_one {S : Sg} (h : S = one) : Sure S [] := by
  subst h
  refine ⟨fun _ h => (nomatch h), by rw [fgd_nil]; exact Wi.refl _, fun f hf w => ?_⟩
  have h1 := w.1
  have h2 := w.2
  rcases (show f = 0 ∨ f = 1 by (clear h1 h2; omega)) with e | e <;> subst e
  · exact absurd h2 (by decide)
  · exact absurd h1 (by decide)
end
section
/-! instances: heaps that differ at one dict -/
noncomputable def LeB (d : Addr) (H H' : AH) : Prop := ∀ a o, a ≠ d → H a = some o → H' a = some o
theorem Le.b {d : Addr} {H H' : AH} (h : Le H H') : LeB d H H' := fun a o _ e => h a o e
theorem LeB.trans {d : Addr} {H₁ H₂ H₃ : AH} (h : LeB d H₁ H₂) (g : LeB d H₂ H₃) : LeB d H₁ H₃ := fun a o n e => g a o n (h a o n e)
theorem LeB.upd (d : Addr) (H : AH) (o : AO) : LeB d H (H.upd d o) := fun a p n e => by
  show (if a = d then some o else H a) = some p
  rw [if_neg n]; exact e
theorem LeB.le {d : Addr} {H H' : AH} {o : AO} (h : LeB d (H.upd d o) H') (n : H d = none) : Le H H' := fun a p e => by
  have hn : a ≠ d := fun c => by rw [c, n] at e; exact nomatch e
  refine h a p hn ?_
  show (if a = d then some o else H a) = some p
  rw [if_neg hn]; exact e
theorem getD_at {H : AH} {a : Addr} {vs : List (Nat × AV)} (g : getD H a = some vs) : H a = some (.dct vs) := by
  unfold getD at g
  cases e : H a with
  | none => rw [e] at g; exact nomatch g
  | some o => rw [e] at g; cases o with
    | lst ws => exact nomatch g
    | dct _ => exact congrArg _ (congrArg _ (Option.some.inj g))
theorem getD_le {H H' : AH} {a : Addr} {vs : List (Nat × AV)} (h : Le H H') (g : getD H a = some vs) : getD H' a = some vs := by
  unfold getD; rw [h _ _ (getD_at g)]
theorem getD_self (H : AH) (a : Addr) (vs : List (Nat × AV)) : getD (H.upd a (.dct vs)) a = some vs := by simp [getD, AH.upd]
theorem getL_leB {d : Addr} {H H' : AH} {a : Addr} {vs : List AV} (h : LeB d H H') (n : a ≠ d) (g : getL H a = some vs) : getL H' a = some vs := by
  unfold getL; rw [h _ _ n (getL_at g)]
theorem getD_leB {d : Addr} {H H' : AH} {a : Addr} {vs : List (Nat × AV)} (h : LeB d H H') (n : a ≠ d) (g : getD H a = some vs) : getD H' a = some vs := by
  unfold getD; rw [h _ _ n (getD_at g)]
theorem ne_dl {H : AH} {a d : Addr} {vs : List AV} {kvs : List (Nat × AV)} (g : getL H a = some vs) (h : getD H d = some kvs) : a ≠ d := fun c => by
  subst c
  have := (getL_at g).symm.trans (getD_at h)
  cases this
theorem ne_dn {H : AH} {a d : Addr} {kvs : List (Nat × AV)} (n : H a = none) (h : getD H d = some kvs) : a ≠ d := fun c => by
  subst c
  have := n.symm.trans (getD_at h)
  cases this
theorem LeB.none {d : Addr} {H H' : AH} {a : Addr} {kvs : List (Nat × AV)} (h : LeB d H H') (g : getD H' d = some kvs) (n : H' a = none) : H a = none := by
  have hn := ne_dn n g
  cases e : H a with
  | none => rfl
  | some o => exact nomatch n.symm.trans (h a o hn e)
section
variable {H : AH} {l c : List (Option AV)} {hd : Bool} {Q : AV → AS → Prop} {QS : Out → AS → Prop}
theorem attr_ok {cc k : Nat} {a d : Addr} {kvs : List (Nat × AV)} {v : AV} (g : getD H d = some kvs) (e : kvs.lookup k = some v) (h : Q v ⟨l, c, H, hd⟩) : attrW (.obj cc a d) k ⟨l, c, H, hd⟩ Q := by
  show need (getD H d) _
  rw [g]
  show need (kvs.lookup k) _
  rw [e]; exact h
theorem setA_ok {cc k : Nat} {a d : Addr} {kvs kvs' : List (Nat × AV)} {v : AV} (g : getD H d = some kvs) (e : kvSet kvs k v = kvs') (hl : kvs.length ≤ 20) (h : ∀ H', LeB d H H' → getD H' d = some kvs' → QS .next ⟨l, c, H', hd⟩) : setA (.obj cc a d) k v ⟨l, c, H, hd⟩ QS := by
  show need (getD H d) _
  rw [g]
  refine ⟨hl, ?_⟩
  rw [e]
  exact h _ (LeB.upd _ _ _) (getD_self _ _ _)
end
/-! figures around a stretch -/
theorem st_one {n : Nat} {S : Sg} (so : StOk n S) : Wi S one := by
  have := so.l0; have := so.lw
  exact ⟨by show 0 * S.t ≤ S.l * 1; (clear this; omega), by show (S.l + S.w) * 1 ≤ (0 + 1) * S.t; omega⟩
section
variable {k : Nat} {cs : List Int} {g : Int} {H : AH} {Q : AV → AH → Prop} {X : Nat → AH → Prop} {hk : Hook}
noncomputable abbrev faB : List MS := [
      .ite (.all [(.not (.e (.loc 4))), (.e (.call (.gfn F.within) [(.loc 0), (.tup [(.bin .add (.bin .mul (.cInt 2) (.loc 2)) (.loc 5)), (.cInt 1), (.loc 3)])]))]) [
        .asg (.loc 2) (.bin .add (.bin .mul (.cInt 2) (.loc 2)) (.loc 5)),
        .expr (.meth (.loc 1) Mt.append [(.loc 5)]),
        .asg (.loc 4) (.cBool true)] []]
theorem fa_skip {x0 x1 x2 x3 : Option AV} {vs : List AV} {QS : Out → AS → Prop} {XS : Nat → AS → Prop} : ∀ (us : List Nat) (x5 : Option AV)
    (_ : ∀ x5, QS .next ⟨[x0, x1, x2, x3, some (.bool true), x5, none], [], H, false⟩),
    FOR TB hk (.loc 5) faB (.tup vs) vs (txV us) ⟨[x0, x1, x2, x3, some (.bool true), x5, none], [], H, false⟩ QS XS
  | [], x5, h => FOR_nil rfl (h x5)
  | f :: us, x5, h => by
    refine FOR_cons rfl ?_
    walk_at "v"
    exact fa_skip us _ h
theorem fa_loop (e : hk = CallN TB (k + 1)) {S : Sg} {n : Nat} {bs : List Nat} {c : Addr} {vs : List AV} {H₀ : AH} {QS : Out → AS → Prop} {XS : Nat → AS → Prop} (so : StOk n S) (hb : Bin bs) (hn : n + bs.length ≤ 90000) (hc : H₀ c = none) (le : Le H₀ H) (hg : getL H c = some (txV bs)) : ∀ (us : List Nat) (x5 : Option AV) (_ : Bin us)
    (_ : ∀ f ∈ us, Wi S (fgd (bs ++ [f])) → ∀ x5 H', Le H₀ H' → getL H' c = some (txV (bs ++ [f])) → QS .next ⟨[some (stV S), some (.lst c), some (.int (num (bs ++ [f]) : Nat)), some (.int (2 * 2 ^ bs.length)), some (.bool true), x5, none], [], H', false⟩)
    (_ : (∀ f ∈ us, ¬ Wi S (fgd (bs ++ [f]))) → ∀ x5, QS .next ⟨[some (stV S), some (.lst c), some (.int (num bs : Nat)), some (.int (2 * 2 ^ bs.length)), some (.bool false), x5, none], [], H, false⟩),
    FOR TB hk (.loc 5) faB (.tup vs) vs (txV us) ⟨[some (stV S), some (.lst c), some (.int (num bs : Nat)), some (.int (2 * 2 ^ bs.length)), some (.bool false), x5, none], [], H, false⟩ QS XS
  | [], x5, _, _, h2 => FOR_nil rfl (h2 (fun _ h => (nomatch h)) x5)
  | f :: us, x5, hu, h1, h2 => by
    refine FOR_cons rfl ?_
    have hf := hu f (.head _)
    walk_at "v"
    refine ⟨mul_l (by decide), by decide, ?_⟩
    rw [ls_part]
    refine via e (within_ok (s := S) (o := fgd (bs ++ [f])) so (fgd_ok (bin_one hb hf)) (by rw [List.length_append]; show n + (bs.length + 1) ≤ 99990; (clear hf; omega)) ?_)
    walk_at "v"
    by_cases w : Wi S (fgd (bs ++ [f]))
    · rw [show decide ((fgd (bs ++ [f])).l * S.t ≤ S.l * (fgd (bs ++ [f])).t ∧ (S.l + S.w) * (fgd (bs ++ [f])).t ≤ ((fgd (bs ++ [f])).l + (fgd (bs ++ [f])).w) * S.t) = true from decide_eq_true w]
      walk_at "v"
      refine ⟨mul_l (by decide), ?_⟩
      rw [hg]
      walk_at "v"
      refine ⟨by rw [List.length_map]; exact Nat.le_trans (show bs.length + 1 ≤ 90001 by (clear hf; omega)) (by decide), ?_⟩
      rw [show (2 : Int) * (num bs : Nat) + (f : Nat) = ((num (bs ++ [f]) : Nat) : Int) by rw [num_snoc]; (clear hn hf; omega)]
      exact fa_skip us _ fun x5 => h1 f (.head _) w x5 _ (le.new hc) (by rw [getL_self]; simp [txV])
    · rw [show decide ((fgd (bs ++ [f])).l * S.t ≤ S.l * (fgd (bs ++ [f])).t ∧ (S.l + S.w) * (fgd (bs ++ [f])).t ≤ ((fgd (bs ++ [f])).l + (fgd (bs ++ [f])).w) * S.t) = false from decide_eq_false w]
      walk_at "v"
      refine fa_loop e so hb hn hc le hg us _ (fun b hb' => hu b (.tail _ hb')) (fun j hj => h1 j (.tail _ hj)) fun hno => h2 fun j hj => ?_
      rcases List.mem_cons.mp hj with q | q
      · rw [q]; exact w
      · exact hno j q
theorem figures_around_ok {S : Sg} {n : Nat} (so : StOk n S) (hn : n ≤ 8000) (h : ∀ a bs H', H a = none → Le H H' → Sure S bs → getL H' a = some (txV bs) → Q (.lst a) H') : CallN TB (k + 2) F.figures_around [stV S] H false Q X := by
  refine ⟨rfl, ?_⟩
  generalize eh : CallN TB (k + 1) = hk
  replace eh := eh.symm
  simp only [D.figures_around]
  walk_at "e"
  walk_at "v"
  refine new_ok (Nat.le_of_ble_eq_true rfl) fun b H1 n1 l1 g1 => ?_
  walk_at "v"
  refine s_while (I := fun j σ => ∃ (bs : List Nat) (H' : AH) (x5 : Option AV), Le H H' ∧ getL H' b = some (txV bs) ∧ ((Bin bs ∧ Wi S (fgd bs) ∧ j + bs.length = n + 2 ∧ σ = ⟨[some (stV S), some (.lst b), some (.int (num bs : Nat)), some (.int (2 ^ bs.length)), some (.bool true), x5, none], [], H', false⟩) ∨
    (Sure S bs ∧ ∃ x2 x3, σ = ⟨[some (stV S), some (.lst b), x2, x3, some (.bool false), x5, none], [], H', false⟩))) (n + 2) ⟨[], H1, none, l1, g1, .inl ⟨fun _ q => (nomatch q), by rw [fgd_nil]; exact st_one so, rfl, rfl⟩⟩ ?_
  rintro j _ ⟨bs, H', x5, le, hg, ⟨hb, hw, hj, rfl⟩ | ⟨hs, x2, x3, rfl⟩⟩
  · have hbl := sure_len so hw
    walk_at "v"
    refine ⟨mul_l (by decide), by decide, ?_⟩
    refine fa_loop (H₀ := H) eh so hb (by omega) n1 le hg [0, 1] _ (fun b hb => by simp at hb; (clear hn hj hbl; omega)) (fun f hf w x5 H2 l2 g2 => ?_) fun hno x5 => ?_
    · walk_at "v"
      refine ⟨j - 1, by (clear hn; omega), bs ++ [f], H2, x5, l2, g2, .inl ⟨bin_one hb (by simp at hf; (clear hn hj hbl; omega)), w, by rw [List.length_append]; show j - 1 + (bs.length + 1) = n + 2; (clear hn; omega), ?_⟩⟩
      rw [show (2 : Int) * 2 ^ bs.length = 2 ^ (bs ++ [f]).length by simp [Int.pow_succ, Int.mul_comm]]
    · walk_at "v"
      exact ⟨j - 1, by (clear hn; omega), bs, H', x5, le, hg, .inr ⟨⟨hb, hw, fun f hf => hno f (by simp; (clear hn hj hbl; omega))⟩, _, _, rfl⟩⟩
  · walk_at "v"
    exact h b bs H' n1 le hs hg
end
end
section
/-! readers and writers -/
/-- a reader's state -/
structure Rd (H : AH) (d : Addr) (cs : List Int) (g : Int) (m : Nat) (rc rs : Addr) (R sg : List Nat) : Prop where
  gd : getD H d = some [(0, plV cs g), (1, .int m), (2, .lst rc), (3, .lst rs)]
  gc : getL H rc = some (txV R)
  gs : getL H rs = some (txV sg)
/-- a writer's state -/
structure Wr (H : AH) (d : Addr) (cs : List Int) (g : Int) (wc wg : Addr) (cm gv : List Nat) (en : Bool) : Prop where
  gd : getD H d = some [(0, plV cs g), (2, .lst wc), (4, .lst wg), (5, .bool en)]
  gc : getL H wc = some (txV cm)
  gg : getL H wg = some (txV gv)
theorem Rd.le {H H' : AH} {d rc rs : Addr} {cs : List Int} {g : Int} {m : Nat} {R sg : List Nat} (r : Rd H d cs g m rc rs R sg) (l : Le H H') : Rd H' d cs g m rc rs R sg := ⟨getD_le l r.gd, getL_le l r.gc, getL_le l r.gs⟩
theorem Wr.le {H H' : AH} {d wc wg : Addr} {cs : List Int} {g : Int} {cm gv : List Nat} {en : Bool} (r : Wr H d cs g wc wg cm gv en) (l : Le H H') : Wr H' d cs g wc wg cm gv en := ⟨getD_le l r.gd, getL_le l r.gc, getL_le l r.gg⟩
theorem Rd.leB {H H' : AH} {d e rc rs : Addr} {cs : List Int} {g : Int} {m : Nat} {R sg : List Nat} {kvs : List (Nat × AV)} (r : Rd H d cs g m rc rs R sg) (l : LeB e H H') (n : d ≠ e) (h : getD H e = some kvs) : Rd H' d cs g m rc rs R sg := ⟨getD_leB l n r.gd, getL_leB l (ne_dl r.gc h) r.gc, getL_leB l (ne_dl r.gs h) r.gs⟩
theorem Wr.leB {H H' : AH} {d e wc wg : Addr} {cs : List Int} {g : Int} {cm gv : List Nat} {en : Bool} {kvs : List (Nat × AV)} (r : Wr H d cs g wc wg cm gv en) (l : LeB e H H') (n : d ≠ e) (h : getD H e = some kvs) : Wr H' d cs g wc wg cm gv en := ⟨getD_leB l n r.gd, getL_leB l (ne_dl r.gc h) r.gc, getL_leB l (ne_dl r.gg h) r.gg⟩
theorem Rd.upd {H : AH} {d a rc rs : Addr} {cs : List Int} {g : Int} {m : Nat} {R sg : List Nat} {vs : List AV} {o : AO} (r : Rd H d cs g m rc rs R sg) (ha : getL H a = some vs) (n1 : rc ≠ a) (n2 : rs ≠ a) : Rd (H.upd a o) d cs g m rc rs R sg := ⟨getD_leB (LeB.upd a H o) (ne_dl ha r.gd).symm r.gd, getL_leB (LeB.upd a H o) n1 r.gc, getL_leB (LeB.upd a H o) n2 r.gs⟩
theorem Wr.upd {H : AH} {d a wc wg : Addr} {cs : List Int} {g : Int} {cm gv : List Nat} {en : Bool} {vs : List AV} {o : AO} (r : Wr H d cs g wc wg cm gv en) (ha : getL H a = some vs) (n1 : wc ≠ a) (n2 : wg ≠ a) : Wr (H.upd a o) d cs g wc wg cm gv en := ⟨getD_leB (LeB.upd a H o) (ne_dl ha r.gd).symm r.gd, getL_leB (LeB.upd a H o) n1 r.gc, getL_leB (LeB.upd a H o) n2 r.gg⟩
theorem sml {ks : List Nat} (h : ks.length ≤ 4000) : (txV ks).length ≤ 1000000 := by rw [List.length_map]; exact Nat.le_trans h (by decide)
theorem sml2 {ks js : List Nat} (h : (ks ++ js).length ≤ 4000) : (txV ks ++ txV js).length ≤ 1000000 := by rw [← List.map_append]; exact sml h
theorem plc4 {ks : List Nat} (h : ks.length ≤ 4000) : placeV (.int ((txV ks).length : Nat)) := by
  show Place _
  rw [List.length_map]
  exact ⟨by omega, by omega⟩
theorem tx_app (ks js : List Nat) : txV ks ++ txV js = txV (ks ++ js) := by simp [txV]
theorem tx_drop (ks : List Nat) (n : Nat) : (txV ks).drop n = txV (ks.drop n) := by simp [txV]
theorem cut_tx {ks js : List Nat} : cut (txV ks) (.int ((txV js).length : Nat)) .none = some (txV (ks.drop js.length)) := by
  rw [cut_in (Int.natCast_nonneg _), Int.toNat_natCast, List.length_map, tx_drop]
section
variable {k : Nat} {cs : List Int} {g : Int} {H : AH} {Q : AV → AH → Prop} {X : Nat → AH → Prop} {hk : Hook} {a d : Addr} {m : Nat} {rc rs wc wg : Addr} {R sg cm gv : List Nat} {en : Bool}
theorem Writer_init_ok (p : PlanOk cs g) (gd : getD H d = some []) (h : ∀ wc wg H', H wc = none → H wg = none → LeB d H H' → Wr H' d cs g wc wg [] [] false → Q .none H') : CallN TB (k + 4) F.Writer_init [.obj 7 a d, plV cs g] H false Q X := by
  refine ⟨rfl, ?_⟩
  simp only [D.Writer_init]
  walk_at "e"
  walk_at "v"
  refine need_plan_ok p ?_
  walk_at "v"
  refine setA_ok gd rfl (Nat.le_of_ble_eq_true rfl) fun H2 l2 g2 => ?_
  walk_at "v"
  refine new_ok (Nat.le_of_ble_eq_true rfl) fun b1 H3 n3 l3 g3 => ?_
  walk_at "v"
  refine setA_ok (getD_le l3 g2) rfl (Nat.le_of_ble_eq_true rfl) fun H4 l4 g4 => ?_
  walk_at "v"
  have e1 : getL H4 b1 = some (txV []) := getL_leB l4 (ne_dl g3 (getD_le l3 g2)) g3
  refine new_ok (Nat.le_of_ble_eq_true rfl) fun b2 H5 n5 l5 g5 => ?_
  walk_at "v"
  refine setA_ok (getD_le l5 g4) rfl (Nat.le_of_ble_eq_true rfl) fun H6 l6 g6 => ?_
  walk_at "v"
  have e1' := getL_leB l6 (ne_dl (getL_le l5 e1) (getD_le l5 g4)) (getL_le l5 e1)
  have e2' := getL_leB l6 (ne_dl g5 (getD_le l5 g4)) g5
  refine setA_ok g6 rfl (Nat.le_of_ble_eq_true rfl) fun H7 l7 g7 => ?_
  walk_at "v"
  have L4 := l2.trans (l3.b.trans l4)
  exact h b1 b2 H7 (l2.none g2 n3) (L4.none g4 n5) (L4.trans (l5.b.trans (l6.trans l7))) ⟨g7, getL_leB l7 (ne_dl e1' g6) e1', getL_leB l7 (ne_dl e2' g6) e2'⟩
theorem Writer_need_open_ok {kvs : List (Nat × AV)} (gd : getD H d = some kvs) (e : kvs.lookup 5 = some (.bool false)) (h : Q .none H) : CallN TB (k + 1) F.Writer_need_open [.obj 7 a d] H false Q X := by
  refine ⟨rfl, ?_⟩
  simp only [D.Writer_need_open]
  walk_at "e"
  walk_at "v"
  refine attr_ok gd e ?_
  walk_at "v"
  exact h
theorem Writer_fresh_ok {f : Addr} {fs : List Nat} (r : Wr H d cs g wc wg cm gv en) (gf : getL H f = some (txV fs)) (hl : fs.length ≤ 4000) (hgv : gv.length ≤ 4000)
    (h : ∀ b wg' H', H b = none → H wg' = none → LeB d H H' → Wr H' d cs g wc wg' cm fs en → getL H' b = some (txV (fs.drop gv.length)) → b ≠ wg' → Q (.lst b) H') : CallN TB (k + 1) F.Writer_fresh [.obj 7 a d, .lst f] H false Q X := by
  refine ⟨rfl, ?_⟩
  simp only [D.Writer_fresh]
  walk_at "e"
  walk_at "v"
  refine attr_ok r.gd rfl ?_
  walk_at "v"
  rw [r.gg]
  walk_at "v"
  refine slcl_ok (r := txV (fs.drop gv.length)) gf (plc4 hgv) trivial cut_tx (sml (by rw [List.length_drop]; omega)) fun b1 H1 n1 l1 g1 => ?_
  have r1 := r.le l1
  walk_at "v"
  refine tolist_ok (getL_le l1 gf) (sml hl) fun b2 H2 n2 l2 g2 => ?_
  have r2 := r1.le l2
  walk_at "v"
  refine setA_ok r2.gd rfl (Nat.le_of_ble_eq_true rfl) fun H3 l3 g3 => ?_
  walk_at "v"
  have g12 := getL_le l2 g1
  exact h b1 b2 H3 n1 (l1.none n2) ((l1.trans l2).b.trans l3) ⟨g3, getL_leB l3 (ne_dl r2.gc r2.gd) r2.gc, getL_leB l3 (ne_dl g2 r2.gd) g2⟩ (getL_leB l3 (ne_dl g12 r2.gd) g12) (ne_of_new g1 n2)
theorem Writer_take_ok {s : Addr} {ss : List Nat} (p : PlanOk cs g) (r : Wr H d cs g wc wg cm gv false) (gs : getL H s = some (txV ss)) (ht : TxOk cs (cm ++ ss)) (hl : (cm ++ ss).length ≤ 60) (hgv : gv.length ≤ 4000)
    (h : ∀ b wc' wg' bs H', H b = none → H wc' = none → H wg' = none → LeB d H H' → Sure (str one cs g (cm ++ ss)) bs → Wr H' d cs g wc' wg' (cm ++ ss) bs false → getL H' b = some (txV (bs.drop gv.length)) → b ≠ wc' → b ≠ wg' → Q (.lst b) H') : CallN TB (k + 6) F.Writer_take [.obj 7 a d, .lst s] H false Q X := by
  refine ⟨rfl, ?_⟩
  simp only [D.Writer_take]
  walk_at "e"
  walk_at "v"
  rw [r.gd]
  refine ⟨rfl, ?_⟩
  refine Writer_need_open_ok r.gd rfl ?_
  walk_at "v"
  rw [gs]
  walk_at "v"
  refine attr_ok r.gd rfl ?_
  walk_at "v"
  refine add_ok r.gc gs (sml2 (Nat.le_trans hl (by decide))) fun c1 H1 n1 l1 g1 => ?_
  rw [tx_app] at g1
  have r1 := r.le l1
  have gs1 := getL_le l1 gs
  walk_at "v"
  refine attr_ok r1.gd rfl ?_
  walk_at "v"
  refine need_signs_ok p g1 hl ht ?_
  walk_at "v"
  refine setA_ok r1.gd rfl (Nat.le_of_ble_eq_true rfl) fun H2 l2 g2 => ?_
  have r2 : Wr H2 d cs g c1 wg (cm ++ ss) gv false := ⟨g2, getL_leB l2 (ne_dl g1 r1.gd) g1, getL_leB l2 (ne_dl r1.gg r1.gd) r1.gg⟩
  walk_at "v"
  rw [r2.gd]
  refine ⟨rfl, ?_⟩
  refine attr_ok r2.gd rfl ?_
  walk_at "v"
  refine stretch_of_ok p r2.gc hl ht ?_
  walk_at "v"
  have so := str_ok one_ok p ht
  refine figures_around_ok so (by (clear hgv; omega)) fun b3 bs H3 n3 l3 hs g3 => ?_
  have bl := sure_len so hs.wi
  have r3 := r2.le l3
  walk_at "v"
  refine Writer_fresh_ok r3 g3 (by (clear hgv; omega)) hgv fun b4 wg' H4 n4 nw l4 r4 g4 ne => ?_
  walk_at "v"
  have L1 : LeB d H H1 := l1.b
  have L2 := L1.trans l2
  have L3 := L2.trans l3.b
  exact h b4 c1 wg' bs H4 (L3.none r3.gd n4) n1 (L3.none r3.gd nw) (L3.trans l4) hs r4 g4 (ne_of_new r3.gc n4).symm ne
theorem Writer_end_ok (p : PlanOk cs g) (r : Wr H d cs g wc wg cm gv false) (ht : TxOk cs cm) (hl : cm.length ≤ 60) (hgv : gv.length ≤ 4000)
    (h : ∀ b wg' fs H', H b = none → H wg' = none → LeB d H H' → Figs (str one cs g cm) fs → Wr H' d cs g wc wg' cm fs true → getL H' b = some (txV (fs.drop gv.length)) → b ≠ wg' → Q (.lst b) H') : CallN TB (k + 7) F.Writer_end [.obj 7 a d] H false Q X := by
  refine ⟨rfl, ?_⟩
  simp only [D.Writer_end]
  walk_at "e"
  walk_at "v"
  rw [r.gd]
  refine ⟨rfl, ?_⟩
  refine Writer_need_open_ok r.gd rfl ?_
  walk_at "v"
  refine setA_ok r.gd rfl (Nat.le_of_ble_eq_true rfl) fun H2 l2 g2 => ?_
  have r2 : Wr H2 d cs g wc wg cm gv true := ⟨g2, getL_leB l2 (ne_dl r.gc r.gd) r.gc, getL_leB l2 (ne_dl r.gg r.gd) r.gg⟩
  walk_at "v"
  rw [r2.gd]
  refine ⟨rfl, ?_⟩
  refine attr_ok r2.gd rfl ?_
  walk_at "v"
  refine attr_ok r2.gd rfl ?_
  walk_at "v"
  refine pressed_ok p r2.gc hl ht fun b3 fs H3 n3 l3 hf g3 => ?_
  have fl := hf.len (str_ok one_ok p ht)
  have r3 := r2.le l3
  walk_at "v"
  refine Writer_fresh_ok r3 g3 (by (clear hgv; omega)) hgv fun b4 wg' H4 n4 nw l4 r4 g4 ne => ?_
  walk_at "v"
  have L3 := l2.trans l3.b
  exact h b4 wg' fs H4 (L3.none r3.gd n4) (L3.none r3.gd nw) (L3.trans l4) hf r4 g4 ne
theorem Writer_told_ok (r : Wr H d cs g wc wg cm gv en) (hgv : gv.length ≤ 4000) (h : ∀ b H', H b = none → Le H H' → getL H' b = some (txV gv) → Q (.lst b) H') : CallN TB (k + 1) F.Writer_told [.obj 7 a d] H false Q X := by
  refine ⟨rfl, ?_⟩
  simp only [D.Writer_told]
  walk_at "e"
  walk_at "v"
  refine attr_ok r.gd rfl ?_
  walk_at "v"
  refine tolist_ok r.gg (sml hgv) fun b H1 n1 l1 g1 => ?_
  walk_at "v"
  exact h b H1 n1 l1 g1
end
end
section
/-! frames: lists outside of Z and dicts outside of D are kept -/
structure Fr (Z D : List Addr) (H H' : AH) : Prop where
  l : ∀ a vs, a ∉ Z → getL H a = some vs → getL H' a = some vs
  d : ∀ a kvs, a ∉ D → getD H a = some kvs → getD H' a = some kvs
theorem Le.fr {Z D : List Addr} {H H' : AH} (h : Le H H') : Fr Z D H H' := ⟨fun _ _ _ g => getL_le h g, fun _ _ _ g => getD_le h g⟩
theorem Fr.trans {Z D : List Addr} {H₁ H₂ H₃ : AH} (h : Fr Z D H₁ H₂) (g : Fr Z D H₂ H₃) : Fr Z D H₁ H₃ := ⟨fun a vs n e => g.l a vs n (h.l a vs n e), fun a vs n e => g.d a vs n (h.d a vs n e)⟩
theorem Fr.mono {Z D Z' D' : List Addr} {H H' : AH} (h : Fr Z D H H') (z : ∀ a, a ∈ Z → a ∈ Z') (d : ∀ a, a ∈ D → a ∈ D') : Fr Z' D' H H' := ⟨fun a vs n e => h.l a vs (fun c => n (z a c)) e, fun a vs n e => h.d a vs (fun c => n (d a c)) e⟩
theorem LeB.fr {Z D : List Addr} {H H' : AH} {d : Addr} {kvs : List (Nat × AV)} (h : LeB d H H') (g : getD H d = some kvs) (hd : d ∈ D) : Fr Z D H H' :=
  ⟨fun _ _ _ e => getL_leB h (ne_dl e g) e, fun a _ n e => getD_leB h (fun c => n (c ▸ hd)) e⟩
theorem Fr.updL {Z D : List Addr} {H : AH} {z : Addr} {vs ws : List AV} (g : getL H z = some vs) (hz : z ∈ Z) : Fr Z D H (H.upd z (.lst ws)) :=
  ⟨fun _ _ n e => getL_ne (fun c => n (c ▸ hz)) e, fun _ _ _ e => getD_leB (LeB.upd z H _) (fun c => ne_dl g (c ▸ e) rfl) e⟩
theorem not_live {Z : List Addr} {H : AH} {x : Addr} (hz : ∀ z ∈ Z, ∃ vs, getL H z = some vs) (n : H x = none) : x ∉ Z := fun c => by
  obtain ⟨vs, g⟩ := hz x c
  exact ne_of_new g n rfl
section
variable {H : AH} {l c : List (Option AV)} {hd : Bool} {Q : AV → AS → Prop} {QS : Out → AS → Prop}
theorem key_ok {k : Nat} {d : Addr} {kvs : List (Nat × AV)} {v : AV} (g : getD H d = some kvs) (e : kvs.lookup k = some v) (h : Q v ⟨l, c, H, hd⟩) : keyW (.dct d) k ⟨l, c, H, hd⟩ Q := by
  show need (getD H d) _
  rw [g]
  show need (kvs.lookup k) _
  rw [e]; exact h
theorem setK_ok {k : Nat} {d : Addr} {kvs kvs' : List (Nat × AV)} {v : AV} (g : getD H d = some kvs) (e : kvSet kvs k v = kvs') (hl : (kvs.lookup k).isSome = true) (h : ∀ H', LeB d H H' → getD H' d = some kvs' → QS .next ⟨l, c, H', hd⟩) : setK (.dct d) k v ⟨l, c, H, hd⟩ QS := by
  show need (getD H d) _
  rw [g]
  refine ⟨hl, ?_⟩
  rw [e]
  exact h _ (LeB.upd _ _ _) (getD_self _ _ _)
theorem dict_ok {ks : List Nat} {vs : List AV} {kvs : List (Nat × AV)} (e1 : ks.length = vs.length) (e2 : ks.Nodup) (e3 : ks.length ≤ 15) (e : ks.zip vs = kvs) (h : ∀ a H', H a = none → Le H H' → getD H' a = some kvs → Q (.dct a) ⟨l, c, H', hd⟩) : DICT ks vs ⟨l, c, H, hd⟩ Q :=
  ⟨e1, e2, e3, fun a n => h a _ n ((Le.refl H).new n) (e ▸ getD_self _ _ _)⟩
end
theorem viaC {T : Tab} {hk hk' : Hook} (e : hk = hk') {elt : ME} {t : Tgt} {ifs : List MT} {iv : AV} {vs r acc : List AV} {σ : AS} {K : List AV → AS → Prop} (h : COMP T hk' elt t ifs iv vs r acc σ K) : COMP T hk elt t ifs iv vs r acc σ K := by rw [e]; exact h
theorem tx_ints (ks : List Nat) : txV ks = (ks.map fun (k : Nat) => (k : Int)).map AV.int := by simp [txV]
theorem whole_tx {k : Nat} {hk : Hook} {H : AH} {b : Addr} {ks : List Nat} {l : List (Option AV)} {R : AV → AS → Prop} (e : hk = CallN TB (k + 1)) (g : getL H b = some (txV ks)) (hl : ks.length ≤ 5000) (h : ∀ H', Le H H' → R (.bool true) ⟨l, [], H', false⟩) :
    COMP TB hk (.call (.gfn F.l_whole) [(.cv 1)]) (.cv 1) [] (.lst b) (txV ks) (txV ks) [] ⟨l, [none, none, none], H, false⟩ (compK [] fun v σ => biW Bi.all [v] σ R) := by
  have g' : src H (.lst b) = some (txV ks) := g
  rw [tx_ints] at g' ⊢
  exact viaC e (whole_all g' (by rw [List.length_map]; omega) fun a n => h _ ((Le.refl H).new n))
theorem wd_ok8 {c : Nat} (hc : 1 ≤ c ∧ c ≤ 5) : PyData.strOk (wd c) = true := by
  rcases five hc with h | h | h | h | h <;> subst h <;> decide +kernel
theorem eq_word8 {H : AH} {a b : Addr} {c : Nat} {Q : Bool → Prop} (hc : 1 ≤ c ∧ c ≤ 5) (ga : getL H a = some [.str (wd c)]) (gb : getL H b = some [.str (wd c)]) (h : Q true) : eqW (.lst a) (.lst b) H Q := by
  have sh : PySem.SeqAt.shaped (.list [.str (wd c)]) = true := by simp [PySem.SeqAt.shaped, PyData.canLay0, PyData.canLayAll0, wd_ok8 hc, PyData.depth, PyData.depthAll]
  exact ⟨.list [.str (wd c)], .list [.str (wd c)], ⟨a, _, rfl, ga, rfl, True.intro⟩, ⟨b, _, rfl, gb, rfl, True.intro⟩, sh, sh, (by simpa [PyData.eqv, PyData.eqvAll] using h)⟩
/-- what a reader refuses -/
inductive BadHd (H : AH) (R : List Nat) : AV → Prop
  | non : BadHd H R .none
  | str (x : Str) : BadHd H R (.str x)
  | tup (x : List AV) : BadHd H R (.tup x)
  | len {a : Addr} {fs : List Nat} (h : getL H a = some (txV fs)) (hl : 4000 < (R ++ fs).length) (hs : (R ++ fs).length ≤ 9000) : BadHd H R (.lst a)
  | fig {a : Addr} {fs : List Nat} {b : AV} {r : List AV} (h : getL H a = some (txV fs ++ b :: r)) (hk : Bin fs) (hb : NotAm H 0 1 b) (hl : R.length + (txV fs ++ b :: r).length ≤ 4000) : BadHd H R (.lst a)
section
variable {k : Nat} {cs : List Int} {g : Int} {H : AH} {Q : AV → AH → Prop} {X : Nat → AH → Prop} {hk : Hook} {a d : Addr} {m : Nat} {rc rs : Addr} {R sg : List Nat}
end
end
section
/-! records: a reader and what the law keeps of it -/
structure Rc (H : AH) (Z : List Addr) (d dr sh : Addr) (cs : List Int) (g : Int) (m : Nat) (row R : List Nat) (ra rc rs rw tk sg : Addr) : Prop where
  gd : getD H d = some [(6, .obj 6 ra dr), (0, plV cs g), (1, .int m), (7, .lst rw), (8, .lst tk), (3, .lst sg), (9, .lst sh)]
  rd : Rd H dr cs g m rc rs R (cert m one cs g (fgd R))
  gw : getL H rw = some (txV row)
  gt : getL H tk = some (txV R)
  gs : getL H sg = some (txV (cert m one cs g (fgd R)))
  zc : rc ∉ Z
  zs : rs ∉ Z
  zw : rw ∉ Z
  zt : tk ∉ Z
  zg : sg ∉ Z
theorem Rd.fr {Z D : List Addr} {H H' : AH} {d rc rs : Addr} {cs : List Int} {g : Int} {m : Nat} {R sg : List Nat} (r : Rd H d cs g m rc rs R sg) (f : Fr Z D H H') (hd : d ∉ D) (h1 : rc ∉ Z) (h2 : rs ∉ Z) : Rd H' d cs g m rc rs R sg := ⟨f.d _ _ hd r.gd, f.l _ _ h1 r.gc, f.l _ _ h2 r.gs⟩
theorem Rc.fr {Z Z' D : List Addr} {H H' : AH} {d dr sh : Addr} {cs : List Int} {g : Int} {m : Nat} {row R : List Nat} {ra rc rs rw tk sg : Addr} (x : Rc H Z d dr sh cs g m row R ra rc rs rw tk sg) (f : Fr Z' D H H') (hz : ∀ z ∈ Z', z ∈ Z) (h1 : d ∉ D) (h2 : dr ∉ D) : Rc H' Z d dr sh cs g m row R ra rc rs rw tk sg :=
  ⟨f.d _ _ h1 x.gd, x.rd.fr f h2 (fun c => x.zc (hz _ c)) (fun c => x.zs (hz _ c)), f.l _ _ (fun c => x.zw (hz _ c)) x.gw, f.l _ _ (fun c => x.zt (hz _ c)) x.gt, f.l _ _ (fun c => x.zg (hz _ c)) x.gs, x.zc, x.zs, x.zw, x.zt, x.zg⟩
/-- a pair of equal lists -/
inductive Pr (H : AH) (Z : List Addr) (v : AV) : Prop
  | mk (x y : Addr) (ks : List Nat) (e : v = .tup [.lst x, .lst y]) (h1 : x ∉ Z) (h2 : y ∉ Z) (h3 : getL H x = some (txV ks)) (h4 : getL H y = some (txV ks))
inductive Shown (H : AH) (Z : List Addr) (sh : Addr) (n : Nat) : Prop
  | mk (ps : List AV) (g : getL H sh = some ps) (l : ps.length ≤ n) (a : ∀ v ∈ ps, Pr H Z v)
theorem Pr.fr {Z Z' D : List Addr} {H H' : AH} {v : AV} (f : Fr Z' D H H') (hz : ∀ z ∈ Z', z ∈ Z) : Pr H Z v → Pr H' Z v
  | ⟨x, y, ks, e, h1, h2, h3, h4⟩ => ⟨x, y, ks, e, h1, h2, f.l _ _ (fun c => h1 (hz _ c)) h3, f.l _ _ (fun c => h2 (hz _ c)) h4⟩
theorem Shown.fr {Z Z' D : List Addr} {H H' : AH} {sh : Addr} {n : Nat} (f : Fr Z' D H H') (hz : ∀ z ∈ Z', z ∈ Z) (hs : sh ∉ Z') : Shown H Z sh n → Shown H' Z sh n
  | ⟨ps, g, l, a⟩ => ⟨ps, f.l _ _ hs g, l, fun v hv => (a v hv).fr f hz⟩
theorem Shown.up {H : AH} {Z : List Addr} {sh : Addr} {n m : Nat} (h : n ≤ m) : Shown H Z sh n → Shown H Z sh m
  | ⟨ps, g, l, a⟩ => ⟨ps, g, Nat.le_trans l h, a⟩
theorem Fr.new {Z D : List Addr} {H H' : AH} {x : Addr} {o : AO} (f : Fr Z D H H') (n : H x = none) : Fr Z D H (H'.upd x o) :=
  ⟨fun _ _ h e => getL_ne (ne_of_new e n) (f.l _ _ h e), fun _ _ h e => getD_leB (LeB.upd x H' o) (ne_dn n e).symm (f.d _ _ h e)⟩
section
variable {k : Nat} {cs : List Int} {g : Int} {H : AH} {Q : AV → AH → Prop} {X : Nat → AH → Prop} {hk : Hook} {Z : List Addr} {d dr sh t : Addr} {m n : Nat} {row R : List Nat} {ra rc rs rw tk sg : Addr}
theorem tx_snoc (ks : List Nat) (j : Nat) : txV ks ++ [AV.int (j : Nat)] = txV (ks ++ [j]) := by simp [txV]
/-- a pair more -/
theorem Shown.add {ps : List AV} {y z : Addr} {ks : List Nat} (gp : getL H t = some ps) (hp : ps.length ≤ n) (ap : ∀ v ∈ ps, Pr H Z v) (ht : t ∈ Z) (ny : y ∉ Z) (nz : z ∉ Z) (gy : getL H y = some (txV ks)) (gz : getL H z = some (txV ks)) : Shown (H.upd t (.lst (ps ++ [.tup [.lst y, .lst z]]))) Z t (n + 1) := by
  have f : Fr [t] [] H (H.upd t (.lst (ps ++ [.tup [.lst y, .lst z]]))) := Fr.updL gp (.head _)
  have hz : ∀ z ∈ [t], z ∈ Z := fun z h => by rw [List.mem_singleton.mp h]; exact ht
  refine ⟨_, getL_self _ _ _, by rw [List.length_append]; exact Nat.succ_le_succ hp, fun v hv => ?_⟩
  rcases List.mem_append.mp hv with q | q
  · exact (ap v q).fr f hz
  · rw [List.mem_singleton.mp q]
    exact Pr.fr f hz ⟨y, z, ks, rfl, ny, nz, gy, gz⟩
end
end
section
section
variable {k : Nat} {cs : List Int} {g : Int} {H : AH} {Q : AV → AH → Prop} {X : Nat → AH → Prop} {hk : Hook} {Z : List Addr} {d dr sh t : Addr} {m n : Nat} {row R : List Nat} {ra rc rs rw tk sg : Addr}
end
end
section
section
variable {k : Nat} {cs : List Int} {g : Int} {H : AH} {Q : AV → AH → Prop} {X : Nat → AH → Prop} {hk : Hook} {Z : List Addr} {d dr sh t : Addr} {m n : Nat} {row R : List Nat} {ra rc rs rw tk sg : Addr}
end
end
section
section
variable {k : Nat} {cs : List Int} {g : Int} {H : AH} {Q : AV → AH → Prop} {X : Nat → AH → Prop} {hk : Hook} {Z : List Addr} {d dr sh t : Addr} {m n : Nat} {row R : List Nat} {ra rc rs rw tk sg : Addr}
theorem rep_one (z f : Nat) : (List.replicate z [AV.int (f : Nat)]).flatten = txV (List.replicate z f) := by
  rw [List.flatten_replicate_singleton]; simp [txV]
theorem LeB.after {H₁ H₂ : AH} (l : Le H H₁) (nd : H d = Option.none) (h : LeB d H₁ H₂) : Le H H₂ := fun a o e => h a o (fun c => by rw [c, nd] at e; exact nomatch e) (l a o e)
end
end
section
section
variable {k : Nat} {cs : List Int} {g : Int} {H : AH} {Q : AV → AH → Prop} {X : Nat → AH → Prop} {hk : Hook} {Z : List Addr} {d dr sh t : Addr} {m n : Nat} {row R : List Nat} {ra rc rs rw tk sg : Addr}
end
end
section
/-! two records and the law's own list -/
inductive Rec (H : AH) (Z : List Addr) (d dr sh : Addr) (q : Nat) : Prop
  | mk (cs : List Int) (g : Int) (m : Nat) (row R : List Nat) (ra rc rs rw tk sg : Addr) (p : PlanOk cs g) (hm : m ≤ 60) (hw : Bin row) (hwl : row.length ≤ 1000) (hR : Bin R) (hl : R.length ≤ 6 * q) (x : Rc H Z d dr sh cs g m row R ra rc rs rw tk sg)
structure Sep (Z : List Addr) (d r s d' r' s' t : Addr) : Prop where
  a1 : d ≠ r
  a2 : d' ≠ r'
  a3 : d ≠ d'
  a4 : d ≠ r'
  a5 : r ≠ d'
  a6 : r ≠ r'
  b1 : s ≠ s'
  b2 : s ≠ t
  b3 : s' ≠ t
  z1 : s ∈ Z
  z2 : s' ∈ Z
  z3 : t ∈ Z
  inv : ∀ z ∈ Z, z = s ∨ z = s' ∨ z = t
theorem Sep.swap {Z : List Addr} {d r s d' r' s' t : Addr} (x : Sep Z d r s d' r' s' t) : Sep Z d' r' s' d r s t :=
  ⟨x.a2, x.a1, x.a3.symm, x.a5.symm, x.a4.symm, x.a6.symm, x.b1.symm, x.b3, x.b2, x.z2, x.z1, x.z3, fun z hz => (x.inv z hz).elim (fun c => .inr (.inl c)) fun c => c.elim .inl fun c => .inr (.inr c)⟩
structure Two (H : AH) (Z : List Addr) (d r s d' r' s' t : Addr) (q n : Nat) : Prop where
  x : Rec H Z d r s q
  y : Rec H Z d' r' s' q
  u : Shown H Z s n
  v : Shown H Z s' n
  w : Shown H Z t n
theorem Two.swap {H : AH} {Z : List Addr} {d r s d' r' s' t : Addr} {q n : Nat} (x : Two H Z d r s d' r' s' t q n) : Two H Z d' r' s' d r s t q n := ⟨x.y, x.x, x.v, x.u, x.w⟩
theorem Shown.live {H : AH} {Z : List Addr} {s : Addr} {n : Nat} : Shown H Z s n → ∃ vs, getL H s = some vs
  | ⟨ps, g, _, _⟩ => ⟨ps, g⟩
theorem Two.live {H : AH} {Z : List Addr} {d r s d' r' s' t : Addr} {q n : Nat} (x : Two H Z d r s d' r' s' t q n) (S : Sep Z d r s d' r' s' t) : ∀ z ∈ Z, ∃ vs, getL H z = some vs := fun z hz => by
  rcases S.inv z hz with e | e | e <;> subst e
  · exact x.u.live
  · exact x.v.live
  · exact x.w.live
theorem Rec.fr {H H' : AH} {Z Z' D : List Addr} {d r s : Addr} {q p : Nat} (f : Fr Z' D H H') (hz : ∀ z ∈ Z', z ∈ Z) (h1 : d ∉ D) (h2 : r ∉ D) (hq : q ≤ p) : Rec H Z d r s q → Rec H' Z d r s p
  | ⟨cs, g, m, row, R, ra, rc, rs, rw, tk, sg, a1, a2, a3, a4, a5, a6, x⟩ => ⟨cs, g, m, row, R, ra, rc, rs, rw, tk, sg, a1, a2, a3, a4, a5, by (clear a2 a4; omega), x.fr f hz h1 h2⟩
section
variable {k : Nat} {H : AH} {Q : AV → AH → Prop} {X : Nat → AH → Prop} {Z : List Addr} {d r s d' r' s' t e : Addr} {q n : Nat}
end
theorem idx_two {i : Int} {bo d d' : Addr} {σ : AS} {Q : AV → AS → Prop} (hi : 0 ≤ i ∧ i < 2) (g : getL σ.H bo = some [.dct d, .dct d']) (h : ∀ e, e = d ∨ e = d' → Q (.dct e) σ) : idxW (.lst bo) (.int i) σ Q := by
  refine idx_any hi.1 (by show i < 2; omega) (Nat.le_of_ble_eq_true rfl) g fun v hv => ?_
  simp only [List.mem_cons, List.not_mem_nil, or_false] at hv
  rcases hv with c | c <;> subst c
  · exact h d (.inl rfl)
  · exact h d' (.inr rfl)
/-- no pair is unlike -/
theorem fin_comp {hk : Hook} {H : AH} {l : List (Option AV)} {b : Addr} {vs : List AV} {K : List AV → AS → Prop} (hs : src H (.lst b) = some vs) : ∀ (us : List AV) (x y z : Option AV) (_ : ∀ v ∈ us, Pr H [] v) (_ : ∀ w, K [] ⟨l, w, H, false⟩),
    COMP TB hk (.cInt 1) (.tupc [1, 2]) [.e (.cmp .ne (.cv 1) (.cv 2))] (.lst b) vs us [] ⟨l, [x, y, z], H, false⟩ K
  | [], _, _, _, _, h => COMP_nil hs (h _)
  | v :: us, x, y, z, hp, h => by
    obtain ⟨x1, y1, ks, rfl, _, _, g1, g2⟩ := hp v (.head _)
    refine COMP_cons hs ⟨rfl, rfl, ?_⟩
    show WT TB hk _ ⟨l, [x, some (.lst x1), some (.lst y1)], H, false⟩ _ _
    walk_at "v"
    refine cmp_ne (eq_txt g1 g2 ?_)
    rw [decide_eq_true rfl]
    walk_at "v"
    refine ⟨Nat.zero_le _, ?_⟩
    exact fin_comp hs us _ _ _ (fun v hv => hp v (.tail _ hv)) h
end
section
/-! figures from the top -/
noncomputable def mb : Nat → Nat → List Nat
  | 0, _ => []
  | j + 1, N => N / 2 ^ j % 2 :: mb j N
theorem mb_len : ∀ (j N : Nat), (mb j N).length = j
  | 0, _ => rfl
  | j + 1, N => congrArg Nat.succ (mb_len j N)
theorem mb_bin : ∀ (j N : Nat), Bin (mb j N)
  | 0, _ => fun _ c => nomatch c
  | j + 1, N => fun b h => by
    rcases List.mem_cons.mp h with c | c
    · rw [c]; omega
    · exact mb_bin j N b c
theorem num_cons (x : Nat) (xs : List Nat) : num (x :: xs) = x * 2 ^ xs.length + num xs := by
  show (x :: xs).foldl _ 0 = _
  simp only [List.foldl_cons]; rw [num_fold]; simp
theorem mb_num : ∀ (j N : Nat), num (mb j N) = N % 2 ^ j
  | 0, N => by simp [mb, num, Nat.mod_one]
  | j + 1, N => by
    show num (N / 2 ^ j % 2 :: mb j N) = _
    rw [num_cons, mb_len, mb_num j N, Nat.mod_pow_succ, Nat.mul_comm, Nat.add_comm]
theorem cl_div9 {l p t : Int} (h : 0 < t) : (l * p + t - 1) / t = cl l p t := by
  have h1 := cl_le (l := l) (p := p) h
  have h2 := cl_lt (l := l) (p := p) h
  have h3 := Int.mul_ediv_add_emod (l * p + t - 1) t
  have h4 := Int.emod_nonneg (l * p + t - 1) (show t ≠ 0 by (clear h1 h2; omega))
  have h5 := Int.emod_lt_of_pos (l * p + t - 1) h
  generalize (l * p + t - 1) / t = x at h3 ⊢
  generalize cl l p t = y at h1 h2 ⊢
  have a : x * t < (y + 1) * t := by rw [Int.add_mul, Int.mul_comm x]; (clear h h5 h2; omega)
  have b : y * t < (x + 1) * t := by rw [Int.add_mul, Int.mul_comm x]; (clear h h4 h1 a; omega)
  have := Int.lt_of_mul_lt_mul_right a (Int.le_of_lt h)
  have := Int.lt_of_mul_lt_mul_right b (Int.le_of_lt h)
  (clear h h4 h5 h3 h1 h2 a b; omega)
theorem Sure.same {n : Nat} {S : Sg} {a b : List Nat} (so : StOk n S) (x : Sure S a) (y : Sure S b) : a = b := by
  have h1 := sure_pre so so (Wi.refl S) x.bin x.wi y
  have h2 := sure_pre so so (Wi.refl S) y.bin y.wi x
  have e1 := congrArg List.length h1
  have e2 := congrArg List.length h2
  rw [List.length_take] at e1 e2
  rw [← h1, List.take_of_length_le (by (clear e1; omega))]
section
variable {k : Nat} {cs : List Int} {g : Int} {H : AH} {Q : AV → AH → Prop} {X : Nat → AH → Prop} {hk : Hook} {a d : Addr} {wc wg : Addr} {cm gv : List Nat} {en : Bool}
theorem few9_loop {H₀ : AH} {b : Addr} {x0 x1 x2 x3 x4 x6 : Option AV} {N : Nat} {m : Int} {ws : List AV} {QS : Out → AS → Prop} {XS : Nat → AS → Prop} (nb : H₀ b = none) (hs : ∀ H, src H (.rng 0 m) = some ws) : ∀ (rs : List AV) (pre : List Nat) (H : AH) (x9 : Option AV) (_ : Le H₀ H) (_ : getL H b = some (txV pre)) (_ : pre.length + rs.length ≤ 9000) (_ : rs.length ≤ 8900)
    (_ : ∀ H' x5 x9, Le H₀ H' → getL H' b = some (txV (pre ++ mb rs.length N)) → QS .next ⟨[x0, x1, x2, x3, x4, x5, x6, some (.int (N : Nat)), some (.lst b), x9, none], [], H', false⟩),
    FOR TB hk (.loc 9) [
    .asg (.loc 5) (.bin .fdiv (.loc 5) (.cInt 2)),
    .expr (.meth (.loc 8) Mt.append [(.bin .mod (.bin .fdiv (.loc 7) (.loc 5)) (.cInt 2))])] (.rng 0 m) ws rs ⟨[x0, x1, x2, x3, x4, some (.int (2 ^ rs.length)), x6, some (.int (N : Nat)), some (.lst b), x9, none], [], H, false⟩ QS XS
  | [], pre, H, x9, le, hg, hl, _, h => FOR_nil (hs _) (h H _ x9 le (by rw [hg]; simp [mb]))
  | r :: rs, pre, H, x9, le, hg, hl, hr, h => by
    refine FOR_cons (hs _) ?_
    rw [List.length_cons] at hl hr
    walk_at "v"
    refine ⟨div_s (by decide) (by decide), ?_⟩
    rw [hg]
    rw [show (2 : Int) ^ (rs.length + 1) / 2 = 2 ^ rs.length by rw [Int.pow_succ]; exact Int.mul_ediv_cancel _ (by decide)]
    refine ⟨rfl, ⟨pow_pos _, rs.length + 1, pm_lt _, by (clear hl; omega)⟩, by decide, ?_⟩
    refine ⟨by rw [List.length_map]; show _ ≤ 1000000; omega, ?_⟩
    have ev : ((N : Nat) : Int) / 2 ^ rs.length % 2 = ((N / 2 ^ rs.length % 2 : Nat) : Int) := by simp
    rw [ev, tx_snoc]
    refine few9_loop nb hs rs (pre ++ [N / 2 ^ rs.length % 2]) _ _ (le.new nb) (getL_self _ _ _) (by rw [List.length_append]; show _ + 1 + _ ≤ _; (clear hr ev; omega)) (by (clear hl ev; omega)) fun H' x5 x9 l' g' => h H' x5 x9 l' ?_
    rw [g', List.append_assoc]; rfl
theorem l_fewest09_ok {s : Sg} {n : Nat} (so : StOk n s) (hn : n ≤ 8000) (h : ∀ b fs H', H b = none → Le H H' → Figs s fs → getL H' b = some (txV fs) → Q (.lst b) H') : CallN TB (k + 1) F.l_fewest09 [stV s] H false Q X := by
  refine ⟨rfl, ?_⟩
  simp only [D.l_fewest09, stV]
  walk_at "e"
  have sa := so.abs
  have t0 := so.t0
  walk_at "v"
  refine ⟨⟨t0, n + 1, sa.2.2.1, by (clear sa t0; omega)⟩, ?_⟩
  have e0 := cl_div9 (l := s.l) (p := 1) t0
  rw [Int.mul_one] at e0
  rw [e0]
  refine s_while (I := fun j σ => ∃ m : Nat, j + m = n + 2 ∧ (∀ i, i < m → ¬ Fit s i) ∧ σ = ⟨[some (.tup [.int s.l, .int s.w, .int s.t]), some (.int s.l), some (.int s.w), some (.int s.t), some (.int (s.l + s.w)), some (.int (2 ^ m)), some (.int (m : Nat)), some (.int (cl s.l (2 ^ m) s.t)), none, none, none], [], H, false⟩) (n + 2) ⟨0, by (clear hn sa t0 e0; omega), fun i h => absurd h (Nat.not_lt_zero i), rfl⟩ ?_
  rintro j _ ⟨m, hj, hf, rfl⟩
  have hm : m ≤ n + 1 := by
    rcases Nat.lt_or_ge (n + 1) m with q | q
    · exact absurd (fit_end so (Nat.le_refl _)) (hf _ q)
    · exact q
  have pm := pm_lt m
  have ar := ar1 hn hm
  walk_at "v"
  refine ⟨mul_n (m + 3) _ (cl_abs so) sa.2.2.1 ar.2.2.2.1, mul_n _ _ sa.2.2.2 pm ar.2.1, ?_⟩
  by_cases f : Fit s m
  · rw [decide_eq_false (show ¬ (cl s.l (2 ^ m) s.t + 1) * s.t > (s.l + s.w) * 2 ^ m from Int.not_lt.mpr f)]
    walk_at "v"
    refine new_ok (Nat.le_of_ble_eq_true rfl) fun b H1 n1 l1 g1 => ?_
    walk_at "v"
    obtain ⟨N, e, hN⟩ := fit_num so f
    rw [e]
    refine ⟨⟨by (clear hn sa t0 e0 hj hm pm e hN; omega), by (clear hn sa t0 e0 hj hm pm e hN; omega)⟩, ?_⟩
    have el : (rngL 0 (m : Nat)).length = m := by simp [rngL]
    have hp : (2 : Int) ^ m = 2 ^ (rngL 0 ((m : Nat) : Int)).length := by rw [el]
    rw [hp]
    refine few9_loop n1 (fun _ => rfl) (rngL 0 ((m : Nat) : Int)) [] H1 _ l1 g1 (by rw [el]; show 0 + m ≤ _; (clear sa t0 e0 pm e hN hp; omega)) (by rw [el]; (clear sa t0 e0 pm e hN hp; omega)) fun H' x5 x9 l' g' => ?_
    rw [el, List.nil_append] at g'
    walk_at "v"
    refine h b _ H' n1 l' ⟨?_, ?_, ?_, mb_bin m N⟩ g'
    · rw [mb_len]; exact f
    · rw [mb_len]; exact hf
    · rw [mb_len, mb_num, Nat.mod_eq_of_lt hN]; exact e.symm
  · rw [decide_eq_true (show (cl s.l (2 ^ m) s.t + 1) * s.t > (s.l + s.w) * 2 ^ m from Int.not_le.mp f)]
    walk_at "v"
    have e2 : (2 : Int) * 2 ^ m = 2 ^ (m + 1) := by rw [Int.pow_succ, Int.mul_comm]
    rw [e2]
    refine ⟨mul_l (by decide), mul_n _ _ sa.1 (pm_lt (m + 1)) (by (clear hn sa t0 e0 hm pm e2; omega)), ⟨t0, n + 1, sa.2.2.1, by (clear sa t0 e0 hm pm ar e2; omega)⟩, ?_⟩
    rw [cl_div9 t0]
    refine ⟨j - 1, by (clear hn sa t0 e0 pm ar e2; omega), m + 1, by (clear hn sa t0 e0 pm ar e2; omega), fun i hi => ?_, rfl⟩
    rcases Nat.lt_or_ge i m with q | q
    · exact hf i q
    · rw [show i = m by (clear hn sa t0 e0 hj hm pm ar e2; omega)]; exact f
end
end
section
/-! what a writer refuses -/
inductive BadSg (H : AH) (n : Nat) (cm : List Nat) : AV → Prop
  | non : BadSg H n cm .none
  | int (x : Int) : BadSg H n cm (.int x)
  | tup (x : List AV) : BadSg H n cm (.tup x)
  | len {a : Addr} {ks : List Nat} (h : getL H a = some (txV ks)) (hl : 60 < (cm ++ ks).length) (hs : (cm ++ ks).length ≤ 9000) : BadSg H n cm (.lst a)
  | sgn {a : Addr} {ks : List Nat} {b : AV} {r : List AV} (h : getL H a = some (txV ks ++ b :: r)) (hk : ∀ k ∈ ks, k < n) (hb : NotAm H 0 (n - 1) b) (hl : cm.length + (txV ks ++ b :: r).length ≤ 60) : BadSg H n cm (.lst a)
section
variable {k : Nat} {cs : List Int} {g : Int} {H : AH} {Q : AV → AH → Prop} {X : Nat → AH → Prop} {hk : Hook} {a d : Addr} {wc wg : Addr} {cm gv : List Nat} {en : Bool}
theorem Writer_init_np {v : AV} (hb : BadPl H v) (h : X Cl.BadPlan H) : CallN TB (k + 4) F.Writer_init [.obj 7 a d, v] H false Q X := by
  refine ⟨rfl, ?_⟩
  simp only [D.Writer_init]
  walk_at "e"
  walk_at "v"
  refine need_plan_no hb ?_
  walk_at "v"
  exact h
theorem Writer_need_open_no {kvs : List (Nat × AV)} (gd : getD H d = some kvs) (e : kvs.lookup 5 = some (.bool true)) (h : X Cl.Ended H) : CallN TB (k + 1) F.Writer_need_open [.obj 7 a d] H false Q X := by
  refine ⟨rfl, ?_⟩
  simp only [D.Writer_need_open]
  walk_at "e"
  walk_at "v"
  refine attr_ok gd e ?_
  walk_at "v"
  exact h
theorem Writer_take_ended {v : AV} (r : Wr H d cs g wc wg cm gv true) (h : X Cl.Ended H) : CallN TB (k + 2) F.Writer_take [.obj 7 a d, v] H false Q X := by
  refine ⟨rfl, ?_⟩
  simp only [D.Writer_take]
  walk_at "e"
  walk_at "v"
  rw [r.gd]
  refine ⟨rfl, ?_⟩
  refine Writer_need_open_no r.gd rfl ?_
  walk_at "v"
  exact h
theorem Writer_end_ended (r : Wr H d cs g wc wg cm gv true) (h : X Cl.Ended H) : CallN TB (k + 2) F.Writer_end [.obj 7 a d] H false Q X := by
  refine ⟨rfl, ?_⟩
  simp only [D.Writer_end]
  walk_at "e"
  walk_at "v"
  rw [r.gd]
  refine ⟨rfl, ?_⟩
  refine Writer_need_open_no r.gd rfl ?_
  walk_at "v"
  exact h
theorem Writer_take_by {f : Addr} {ws : List AV} (p : PlanOk cs g) (r : Wr H d cs g wc wg cm gv false) (gf : getL H f = some ws) (hl : (txV cm ++ ws).length ≤ 1000000) (hb : ∀ c H', Le H H' → getL H' c = some (txV cm ++ ws) → BadTx H' cs.length (.lst c)) (h : ∀ H', Le H H' → X Cl.BadSign H') : CallN TB (k + 5) F.Writer_take [.obj 7 a d, .lst f] H false Q X := by
  refine ⟨rfl, ?_⟩
  simp only [D.Writer_take]
  walk_at "e"
  walk_at "v"
  rw [r.gd]
  refine ⟨rfl, ?_⟩
  refine Writer_need_open_ok r.gd rfl ?_
  walk_at "v"
  rw [gf]
  walk_at "v"
  refine attr_ok r.gd rfl ?_
  walk_at "v"
  refine add_ok r.gc gf hl fun c1 H1 n1 l1 g1 => ?_
  have r1 := r.le l1
  walk_at "v"
  refine attr_ok r1.gd rfl ?_
  walk_at "v"
  refine need_signs_no p (hb c1 H1 l1 g1) ?_
  walk_at "v"
  exact h H1 l1
theorem Writer_take_not {v : AV} (r : Wr H d cs g wc wg cm gv false) (hv : lives H v = true) (hi : isi v (.typ Ty.list) = some false) (h : X Cl.BadSign H) : CallN TB (k + 2) F.Writer_take [.obj 7 a d, v] H false Q X := by
  refine ⟨rfl, ?_⟩
  simp only [D.Writer_take]
  walk_at "e"
  walk_at "v"
  rw [r.gd]
  refine ⟨rfl, ?_⟩
  refine Writer_need_open_ok r.gd rfl ?_
  walk_at "v"
  show lives H v = true ∧ need (isi v (.typ Ty.list)) _
  refine ⟨hv, ?_⟩
  rw [hi]
  walk_at "v"
  exact h
theorem Writer_take_no {v : AV} (p : PlanOk cs g) (r : Wr H d cs g wc wg cm gv false) (hc : TxOk cs cm) (hb : BadSg H cs.length cm v) (h : ∀ H', Le H H' → X Cl.BadSign H') : CallN TB (k + 5) F.Writer_take [.obj 7 a d, v] H false Q X := by
  cases hb with
  | len gf hl hs => exact Writer_take_by p r gf (by rw [tx_app, List.length_map]; omega) (fun c H' l q => .len q (by rw [tx_app, List.length_map]; (clear hs; omega))) h
  | sgn gf hk hb hl =>
    refine Writer_take_by p r gf (by rw [List.length_append, List.length_map]; omega) (fun c H' l q => ?_) h
    rw [← List.append_assoc, tx_app] at q
    refine .sgn q (fun x hx => (List.mem_append.mp hx).elim (hc x) (hk x)) (hb.le l) ?_
    rw [← tx_app, List.append_assoc, List.length_append, List.length_map]; exact hl
  | non => exact Writer_take_not (k := k + 3) r rfl rfl (h H (Le.refl H))
  | int x => exact Writer_take_not (k := k + 3) r rfl rfl (h H (Le.refl H))
  | tup x => exact Writer_take_not (k := k + 3) r rfl rfl (h H (Le.refl H))
end
end
section
/-! records: a writer and what the law keeps of it -/
/-- the figures told so far -/
noncomputable def Told (cs : List Int) (g : Int) (cm gv : List Nat) : Bool → Prop
  | false => Sure (str one cs g cm) gv
  | true => Figs (str one cs g cm) gv
structure Wc (H : AH) (Z : List Addr) (d dw sh : Addr) (cs : List Int) (g : Int) (cm gv : List Nat) (ov : Bool) (wa wc wg sg fg : Addr) : Prop where
  gd : getD H d = some [(10, .obj 7 wa dw), (0, plV cs g), (3, .lst sg), (11, .lst fg), (12, .bool ov), (9, .lst sh)]
  wr : Wr H dw cs g wc wg cm gv ov
  gs : getL H sg = some (txV cm)
  gf : getL H fg = some (txV gv)
  zc : wc ∉ Z
  zg : wg ∉ Z
  zs : sg ∉ Z
  zf : fg ∉ Z
theorem Wr.fr {Z D : List Addr} {H H' : AH} {d wc wg : Addr} {cs : List Int} {g : Int} {cm gv : List Nat} {en : Bool} (r : Wr H d cs g wc wg cm gv en) (f : Fr Z D H H') (hd : d ∉ D) (h1 : wc ∉ Z) (h2 : wg ∉ Z) : Wr H' d cs g wc wg cm gv en := ⟨f.d _ _ hd r.gd, f.l _ _ h1 r.gc, f.l _ _ h2 r.gg⟩
theorem Wc.fr {Z Z' D : List Addr} {H H' : AH} {d dw sh : Addr} {cs : List Int} {g : Int} {cm gv : List Nat} {ov : Bool} {wa wc wg sg fg : Addr} (x : Wc H Z d dw sh cs g cm gv ov wa wc wg sg fg) (f : Fr Z' D H H') (hz : ∀ z ∈ Z', z ∈ Z) (h1 : d ∉ D) (h2 : dw ∉ D) : Wc H' Z d dw sh cs g cm gv ov wa wc wg sg fg :=
  ⟨f.d _ _ h1 x.gd, x.wr.fr f h2 (fun c => x.zc (hz _ c)) (fun c => x.zg (hz _ c)), f.l _ _ (fun c => x.zs (hz _ c)) x.gs, f.l _ _ (fun c => x.zf (hz _ c)) x.gf, x.zc, x.zg, x.zs, x.zf⟩
section
variable {k : Nat} {cs : List Int} {g : Int} {H : AH} {Q : AV → AH → Prop} {X : Nat → AH → Prop} {hk : Hook} {Z : List Addr} {d dw sh t : Addr} {n : Nat} {cm gv : List Nat} {ov : Bool} {wa wc wg sg fg : Addr}
theorem l_seen09_ok (x : Wc H Z d dw sh cs g cm gv ov wa wc wg sg fg) (hg : gv.length ≤ 1500) (hz : ∀ z ∈ Z, ∃ vs, getL H z = some vs) (ht : t ∈ Z) (s : Shown H Z t n) (hn : n ≤ 100)
    (h : ∀ H', Fr [t] [] H H' → Shown H' Z t (n + 1) → Q (.bool true) H') : CallN TB (k + 3) F.l_seen09 [.dct d, .lst t] H false Q X := by
  refine ⟨rfl, ?_⟩
  generalize eh : CallN TB (k + 2) = hk
  replace eh := eh.symm
  simp only [D.l_seen09]
  walk_at "e"
  walk_at "v"
  refine key_ok x.gd rfl ?_
  walk_at "v"
  rw [x.wr.gd]
  refine ⟨rfl, ?_⟩
  refine via eh (Writer_told_ok x.wr (by (clear hn; omega)) fun b1 H1 n1 l1 g1 => ?_)
  have f1 : Fr [t] [] H H1 := l1.fr
  have x1 := x.fr f1 (fun z h => by rw [List.mem_singleton.mp h]; exact ht) (fun c => nomatch c) (fun c => nomatch c)
  walk_at "v"
  rw [g1]
  walk_at "v"
  refine key_ok x1.gd rfl ?_
  walk_at "v"
  refine cmp_ne (eq_txt g1 x1.gf ?_)
  rw [decide_eq_true rfl]
  walk_at "v"
  rw [g1]
  walk_at "v"
  refine whole_tx eh g1 (by (clear hn; omega)) fun H2 l2 => ?_
  have g2 := getL_le l2 g1
  have l02 := l1.trans l2
  walk_at "v"
  rw [g2]
  refine ⟨rfl, ?_⟩
  refine ⟨by rw [List.length_map]; show _ ≤ 1000000; (clear hn; omega), ?_⟩
  obtain ⟨ps, gp, hp, ap⟩ := s
  generalize e3 : H2.upd b1 _ = H3
  have f3 : Fr [] [] H H3 := e3 ▸ l02.fr.new n1
  have g3 : getL H3 b1 = some (txV (gv ++ [9])) := by rw [← e3, getL_self]; simp [txV]
  clear e3 g1 g2 l1 l2 l02 f1 x1
  have gp3 := f3.l _ _ (fun c => nomatch c) gp
  rw [gp3]
  refine ⟨rfl, ?_⟩
  refine tolist_ok g3 (by rw [List.length_map, List.length_append]; show gv.length + 1 ≤ _; (clear hn hp; omega)) fun b4 H4 n4 l4 g4 => ?_
  have f4 : Fr [] [] H H4 := f3.trans l4.fr
  have gp4 := getL_le l4 gp3
  have g34 := getL_le l4 g3
  have ny : b1 ∉ Z := not_live hz n1
  have nz : b4 ∉ Z := not_live (fun z hz' => (hz z hz').imp fun vs gv => f3.l _ _ (fun c => nomatch c) gv) n4
  walk_at "v"
  refine ⟨by decide, ?_⟩
  rw [gp4]
  refine ⟨by show _ ≤ 1000000; (clear hg; omega), ?_⟩
  have s5 := Shown.add gp4 hp (fun v hv => (ap v hv).fr f4 (fun _ c => nomatch c)) ht ny nz g34 g4
  have f5 : Fr [t] [] H4 (H4.upd t (.lst (ps ++ [.tup [.lst b1, .lst b4]]))) := Fr.updL gp4 (.head _)
  have f05 := (f4.mono (Z' := [t]) (fun _ c => nomatch c) (fun _ c => c)).trans f5
  generalize H4.upd t _ = H5 at s5 f05
  walk_at "v"
  exact h H5 f05 s5
end
end
section
section
variable {k : Nat} {cs : List Int} {g : Int} {H : AH} {Q : AV → AH → Prop} {X : Nat → AH → Prop} {hk : Hook} {Z : List Addr} {d dw sh t : Addr} {n : Nat} {cm gv : List Nat} {ov : Bool} {wa wc wg sg fg : Addr}
noncomputable abbrev t9B : List MS := [
  .ite (.any [(.e (.cmp .ne (.loc 6) (.lst []))), (.e (.cmp .ne (.loc 3) (.loc 2)))]) [
    .ret (.cBool false)] [],
  .expr (.meth (.loc 3) Mt.append [(.cInt 0)]),
  .setKey (.loc 0) Ky.signs (.bin .add (.key (.loc 0) Ky.signs) (.loc 2)),
  .asg (.loc 9) (.call (.gfn F.l_sure) [(.key (.loc 0) Ky.plan), (.key (.loc 0) Ky.signs)]),
  .ite (.any [(.not (.e (.call (.gbi Bi.isinstance) [(.loc 7), (.gty Ty.list)]))), (.e (.cmp .ne (.loc 7) (.slc (.loc 9) (.call (.gbi Bi.len) [(.key (.loc 0) Ky.figures)]) .cNone)))]) [
    .ret (.cBool false)] [],
  .ite (.not (.e (.call (.gbi Bi.all) [(.comp 3 (.call (.gfn F.l_whole) [(.cv 1)]) (.cv 1) (.loc 7) [])]))) [
    .ret (.cBool false)] [],
  .expr (.meth (.loc 7) Mt.append [(.cInt 7)]),
  .expr (.meth (.key (.loc 0) Ky.shown) Mt.append [(.tup [(.loc 7), (.call (.gty Ty.list) [(.loc 7)])])]),
  .setKey (.loc 0) Ky.figures (.loc 9),
  .ret (.cBool true)]
/-- what is done behind a take that goes well; H₀ is the heap ahead of all -/
theorem take9_rest (e : hk = CallN TB (k + 7)) {H₀ : AH} {u v w1 w4 w5 : Option AV} {sa ha b da wc' wg' : Addr} {ks bs : List Nat} {r : List (Option AV)} {QS : Out → AS → Prop} {XS : Nat → AS → Prop}
    (p : PlanOk cs g) (hdd : d ≠ dw) (ht : TxOk cs (cm ++ ks)) (hl : (cm ++ ks).length ≤ 60) (hgv : gv.length ≤ 1500)
    (x : Wc H₀ Z d dw sh cs g cm gv false wa wc wg sg fg) (hz : ∀ z ∈ Z, ∃ vs, getL H₀ z = some vs) (hsh : sh ∈ Z) (s : Shown H₀ Z sh n) (hn : n ≤ 100)
    (f : Fr [] [dw] H₀ H) (wr : Wr H dw cs g wc' wg' (cm ++ ks) bs false) (hs : Sure (str one cs g (cm ++ ks)) bs) (ga : getL H sa = some (txV ks)) (gh : getL H ha = some (txV ks)) (gb : getL H b = some (txV (bs.drop gv.length))) (gda : getL H da = some [])
    (nh : H₀ ha = none) (nb : H₀ b = none) (nc : H₀ wc' = none) (ng : H₀ wg' = none) (d1 : sa ≠ ha) (d2 : b ≠ ha) (d3 : wc' ≠ ha) (d4 : wg' ≠ ha) (d6 : b ≠ wc') (d7 : b ≠ wg')
    (h : ∀ sg' fg' H', Fr [sh] [d, dw] H₀ H' → Wc H' Z d dw sh cs g (cm ++ ks) bs false wa wc' wg' sg' fg' → Shown H' Z sh (n + 1) → ∀ l, QS (.ret (.bool true)) ⟨l, [], H', false⟩) :
    WSs TB hk t9B ⟨some (.dct d) :: w1 :: some (.lst sa) :: some (.lst ha) :: w4 :: w5 :: some (.lst da) :: some (.lst b) :: u :: v :: r, [], H, false⟩ QS XS := by
  have so := str_ok one_ok p ht
  have bl := sure_len so hs.wi
  walk_at "v"
  refine new_ok (Nat.le_of_ble_eq_true rfl) fun b0 H0 n0 l0 g0 => ?_
  refine cmp_ne (eq_txt (ks := []) (js := []) (getL_le l0 gda) g0 ?_)
  rw [decide_eq_true rfl]
  replace f := f.trans l0.fr
  replace wr := wr.le l0
  replace ga := getL_le l0 ga
  replace gh := getL_le l0 gh
  replace gb := getL_le l0 gb
  clear gda g0 l0 n0
  have f0 : Fr [] [d, dw] H₀ H0 := f.mono (fun _ q => q) (fun _ q => .tail _ q)
  have gd := f.d _ _ (fun q => hdd (List.mem_singleton.mp q)) x.gd
  walk_at "v"
  refine cmp_ne (eq_txt gh ga ?_)
  rw [decide_eq_true rfl]
  walk_at "v"
  rw [gh]
  refine ⟨rfl, ?_⟩
  refine ⟨by rw [List.length_map]; show _ ≤ 1000000; rw [List.length_append] at hl; (clear hdd hgv hn d1 d2 d3 d4 d6 d7 bl; omega), ?_⟩
  generalize e1 : H0.upd ha _ = H1
  have f1 : Fr [] [d, dw] H₀ H1 := e1 ▸ f0.new nh
  have r1 : Wr H1 dw cs g wc' wg' (cm ++ ks) bs false := e1 ▸ wr.upd gh d3 d4
  have gf1 : getL H1 sa = some (txV ks) := e1 ▸ getL_ne d1 ga
  have gb1 : getL H1 b = some _ := e1 ▸ getL_ne d2 gb
  have gd1 : getD H1 d = _ := e1 ▸ getD_leB (LeB.upd ha H0 _) (ne_dl gh gd).symm gd
  clear e1 ga gh gb gd wr d1 d2 d3 d4 f0 f
  refine key_ok gd1 rfl ?_
  walk_at "v"
  refine add_ok (f1.l _ _ (fun q => nomatch q) x.gs) gf1 (sml2 (by (clear hdd hgv hn d6 d7 bl; omega))) fun sg' H2 n2 l2 g2 => ?_
  rw [tx_app] at g2
  have f2 : Fr [] [d, dw] H₀ H2 := f1.trans l2.fr
  have gb2 := getL_le l2 gb1
  have r2 := r1.le l2
  have gd2 := getD_le l2 gd1
  have nt : sg' ∉ Z := not_live (fun z hz' => (hz z hz').imp fun vs gv => f1.l _ _ (fun c => nomatch c) gv) n2
  have tb : sg' ≠ b := (ne_of_new gb1 n2).symm
  clear gf1 gb1 r1 gd1 n2 l2 f1
  walk_at "v"
  refine setK_ok gd2 rfl rfl fun H3 l3 gd3 => ?_
  have f3 : Fr [] [d, dw] H₀ H3 := f2.trans (l3.fr gd2 (.head _))
  have r3 := r2.leB l3 hdd.symm gd2
  have gb3 := getL_leB l3 (ne_dl gb2 gd2) gb2
  have g3 := getL_leB l3 (ne_dl g2 gd2) g2
  clear f2 r2 gb2 g2 gd2 l3
  walk_at "v"
  refine key_ok gd3 rfl ?_
  walk_at "v"
  refine key_ok gd3 rfl ?_
  walk_at "v"
  refine via e (l_sure_ok (k := k + 4) p g3 ht hl fun fg' bs' H4 l4 hb' _ hw' g4 n4 hm' => ?_)
  have eb : bs' = bs := Sure.same so ⟨hb', hw', hm'⟩ hs
  subst eb
  have f4 : Fr [] [d, dw] H₀ H4 := f3.trans l4.fr
  have r4 := r3.le l4
  have gb4 := getL_le l4 gb3
  have gt4 := getL_le l4 g3
  have gd4 := getD_le l4 gd3
  have sb : fg' ≠ b := (ne_of_new gb3 n4).symm
  have nsg : fg' ∉ Z := not_live (fun z hz' => (hz z hz').imp fun vs gv => f3.l _ _ (fun c => nomatch c) gv) n4
  clear f3 r3 gb3 g3 gd3 l4 n4 hb' hw' hm'
  walk_at "v"
  rw [gb4]
  walk_at "v"
  refine key_ok gd4 rfl ?_
  walk_at "v"
  have gs4 := f4.l _ _ (fun q => nomatch q) x.gf
  rw [gs4]
  walk_at "v"
  refine slcl_ok g4 (plc4 (by (clear hdd hl hn d6 d7 tb bl sb; omega))) trivial cut_tx (sml (by rw [List.length_drop]; (clear hdd hl hn d6 d7 tb bl sb; omega))) fun b5 H5 n5 l5 g5 => ?_
  refine cmp_ne (eq_txt (getL_le l5 gb4) g5 ?_)
  rw [decide_eq_true rfl]
  have gb5 := getL_le l5 gb4
  walk_at "v"
  rw [gb5]
  walk_at "v"
  refine whole_tx (k := k + 6) e gb5 (by rw [List.length_drop]; (clear hdd hl hn d6 d7 tb bl sb; omega)) fun H6 l6 => ?_
  have l46 := l5.trans l6
  have f6 : Fr [] [d, dw] H₀ H6 := f4.trans l46.fr
  have r6 := r4.le l46
  have gb6 := getL_le l6 gb5
  have gt6 := getL_le l46 gt4
  have gs6 := getL_le l46 g4
  have gd6 := getD_le l46 gd4
  clear f4 r4 gb4 gt4 g4 gd4 gs4 g5 gb5 l5 l6 l46 n5
  walk_at "v"
  rw [gb6]
  refine ⟨rfl, ?_⟩
  refine ⟨by rw [List.length_map, List.length_drop]; show _ ≤ 1000000; (clear hdd hl hn d6 d7 tb bl sb; omega), ?_⟩
  generalize e7 : H6.upd b _ = H7
  have f7 : Fr [] [d, dw] H₀ H7 := e7 ▸ f6.new nb
  have r7 : Wr H7 dw cs g wc' wg' (cm ++ ks) bs' false := e7 ▸ r6.upd gb6 d6.symm d7.symm
  have gb7 : getL H7 b = some (txV (bs'.drop gv.length ++ [7])) := by rw [← e7, getL_self, ← tx_snoc]; rfl
  have gt7 : getL H7 sg' = some _ := e7 ▸ getL_ne tb gt6
  have gs7 : getL H7 fg' = some _ := e7 ▸ getL_ne sb gs6
  have gd7 : getD H7 d = _ := e7 ▸ getD_leB (LeB.upd b H6 _) (ne_dl gb6 gd6).symm gd6
  clear e7 f6 r6 gb6 gt6 gs6 gd6
  refine key_ok gd7 rfl ?_
  obtain ⟨ps, gp, hp, ap⟩ := s
  have gp7 := f7.l _ _ (fun q => nomatch q) gp
  walk_at "v"
  rw [gp7]
  refine ⟨rfl, ?_⟩
  refine tolist_ok gb7 (sml (by rw [List.length_append, List.length_drop]; show _ + 1 ≤ _; (clear hdd hl hn d6 d7 tb bl sb hp; omega))) fun b8 H8 n8 l8 g8 => ?_
  have f8 : Fr [] [d, dw] H₀ H8 := f7.trans l8.fr
  have r8 := r7.le l8
  have gb8 := getL_le l8 gb7
  have gp8 := getL_le l8 gp7
  have gt8 := getL_le l8 gt7
  have gs8 := getL_le l8 gs7
  have gd8 := getD_le l8 gd7
  have ny : b ∉ Z := not_live hz nb
  have nz : b8 ∉ Z := not_live (fun z hz' => (hz z hz').imp fun vs gv => f7.l _ _ (fun c => nomatch c) gv) n8
  clear f7 r7 gb7 gp7 gt7 gs7 gd7 l8 n8
  walk_at "v"
  refine ⟨by decide, ?_⟩
  rw [gp8]
  refine ⟨by show _ ≤ 1000000; (clear hdd hl hgv d6 d7 tb bl sb; omega), ?_⟩
  have s9 := Shown.add gp8 hp (fun v hv => (ap v hv).fr f8 (fun _ c => nomatch c)) hsh ny nz gb8 g8
  have f9 : Fr [sh] [] H8 (H8.upd sh (.lst (ps ++ [.tup [.lst b, .lst b8]]))) := Fr.updL gp8 (.head _)
  have f09 := (f8.mono (Z' := [sh]) (fun _ c => nomatch c) (fun _ c => c)).trans (f9.mono (fun _ c => c) (fun _ c => nomatch c))
  have hsn : ∀ {a}, a ∉ Z → a ∉ [sh] := fun q c => q (List.mem_singleton.mp c ▸ hsh)
  have zc := not_live hz nc
  have zs := not_live hz ng
  have r9 := r8.fr f9 (fun c => nomatch c) (hsn zc) (hsn zs)
  have gt9 := f9.l _ _ (hsn nt) gt8
  have gs9 := f9.l _ _ (hsn nsg) gs8
  have gd9 := f9.d _ _ (fun c => nomatch c) gd8
  generalize H8.upd sh _ = H9 at s9 f09 r9 gt9 gs9 gd9
  clear f9 f8 r8 gb8 gp8 gt8 gs8 gd8 g8 gp ap
  walk_at "v"
  refine setK_ok gd9 rfl rfl fun H10 l10 gd10 => ?_
  have f10 : Fr [sh] [d, dw] H9 H10 := l10.fr gd9 (.head _)
  have f := f09.trans f10
  walk_at "v"
  exact h sg' fg' H10 f ⟨gd10, r9.leB l10 hdd.symm gd9, getL_leB l10 (ne_dl gt9 gd9) gt9, getL_leB l10 (ne_dl gs9 gd9) gs9, zc, zs, nt, nsg⟩ (s9.fr (l10.fr (D := [d]) (Z := []) gd9 (.head _)) (fun _ c => nomatch c) (fun c => nomatch c)) _
end
end
section
section
variable {k : Nat} {cs : List Int} {g : Int} {H : AH} {Q : AV → AH → Prop} {X : Nat → AH → Prop} {hk : Hook} {Z : List Addr} {d dw sh t : Addr} {n : Nat} {cm gv : List Nat} {ov : Bool} {wa wc wg sg fg : Addr}
theorem BadSg.le {H' : AH} {n : Nat} (l : Le H H') {v : AV} (h : BadSg H n cm v) : BadSg H' n cm v := by
  cases h with
  | non => exact .non
  | int x => exact .int x
  | tup x => exact .tup x
  | len h hl hs => exact .len (getL_le l h) hl hs
  | sgn h hk hb hl => exact .sgn (getL_le l h) hk (hb.le l) hl
theorem eq_word_nil {a b : Addr} {c : Nat} {QB : Bool → Prop} (hc : 1 ≤ c ∧ c ≤ 5) (ga : getL H a = some [.str (wd c)]) (gb : getL H b = some []) (h : QB false) : eqW (.lst a) (.lst b) H QB := by
  have sh : PySem.SeqAt.shaped (.list [.str (wd c)]) = true := by simp [PySem.SeqAt.shaped, PyData.canLay0, PyData.canLayAll0, wd_ok8 hc, PyData.depth, PyData.depthAll]
  have sh2 : PySem.SeqAt.shaped (.list []) = true := by simp [PySem.SeqAt.shaped, PyData.canLay0, PyData.canLayAll0, PyData.depth, PyData.depthAll]
  exact ⟨.list [.str (wd c)], .list [], ⟨a, _, rfl, ga, rfl, True.intro⟩, ⟨b, _, rfl, gb, True.intro⟩, sh, sh2, (by simpa [PyData.eqv, PyData.eqvAll] using h)⟩
theorem Wc.le {H' : AH} (x : Wc H Z d dw sh cs g cm gv ov wa wc wg sg fg) (l : Le H H') : Wc H' Z d dw sh cs g cm gv ov wa wc wg sg fg := x.fr (l.fr (Z := []) (D := [])) (fun _ c => nomatch c) (fun c => nomatch c) (fun c => nomatch c)
theorem Shown.le {H' : AH} (s : Shown H Z sh n) (l : Le H H') : Shown H' Z sh n := s.fr (l.fr (Z := []) (D := [])) (fun _ c => nomatch c) (fun c => nomatch c)
theorem l_take09_ok {c : Int} (p : PlanOk cs g) (hdd : d ≠ dw) (hc : TxOk cs cm) (hl : cm.length ≤ 56) (hgv : gv.length ≤ 1500) (x : Wc H Z d dw sh cs g cm gv ov wa wc wg sg fg) (hT : Told cs g cm gv ov) (hz : ∀ z ∈ Z, ∃ vs, getL H z = some vs) (hsh : sh ∈ Z) (s : Shown H Z sh n) (hn : n ≤ 100)
    (h : ∀ cm' gv' wc' wg' sg' fg' H', TxOk cs cm' → cm'.length ≤ cm.length + 3 → Fr [sh] [d, dw] H H' → Told cs g cm' gv' ov → Wc H' Z d dw sh cs g cm' gv' ov wa wc' wg' sg' fg' → Shown H' Z sh (n + 1) → Q (.bool true) H') : CallN TB (k + 8) F.l_take09 [.dct d, .int c] H false Q X := by
  refine ⟨rfl, ?_⟩
  generalize eh : CallN TB (k + 7) = hk
  replace eh := eh.symm
  have stay : ∀ H', Le H H' → Q (.bool true) H' := fun H' l => h cm gv wc wg sg fg H' hc (Nat.le_add_right _ _) l.fr hT (x.le l) ((s.le l).up (Nat.le_succ n))
  simp only [D.l_take09]
  walk_at "e"
  walk_at "v"
  refine ⟨div_s (by decide) (by decide), ?_⟩
  refine key_ok x.gd rfl ?_
  walk_at "v"
  refine via eh (l_signs_ok (k := k + 5) p (by decide) (by decide) fun sa ks H1 n1 l1 g1 tk hk3 => ?_)
  have hks : ks.length ≤ 3 := by (clear hdd hl hgv hn; omega)
  walk_at "v"
  refine tolist_ok g1 (sml (by (clear hdd hl hgv hn hks; omega))) fun ha H2 n2 l2 g2 => ?_
  have l02 := l1.trans l2
  have g12 := getL_le l2 g1
  have nh := l1.none n2
  have fh : sa ≠ ha := ne_of_new g1 n2
  clear l1 l2 g1 n2 hk3
  walk_at "v"
  refine ⟨by decide, ?_⟩
  by_cases q : c % 6 = 1
  · rw [decide_eq_true q]
    walk_at "v"
    refine key_ok (x.le l02).gd rfl ?_
    rw [show plV cs g = .tup [.tup (cs.map .int), .int g] from rfl]
    walk_at "v"
    refine new_ok (Nat.le_of_ble_eq_true rfl) fun b1 H3 n3 l3 g3 => ?_
    walk_at "v"
    refine ⟨div_s (by decide) (by decide), by decide, ?_⟩
    refine idx_any (by (clear hdd hl hgv hn hks fh q; omega)) (by show _ < 5; (clear hdd hl hgv hn hks fh q; omega)) (Nat.le_of_ble_eq_true rfl) g3 fun bd hv => ?_
    have na : ∀ H', NotAm H' 0 (cs.length - 1) bd := by
      intro H'
      simp only [List.mem_cons, List.not_mem_nil, or_false] at hv
      rcases hv with e | e | e | e | e <;> subst e
      · rw [List.length_map]; exact fun q => by have := q.2; (clear hdd hl hgv hn hks fh this; omega)
      · exact fun q => by have := q.1; (clear hdd hl hgv hn hks fh this; omega)
      · trivial
      · trivial
      · trivial
    clear hv g3
    have g13 := getL_le l3 g12
    walk_at "v"
    refine new_ok (Nat.le_of_ble_eq_true rfl) fun b4 H4 n4 l4 g4 => ?_
    walk_at "v"
    refine add_ok (getL_le l4 g13) g4 (by rw [List.length_append, List.length_map]; show _ + 1 ≤ _; (clear hdd hl hgv hn fh q; omega)) fun b5 H5 n5 l5 g5 => ?_
    walk_at "v"
    refine new_ok (Nat.le_of_ble_eq_true rfl) fun b6 H6 n6 l6 g6 => ?_
    walk_at "v"
    have l36 := l4.trans (l5.trans l6)
    refine add_ok g6 (getL_le l36 g13) (by rw [List.length_append, List.length_map]; show 1 + _ ≤ _; (clear hdd hl hgv hn fh q; omega)) fun b7 H7 n7 l7 g7 => ?_
    walk_at "v"
    rw [getL_le (l36.trans l7) g13]
    walk_at "v"
    refine new_ok (Nat.le_of_ble_eq_true rfl) fun b8 H8 n8 l8 g8 => ?_
    have l08 := l02.trans (l3.trans (l36.trans (l7.trans l8)))
    have a2 := getL_le (l6.trans (l7.trans l8)) g5
    have a3 := getL_le l8 g7
    clear g12 g2 g13 g4 g5 g6 g7 l02 l3 l4 l5 l6 l7 l8 l36 n3 n4 n5 n6 n7 n8
    walk_at "v"
    refine ⟨div_s (by decide) (by decide), by decide, ?_⟩
    refine idx_any (by (clear hdd hl hgv hn hks fh q; omega)) (by show _ < 5; (clear hdd hl hgv hn hks fh q; omega)) (Nat.le_of_ble_eq_true rfl) g8 fun v hv => ?_
    have bad : BadSg H8 cs.length cm v := by
      simp only [List.mem_cons, List.not_mem_nil, or_false] at hv
      rcases hv with e | e | e | e | e <;> subst e
      · exact .sgn (ks := ks) (b := bd) (r := []) a2 tk (na _) (by rw [List.length_append, List.length_map]; show cm.length + (_ + 1) ≤ _; (clear hdd hgv hn fh q; omega))
      · exact .sgn (ks := []) (b := bd) (r := txV ks) a3 (fun _ c => nomatch c) (na _) (by show cm.length + (txV ks).length.succ ≤ _; rw [List.length_map]; (clear hdd hgv hn fh q; omega))
      · exact .tup _
      · exact .non
      · exact .int _
    clear hv g8 a2 a3
    walk_at "v"
    refine new_ok (Nat.le_of_ble_eq_true rfl) fun b9 H9 n9 l9 g9 => ?_
    walk_at "v"
    refine mull_ok g9 (by decide) (by decide) (Nat.le_of_ble_eq_true rfl) fun da H10 n10 l10 g10 => ?_
    have l810 := l9.trans l10
    have l010 := l08.trans l810
    have x10 := x.le l010
    have bad10 := bad.le l810
    walk_at "v"
    refine key_ok x10.gd rfl ?_
    walk_at "v"
    cases ov with
    | true =>
      walk_at "v"
      refine new_ok (Nat.le_of_ble_eq_true rfl) fun db H11 n11 l11 g11 => ?_
      walk_at "v"
      have x11 := x10.le l11
      refine key_ok x11.gd rfl ?_
      walk_at "v"
      rw [x11.wr.gd]
      refine ⟨rfl, ?_⟩
      refine via eh (Writer_take_ended (k := k + 5) x11.wr ?_)
      walk_at "v"
      refine ⟨rfl, fun ax => ?_⟩
      refine new_ok (Nat.le_of_ble_eq_true rfl) fun y1 Y1 _ m1 k1 => ?_
      refine cmp_ne (eq_word_nil (c := 5) (by decide) (getL_le m1 (g11)) k1 ?_)
      walk_at "v"
      refine via eh (l_word_ok (k := k + 6) (by decide) fun y2 Y2 _ m2 k2 => ?_)
      walk_at "v"
      refine cmp_eq (eq_word8 (c := 5) (by decide) k2 (getL_le (m1.trans m2) (g11)) ?_)
      exact stay Y2 ((l010.trans l11).trans (m1.trans m2))
    | false =>
      walk_at "v"
      refine key_ok x10.gd rfl ?_
      walk_at "v"
      rw [x10.wr.gd]
      refine ⟨rfl, ?_⟩
      refine via eh (Writer_take_no (k := k + 2) p x10.wr hc bad10 fun H11 l11 => ?_)
      walk_at "v"
      refine ⟨rfl, fun ax => ?_⟩
      refine new_ok (Nat.le_of_ble_eq_true rfl) fun y1 Y1 _ m1 k1 => ?_
      refine cmp_ne (eq_word_nil (c := 2) (by decide) (getL_le m1 (getL_le l11 g10)) k1 ?_)
      walk_at "v"
      refine via eh (l_word_ok (k := k + 6) (by decide) fun y2 Y2 _ m2 k2 => ?_)
      walk_at "v"
      refine cmp_eq (eq_word8 (c := 2) (by decide) k2 (getL_le (m1.trans m2) (getL_le l11 g10)) ?_)
      exact stay Y2 ((l010.trans l11).trans (m1.trans m2))
  · rw [decide_eq_false q]
    walk_at "v"
    refine new_ok (Nat.le_of_ble_eq_true rfl) fun b3 H3 n3 l3 g3 => ?_
    walk_at "v"
    refine mull_ok g3 (by decide) (by decide) (Nat.le_of_ble_eq_true rfl) fun da H4 n4 l4 g4 => ?_
    have l24 := l3.trans l4
    have l04 := l02.trans l24
    have x4 := x.le l04
    walk_at "v"
    refine key_ok x4.gd rfl ?_
    walk_at "v"
    cases ov with
    | true =>
      walk_at "v"
      refine new_ok (Nat.le_of_ble_eq_true rfl) fun db H11 n11 l11 g11 => ?_
      walk_at "v"
      have x11 := x4.le l11
      refine key_ok x11.gd rfl ?_
      walk_at "v"
      rw [x11.wr.gd]
      refine ⟨rfl, ?_⟩
      refine via eh (Writer_take_ended (k := k + 5) x11.wr ?_)
      walk_at "v"
      refine ⟨rfl, fun ax => ?_⟩
      refine new_ok (Nat.le_of_ble_eq_true rfl) fun y1 Y1 _ m1 k1 => ?_
      refine cmp_ne (eq_word_nil (c := 5) (by decide) (getL_le m1 (g11)) k1 ?_)
      walk_at "v"
      refine via eh (l_word_ok (k := k + 6) (by decide) fun y2 Y2 _ m2 k2 => ?_)
      walk_at "v"
      refine cmp_eq (eq_word8 (c := 5) (by decide) k2 (getL_le (m1.trans m2) (g11)) ?_)
      exact stay Y2 ((l04.trans l11).trans (m1.trans m2))
    | false =>
      walk_at "v"
      refine key_ok x4.gd rfl ?_
      walk_at "v"
      rw [x4.wr.gd]
      refine ⟨rfl, ?_⟩
      have htx : TxOk cs (cm ++ ks) := fun j hj => (List.mem_append.mp hj).elim (hc j) (tk j)
      have hlx : (cm ++ ks).length ≤ 60 := by rw [List.length_append]; (clear hdd hgv hn fh q; omega)
      have g24 := getL_le l24 g2
      have g124 := getL_le l24 g12
      refine via eh (Writer_take_ok (k := k + 1) p x4.wr g24 htx hlx (by (clear hdd hl hn hks fh q hlx; omega)) fun b wc' wg' bs H5 n5 nc ng l5 hs r5 g5 d6 d7 => ?_)
      have f5 : Fr [] [dw] H H5 := l04.fr.trans (l5.fr x4.wr.gd (.head _))
      have ga5 := getL_leB l5 (ne_dl g124 x4.wr.gd) g124
      have gh5 := getL_leB l5 (ne_dl g24 x4.wr.gd) g24
      have gd5 := getL_leB l5 (ne_dl g4 x4.wr.gd) g4
      rw [k_kont, k_asg]
      simp only [k_sg0, k_sgS]
      refine take9_rest eh p hdd htx hlx hgv x hz hsh s hn f5 r5 hs ga5 gh5 g5 gd5 nh (l04.none n5) (l04.none nc) (l04.none ng) fh (ne_of_new g24 n5).symm (ne_of_new g24 nc).symm (ne_of_new g24 ng).symm d6 d7 fun sg' fg' H' f x' s' l => ?_
      exact h (cm ++ ks) bs wc' wg' sg' fg' H' htx (by rw [List.length_append]; (clear hdd hl hgv hn fh q hlx d6 d7; omega)) f hs x' s'
end
end
section
section
variable {k : Nat} {cs : List Int} {g : Int} {H : AH} {Q : AV → AH → Prop} {X : Nat → AH → Prop} {hk : Hook} {Z : List Addr} {d dw sh t : Addr} {n : Nat} {cm gv : List Nat} {ov : Bool} {wa wc wg sg fg : Addr}
theorem tk_pre9 {A B : List Nat} (h : B.take A.length = A) : A ++ B.drop A.length = B := by
  have e := List.take_append_drop A.length B
  rw [h] at e; exact e
theorem l_end_ok (p : PlanOk cs g) (hdd : d ≠ dw) (hc : TxOk cs cm) (hl : cm.length ≤ 60) (hgv : gv.length ≤ 1500) (x : Wc H Z d dw sh cs g cm gv ov wa wc wg sg fg) (hT : Told cs g cm gv ov) (hz : ∀ z ∈ Z, ∃ vs, getL H z = some vs) (hsh : sh ∈ Z) (s : Shown H Z sh n) (hn : n ≤ 100)
    (h : ∀ gv' wg' fg' H', Fr [sh] [d, dw] H H' → Figs (str one cs g cm) gv' → Wc H' Z d dw sh cs g cm gv' true wa wc wg' sg fg' → Shown H' Z sh (n + 1) → Q (.bool true) H') : CallN TB (k + 8) F.l_end [.dct d] H false Q X := by
  refine ⟨rfl, ?_⟩
  generalize eh : CallN TB (k + 7) = hk
  replace eh := eh.symm
  simp only [D.l_end]
  walk_at "e"
  walk_at "v"
  refine key_ok x.gd rfl ?_
  walk_at "v"
  rw [x.wr.gd]
  refine ⟨rfl, ?_⟩
  cases ov with
  | true =>
    refine via eh (Writer_end_ended (k := k + 5) x.wr ?_)
    walk_at "v"
    refine ⟨rfl, fun ax => ?_⟩
    refine key_ok x.gd rfl ?_
    walk_at "v"
    refine via eh (l_word_ok (k := k + 6) (by decide) fun y2 Y2 _ m2 k2 => ?_)
    walk_at "v"
    refine new_ok (Nat.le_of_ble_eq_true rfl) fun y3 Y3 _ m3 k3 => ?_
    refine cmp_eq (eq_word8 (c := 5) (by decide) (getL_le m3 k2) k3 ?_)
    have l := m2.trans m3
    exact h gv wg fg Y3 l.fr hT (x.le l) ((s.le l).up (Nat.le_succ n))
  | false =>
    have so := str_ok one_ok p hc
    have hs : Sure (str one cs g cm) gv := hT
    refine via eh (Writer_end_ok p x.wr hc hl (by (clear hdd hl hn; omega)) fun b wg' fs H1 nb ng l1 hf wr1 g1 bw => ?_)
    have fl := hf.len so
    have pre : fs.take gv.length = gv := figs_sure (n := cm.length) p hc hf hs.bin (by rw [List.take_length]; exact hs.wi)
    have f1 : Fr [] [d, dw] H H1 := (l1.fr x.wr.gd (.tail _ (.head _)))
    have gd1 : getD H1 d = _ := getD_leB l1 hdd x.gd
    have gs1 := f1.l _ _ (fun q => nomatch q) x.gs
    walk_at "v"
    refine key_ok gd1 rfl ?_
    walk_at "v"
    refine key_ok gd1 rfl ?_
    walk_at "v"
    refine via eh (l_stretch_ok (k := k + 5) p gs1 hc fun H2 l2 => ?_)
    walk_at "v"
    refine via eh (l_fewest09_ok (k := k + 6) so (by (clear hdd hgv hn bw fl; omega)) fun fg' fs' H3 n3 l3 hf' g3 => ?_)
    have e := hf'.same hf
    subst e
    have l13 := l2.trans l3
    have f3 : Fr [] [d, dw] H H3 := f1.trans l13.fr
    have wr3 := wr1.le l13
    have gb3 := getL_le l13 g1
    have gd3 := getD_le l13 gd1
    have fb : fg' ≠ b := (ne_of_new (getL_le l2 g1) n3).symm
    have nf : fg' ∉ Z := not_live (fun z hz' => (hz z hz').imp fun vs gv => getL_le l2 (f1.l _ _ (fun c => nomatch c) gv)) n3
    clear f1 wr1 g1 gd1 gs1 l1 l2 l3 l13 n3
    walk_at "v"
    refine key_ok gd3 rfl ?_
    walk_at "v"
    rw [gb3]
    walk_at "v"
    refine key_ok gd3 rfl ?_
    walk_at "v"
    refine add_ok (f3.l _ _ (fun q => nomatch q) x.gf) gb3 (sml2 (by rw [List.length_append, List.length_drop]; (clear hdd hn bw fb; omega))) fun b4 H4 n4 l4 g4 => ?_
    rw [tx_app, tk_pre9 pre] at g4
    walk_at "v"
    refine cmp_ne (eq_txt g4 (getL_le l4 g3) ?_)
    rw [decide_eq_true rfl]
    have f4 : Fr [] [d, dw] H H4 := f3.trans l4.fr
    have wr4 := wr3.le l4
    have gb4 := getL_le l4 gb3
    have gd4 := getD_le l4 gd3
    have gf4 := getL_le l4 g3
    clear f3 wr3 gb3 gd3 g3 g4 l4 n4
    walk_at "v"
    rw [gb4]
    refine ⟨rfl, ?_⟩
    refine ⟨by rw [List.length_map, List.length_drop]; show _ ≤ 1000000; (clear hdd hn bw fb; omega), ?_⟩
    generalize e7 : H4.upd b _ = H7
    have f7 : Fr [] [d, dw] H H7 := e7 ▸ f4.new nb
    have cb : wc ≠ b := ne_of_new x.wr.gc nb
    have r7 : Wr H7 dw cs g wc wg' cm fs' true := e7 ▸ wr4.upd gb4 cb bw.symm
    have gb7 : getL H7 b = some (txV (fs'.drop gv.length ++ [7])) := by rw [← e7, getL_self, ← tx_snoc]; rfl
    have gf7 : getL H7 fg' = some _ := e7 ▸ getL_ne fb gf4
    have gd7 : getD H7 d = _ := e7 ▸ getD_leB (LeB.upd b H4 _) (ne_dl gb4 gd4).symm gd4
    clear e7 f4 wr4 gb4 gf4 gd4
    refine key_ok gd7 rfl ?_
    obtain ⟨ps, gp, hp, ap⟩ := s
    have gp7 := f7.l _ _ (fun q => nomatch q) gp
    walk_at "v"
    rw [gp7]
    refine ⟨rfl, ?_⟩
    refine tolist_ok gb7 (sml (by rw [List.length_append, List.length_drop]; show _ + 1 ≤ _; (clear hdd hn bw fb cb hp; omega))) fun b8 H8 n8 l8 g8 => ?_
    have f8 : Fr [] [d, dw] H H8 := f7.trans l8.fr
    have r8 := r7.le l8
    have gb8 := getL_le l8 gb7
    have gp8 := getL_le l8 gp7
    have gf8 := getL_le l8 gf7
    have gd8 := getD_le l8 gd7
    have ny : b ∉ Z := not_live hz nb
    have nz : b8 ∉ Z := not_live (fun z hz' => (hz z hz').imp fun vs gv => f7.l _ _ (fun c => nomatch c) gv) n8
    clear f7 r7 gb7 gp7 gf7 gd7 l8 n8
    walk_at "v"
    refine ⟨by decide, ?_⟩
    rw [gp8]
    refine ⟨by show _ ≤ 1000000; (clear hdd hl hgv bw fl fb cb; omega), ?_⟩
    have s9 := Shown.add gp8 hp (fun v hv => (ap v hv).fr f8 (fun _ c => nomatch c)) hsh ny nz gb8 g8
    have f9 : Fr [sh] [] H8 (H8.upd sh (.lst (ps ++ [.tup [.lst b, .lst b8]]))) := Fr.updL gp8 (.head _)
    have f09 := (f8.mono (Z' := [sh]) (fun _ c => nomatch c) (fun _ c => c)).trans (f9.mono (fun _ c => c) (fun _ c => nomatch c))
    have hsn : ∀ {a}, a ∉ Z → a ∉ [sh] := fun q c => q (List.mem_singleton.mp c ▸ hsh)
    have zg := not_live hz ng
    have r9 := r8.fr f9 (fun c => nomatch c) (hsn x.zc) (hsn zg)
    have gf9 := f9.l _ _ (hsn nf) gf8
    have gd9 := f9.d _ _ (fun c => nomatch c) gd8
    generalize H8.upd sh _ = H9 at s9 f09 r9 gf9 gd9
    clear f9 f8 r8 gb8 gp8 gf8 gd8 g8 gp ap
    walk_at "v"
    refine setK_ok gd9 rfl rfl fun H10 l10 gd10 => ?_
    have r10 := r9.leB l10 hdd.symm gd9
    have gf10 := getL_leB l10 (ne_dl gf9 gd9) gf9
    have f10 : Fr [sh] [d, dw] H9 H10 := l10.fr gd9 (.head _)
    have s10 := s9.fr (l10.fr (D := [d]) (Z := []) gd9 (.head _)) (fun _ c => nomatch c) (fun c => nomatch c)
    walk_at "v"
    refine setK_ok gd10 rfl rfl fun H11 l11 gd11 => ?_
    have f11 : Fr [sh] [d, dw] H10 H11 := l11.fr gd10 (.head _)
    have f := f09.trans (f10.trans f11)
    walk_at "v"
    exact h fs' wg' fg' H11 f hf' ⟨gd11, r10.leB l11 hdd.symm gd10, f.l _ _ (hsn x.zs) x.gs, getL_leB l11 (ne_dl gf10 gd10) gf10, x.zc, zg, x.zs, nf⟩ (s10.fr (l11.fr (D := [d]) (Z := []) gd10 (.head _)) (fun _ c => nomatch c) (fun c => nomatch c))
end
end
section
section
variable {k : Nat} {cs : List Int} {g : Int} {H : AH} {Q : AV → AH → Prop} {X : Nat → AH → Prop} {hk : Hook} {Z : List Addr} {d dw sh t : Addr} {n : Nat} {cm gv : List Nat} {ov : Bool} {wa wc wg sg fg : Addr}
theorem l_made09_ok {a : Addr} {ns : List Int} {j : Nat} (hn : ns.length ≤ 63) (h : ∀ cs g d dw sh wa wc wg sg fg H', PlanOk cs g → Le H H' → H d = none → H dw = none → H sh = none → d ≠ dw → getL H' sh = some [] →
      Wc H' [sh] d dw sh cs g [] [] false wa wc wg sg fg → H wc = none → H wg = none → H sg = none → H fg = none → Q (.dct d) H') : CallN TB (k + 8) F.l_made09 [.frz a ns, .int (j : Nat)] H false Q X := by
  refine ⟨rfl, ?_⟩
  generalize eh : CallN TB (k + 7) = hk
  replace eh := eh.symm
  simp only [D.l_made09]
  walk_at "e"
  walk_at "v"
  refine via eh (l_cell_at_ok (k := k + 6) (by (clear hn; omega)) hn fun c0 => ?_)
  walk_at "v"
  refine via eh (l_plan_ok (k := k + 5) fun cs g H1 p l1 => ?_)
  walk_at "v"
  intro wa dw nad na nd
  refine via eh (Writer_init_ok (k := k + 3) p (getD_self _ _ _) fun wc wg H3 nc ng l3 r3 => ?_)
  have L3 := l1.trans (l3.le nd)
  walk_at "v"
  refine new_ok (Nat.le_of_ble_eq_true rfl) fun sg H5 n5 l5 g5 => ?_
  walk_at "v"
  refine new_ok (Nat.le_of_ble_eq_true rfl) fun fg H6 n6 l6 g6 => ?_
  walk_at "v"
  refine new_ok (Nat.le_of_ble_eq_true rfl) fun sh H7 n7 l7 g7 => ?_
  walk_at "v"
  refine dict_ok rfl (by decide) (Nat.le_of_ble_eq_true rfl) rfl fun d H8 n8 l8 g8 => ?_
  walk_at "v"
  have r6 := r3.le (l5.trans l6)
  have g56 := getL_le l6 g5
  have l78 := l7.trans l8
  refine h cs g d dw sh wa wc wg sg fg H8 p (L3.trans (l5.trans (l6.trans l78))) ((L3.trans (l5.trans (l6.trans l7))).none n8) (l1.none nd) ((L3.trans (l5.trans l6)).none n7) (ne_dn n8 (r6.le l7).gd) (getL_le l8 g7) ?_ (l1.none (upd_none nc).1) (l1.none (upd_none ng).1) (L3.none n5) ((L3.trans l5).none n6)
  have nin : ∀ {y : Addr} {vs : List AV}, getL H6 y = some vs → y ∉ [sh] := fun gy c => ne_of_new gy n7 (List.mem_singleton.mp c)
  exact ⟨g8, r6.le l78, getL_le l78 g56, getL_le l78 g6, nin r6.gc, nin r6.gg, nin g56, nin g6⟩
theorem l_refused09_ok {c : Int} (p : PlanOk cs g) (h : ∀ H', Le H H' → Q (.bool true) H') : CallN TB (k + 5) F.l_refused09 [plV cs g, .int c] H false Q X := by
  refine ⟨rfl, ?_⟩
  generalize eh : CallN TB (k + 4) = hk
  replace eh := eh.symm
  simp only [D.l_refused09]
  walk_at "e"
  walk_at "v"
  refine via eh (l_no_plan_ok (k := k + 3) p fun u H3 l3 bp => ?_)
  walk_at "v"
  intro a d nad na nd
  have l4 : Le H3 (H3.upd d (.dct [])) := (Le.refl H3).new nd
  refine via eh (Writer_init_np (bp.le l4) ?_)
  walk_at "v"
  refine ⟨rfl, fun ax => ?_⟩
  refine via eh (l_word_ok (k := k + 3) (by decide) fun y2 Y2 _ m2 k2 => ?_)
  walk_at "v"
  refine new_ok (Nat.le_of_ble_eq_true rfl) fun y3 Y3 _ m3 k3 => ?_
  refine cmp_eq (eq_word8 (c := 1) (by decide) (getL_le m3 k2) k3 ?_)
  exact h Y3 (l3.trans (l4.trans (m2.trans m3)))
/-! one to which sixty signs come, and more -/
noncomputable abbrev ed9B : List MS := [
    .try [
      .asg (.loc 3) (.bin .add (.loc 3) (.meth (.loc 2) Mt.take [(.call (.gty Ty.list) [(.loc 4)])])),
      .ite (.e (.cmp .inn (.call (.gbi Bi.len) [(.loc 4)]) (.tup [(.cInt 1), (.cInt 6)]))) [
        .ret (.cBool false)] []] Cl.PressError 5 [
      .ite (.any [(.e (.cmp .notin (.call (.gbi Bi.len) [(.loc 4)]) (.tup [(.cInt 1), (.cInt 6)]))), (.e (.cmp .ne (.call (.gfn F.l_word) [(.loc 5)]) (.lst [(.cStr (Str.ofString "sign"))])))]) [
        .ret (.cBool false)] []]]
theorem in16 {ks : List Nat} (h : ks.length = 1 ∨ ks.length = 6) : (([1, 6] : List Int).any fun x => x == ((txV ks).length : Nat)) = true := by
  rw [List.length_map]
  rcases h with e | e <;> rw [e] <;> decide
theorem out16 {ks : List Nat} (h : ¬ (ks.length = 1 ∨ ks.length = 6)) : (([1, 6] : List Int).any fun x => x == ((txV ks).length : Nat)) = false := by
  rw [List.length_map]
  simp only [List.any_cons, List.any_nil, Bool.or_false, Bool.or_eq_false_iff, beq_eq_false_iff_ne]
  omega
theorem edge9_no (e : hk = CallN TB (k + 7)) {a sa fa : Addr} {ks : List Nat} {x0 x1 : Option AV} {r : List (Option AV)} {QS : Out → AS → Prop} {XS : Nat → AS → Prop} (p : PlanOk cs g) (hc : TxOk cs cm) (hk16 : ks.length = 1 ∨ ks.length = 6) (h60 : 60 < (cm ++ ks).length) (hl : cm.length ≤ 60)
    (wr : Wr H d cs g wc wg cm gv false) (gs : getL H sa = some (txV ks)) (h : ∀ H', Le H H' → QS .next ⟨x0 :: x1 :: some (.obj 7 a d) :: some (.lst fa) :: some (.lst sa) :: none :: r, [], H', false⟩) :
    WSs TB hk ed9B ⟨x0 :: x1 :: some (.obj 7 a d) :: some (.lst fa) :: some (.lst sa) :: none :: r, [], H, false⟩ QS XS := by
  walk_at "v"
  rw [wr.gd]
  refine ⟨rfl, ?_⟩
  refine tolist_ok gs (sml (by (clear h60 hl; omega))) fun b1 H1 n1 l1 g1 => ?_
  walk_at "v"
  refine via e (Writer_take_no (k := k + 2) p (wr.le l1) hc (.len g1 h60 (by rw [List.length_append]; (clear h60; omega))) fun H3 l3 => ?_)
  walk_at "v"
  refine ⟨rfl, fun ax => ?_⟩
  rw [getL_le (l1.trans l3) gs]
  walk_at "v"
  refine ⟨by decide, ?_⟩
  show (if (!([1, 6] : List Int).any fun x => x == ((txV ks).length : Nat)) = true then _ else _)
  rw [in16 hk16, if_neg (by decide)]
  refine via e (l_word_ok (k := k + 6) (by decide) fun w H10 _ l10 g10 => ?_)
  walk_at "v"
  refine new_ok (Nat.le_of_ble_eq_true rfl) fun w2 H11 _ l11 g11 => ?_
  refine cmp_ne (eq_word8 (c := 2) (by decide) (getL_le l11 g10) g11 ?_)
  walk_at "v"
  exact h H11 (l1.trans (l3.trans (l10.trans l11)))
theorem edge9_ok (e : hk = CallN TB (k + 7)) {a sa fa : Addr} {ks : List Nat} {x0 x1 : Option AV} {r : List (Option AV)} {QS : Out → AS → Prop} {XS : Nat → AS → Prop} (p : PlanOk cs g) (hs : Sure (str one cs g cm) gv) (hc : TxOk cs (cm ++ ks)) (hk16 : ¬ (ks.length = 1 ∨ ks.length = 6)) (h60 : (cm ++ ks).length ≤ 60)
    (wr : Wr H d cs g wc wg cm gv false) (gs : getL H sa = some (txV ks)) (gf : getL H fa = some (txV gv)) (h : ∀ fa' wc' wg' gv' H', LeB d H H' → Wr H' d cs g wc' wg' (cm ++ ks) gv' false → Sure (str one cs g (cm ++ ks)) gv' → getL H' fa' = some (txV gv') → QS .next ⟨x0 :: x1 :: some (.obj 7 a d) :: some (.lst fa') :: some (.lst sa) :: none :: r, [], H', false⟩) :
    WSs TB hk ed9B ⟨x0 :: x1 :: some (.obj 7 a d) :: some (.lst fa) :: some (.lst sa) :: none :: r, [], H, false⟩ QS XS := by
  have hc0 : TxOk cs cm := fun j hj => hc j (List.mem_append.mpr (.inl hj))
  have so := str_ok one_ok p hc0
  have so2 := str_ok one_ok p hc
  have gl := sure_len so hs.wi
  rw [List.length_append] at h60
  walk_at "v"
  rw [wr.gd]
  refine ⟨rfl, ?_⟩
  refine tolist_ok gs (sml (by (clear hk16; omega))) fun b1 H1 n1 l1 g1 => ?_
  have wr1 := wr.le l1
  walk_at "v"
  refine via e (Writer_take_ok (k := k + 1) p wr1 g1 hc (by rw [List.length_append]; (clear hk16 gl; omega)) (by (clear hk16; omega)) fun b2 wc' wg' bs H2 n2 nc ng l2 hs2 wr2 g2 _ _ => ?_)
  have bl := sure_len so2 hs2.wi
  have gf1 := getL_le l1 gf
  have gf2 := getL_leB l2 (ne_dl gf1 wr1.gd) gf1
  have gs1 := getL_le l1 gs
  have gs2 := getL_leB l2 (ne_dl gs1 wr1.gd) gs1
  have wi2 : Wi (str one cs g (cm ++ ks)) (str one cs g cm) := by
    rw [str_app]
    obtain ⟨q1, q2⟩ := pln_ok p hc0
    exact str_in so q1 fun j hj => by rw [q2]; exact hc j (List.mem_append.mpr (.inr hj))
  have pre := sure_pre so so2 wi2 hs.bin hs.wi hs2
  rw [List.length_append] at bl
  walk_at "v"
  refine add_ok gf2 g2 (sml2 (by rw [List.length_append, List.length_drop]; (clear hk16; omega))) fun fa' H3 n3 l3 g3 => ?_
  rw [tx_app, tk_pre9 pre] at g3
  walk_at "v"
  rw [getL_le l3 gs2]
  walk_at "v"
  refine ⟨by decide, ?_⟩
  show (if (([1, 6] : List Int).any fun x => x == ((txV ks).length : Nat)) = true then _ else _)
  rw [out16 hk16, if_neg (by decide)]
  exact h fa' wc' wg' bs H3 (l1.b.trans (l2.trans l3.b)) (wr2.le l3) hs2 g3
end
end
section
section
variable {k : Nat} {cs : List Int} {g : Int} {H : AH} {Q : AV → AH → Prop} {X : Nat → AH → Prop} {hk : Hook} {Z : List Addr} {d dw sh t : Addr} {n : Nat} {cm gv : List Nat} {ov : Bool} {wa wc wg sg fg : Addr}
theorem tx_rep {z f : Nat} (hf : f < cs.length) : TxOk cs (List.replicate z f) := fun b hb => by rw [(List.mem_replicate.mp hb).2]; exact hf
theorem tx_app2 {x y : List Nat} (hx : TxOk cs x) (hy : TxOk cs y) : TxOk cs (x ++ y) := fun b h => (List.mem_append.mp h).elim (hx b) (hy b)
/-- a list of one sign, many times -/
theorem rep_ok {z : Int} {m f : Nat} {l c : List (Option AV)} {hd : Bool} {p : Addr} {Q : AV → AS → Prop} (ez : z = m) (hm : m ≤ 4000) (ga : getL H p = some [.int (f : Nat)]) (h : ∀ a H', H a = none → Le H H' → getL H' a = some (txV (List.replicate m f)) → Q (.lst a) ⟨l, c, H', hd⟩) : binW .mul (.lst p) (.int z) ⟨l, c, H, hd⟩ Q := by
  subst ez
  refine mull_ok ga (by omega) (by omega) (by rw [Int.toNat_natCast, rep_one, List.length_map, List.length_replicate]; omega) fun a H' n l g => ?_
  rw [Int.toNat_natCast, rep_one] at g
  exact h a H' n l g
theorem l_edge09_ok {f : Nat} (p : PlanOk cs g) (hf : f < cs.length) (h : ∀ H', Le H H' → Q (.bool true) H') : CallN TB (k + 8) F.l_edge09 [plV cs g, .int (f : Nat)] H false Q X := by
  have c0 : 0 < cs.length := by omega
  refine ⟨rfl, ?_⟩
  generalize eh : CallN TB (k + 7) = hk
  replace eh := eh.symm
  simp only [D.l_edge09]
  walk_at "e"
  walk_at "v"
  intro a d nad na nd
  refine via eh (Writer_init_ok (k := k + 3) p (getD_self _ _ _) fun wc wg H1 _ _ l1 r1 => ?_)
  have L1 := l1.le nd
  walk_at "v"
  rw [r1.gd]
  refine ⟨rfl, ?_⟩
  refine new_ok (Nat.le_of_ble_eq_true rfl) fun b2 H2 n2 l2 g2 => ?_
  walk_at "v"
  refine rep_ok (m := 30) rfl (by decide) g2 fun b3 H3 n3 l3 g3 => ?_
  have r3 := r1.le (l2.trans l3)
  walk_at "v"
  have t1 : TxOk cs ([] ++ List.replicate 30 f) := tx_app2 (fun _ c => nomatch c) (tx_rep hf)
  refine via eh (Writer_take_ok (k := k + 1) p r3 g3 t1 (by rw [List.length_append, List.length_replicate]; decide) (Nat.zero_le _) fun b4 wc4 wg4 bs4 H4 n4 nc ng l4 hs4 r4 g4 _ _ => ?_)
  have L4 : LeB d H1 H4 := (l2.trans l3).b.trans l4
  rw [List.nil_append] at r4 hs4
  clear r1 r3 g2 g3 l1 l2 l3 l4 t1
  have so4 := str_ok one_ok p (tx_rep (z := 30) hf)
  have bl4 := sure_len so4 hs4.wi
  rw [List.length_replicate] at bl4
  walk_at "v"
  rw [r4.gd]
  refine ⟨rfl, ?_⟩
  refine new_ok (Nat.le_of_ble_eq_true rfl) fun b6 H6 n6 l6 g6 => ?_
  walk_at "v"
  refine rep_ok (m := 25) (f := 0) rfl (by decide) g6 fun b7 H7 n7 l7 g7 => ?_
  have r7 := r4.le (l6.trans l7)
  walk_at "v"
  have t2 : TxOk cs (List.replicate 30 f ++ List.replicate 25 0) := tx_app2 (tx_rep hf) (tx_rep c0)
  have e55 : (List.replicate 30 f ++ List.replicate 25 0).length = 55 := by rw [List.length_append, List.length_replicate, List.length_replicate]
  refine via eh (Writer_take_ok (k := k + 1) p r7 g7 t2 (by (clear hf c0 nad bl4; omega)) (by (clear hf c0 nad e55; omega)) fun b8 wc8 wg8 bs8 H8 n8 nc ng l8 hs8 r8 g8 _ _ => ?_)
  have L8 : LeB d H1 H8 := L4.trans ((l6.trans l7).b.trans l8)
  have g48 := getL_le (l6.trans l7) g4
  have g4' := getL_leB l8 (ne_dl g48 r7.gd) g48
  have so8 := str_ok one_ok p t2
  have bl8 := sure_len so8 hs8.wi
  have wi8 : Wi (str one cs g (List.replicate 30 f ++ List.replicate 25 0)) (str one cs g (List.replicate 30 f)) := by
    rw [str_app]
    obtain ⟨q1, q2⟩ := pln_ok p (tx_rep (z := 30) hf)
    exact str_in so4 q1 fun j hj => by rw [q2]; exact tx_rep c0 j hj
  have pre8 := sure_pre so4 so8 wi8 hs4.bin hs4.wi hs8
  clear r4 r7 g4 g6 g7 g48 l6 l7 l8 L4
  walk_at "v"
  refine add_ok g4' g8 (sml2 (by rw [List.length_append, List.length_drop, List.length_drop]; (clear hf c0 nad; omega))) fun fa H9 n9 l9 g9 => ?_
  rw [List.length_nil, List.drop_zero, tx_app, tk_pre9 pre8] at g9
  have r9 := r8.le l9
  have L9 := L8.trans l9.b
  generalize eK : List.replicate 30 f ++ List.replicate 25 0 = K55 at *
  clear r8 L8 g8 g4' l9 pre8 wi8 so4 so8 hs4
  walk_at "v"
  refine new_ok (Nat.le_of_ble_eq_true rfl) fun a1 A1 _ m1 k1 => ?_
  walk_at "v"
  refine rep_ok (m := 6) rfl (by decide) k1 fun a2 A2 _ m2 k2 => ?_
  walk_at "v"
  refine new_ok (Nat.le_of_ble_eq_true rfl) fun a3 A3 _ m3 k3 => ?_
  walk_at "v"
  refine rep_ok (m := 5) (f := 0) rfl (by decide) k3 fun a4 A4 _ m4 k4 => ?_
  walk_at "v"
  refine new_ok (Nat.le_of_ble_eq_true rfl) fun a5 A5 _ m5 k5 => ?_
  walk_at "v"
  refine new_ok (Nat.le_of_ble_eq_true rfl) fun a6 A6 _ m6 k6 => ?_
  have m36 := m3.trans (m4.trans (m5.trans m6))
  have m96 := m1.trans (m2.trans m36)
  have rA := r9.le m96
  have LA := L9.trans m96.b
  have gA := getL_le m96 g9
  have y1 := getL_le m36 k2
  have y2 := getL_le (m5.trans m6) k4
  have y3 : getL A6 a5 = some (txV [f]) := getL_le m6 k5
  have y4 : getL A6 a6 = some (txV []) := k6
  clear k1 k2 k3 k4 k5 k6 m1 m2 m3 m4 m5 m6 m36 m96 r9 L9 g9
  walk_at "v"
  refine ⟨by decide, FOR_cons rfl ?_⟩
  show WSs TB hk ed9B ⟨some (plV cs g) :: some (.int (f : Nat)) :: some (.obj 7 a d) :: some (.lst fa) :: some (.lst a2) :: none :: [none, none, none, none, none, none, none], [], A6, false⟩ _ _
  refine edge9_no eh p t2 (.inr (List.length_replicate ..)) (by rw [List.length_append, List.length_replicate]; (clear hf c0 nad bl4 bl8; omega)) (by (clear hf c0 nad bl4 bl8; omega)) rA y1 fun B1 z1 => ?_
  have rB := rA.le z1
  refine FOR_cons rfl ?_
  show WSs TB hk ed9B ⟨some (plV cs g) :: some (.int (f : Nat)) :: some (.obj 7 a d) :: some (.lst fa) :: some (.lst a4) :: none :: [none, none, none, none, none, none, none], [], B1, false⟩ _ _
  have t3 : TxOk cs (K55 ++ List.replicate 5 0) := tx_app2 t2 (tx_rep c0)
  have e60 : (K55 ++ List.replicate 5 0).length = 60 := by rw [List.length_append, List.length_replicate]; (clear hf c0 nad bl4 bl8; omega)
  refine edge9_ok eh p hs8 t3 (by rw [List.length_replicate]; decide) (by (clear hf c0 nad bl4 e55 bl8; omega)) rB (getL_le z1 y2) (getL_le z1 gA) fun f2 wc2 wg2 gv2 B2 z2 rC hs2 gB => ?_
  have y3' := getL_le z1 y3
  have y4' := getL_le z1 y4
  have y3b := getL_leB z2 (ne_dl y3' rB.gd) y3'
  have y4b := getL_leB z2 (ne_dl y4' rB.gd) y4'
  refine FOR_cons rfl ?_
  show WSs TB hk ed9B ⟨some (plV cs g) :: some (.int (f : Nat)) :: some (.obj 7 a d) :: some (.lst f2) :: some (.lst a5) :: none :: [none, none, none, none, none, none, none], [], B2, false⟩ _ _
  refine edge9_no eh p t3 (.inl rfl) (by rw [List.length_append]; show 60 < _ + 1; (clear hf c0 nad bl4 e55 bl8; omega)) (by (clear hf c0 nad bl4 e55 bl8; omega)) rC y3b fun B3 z3 => ?_
  have rD := rC.le z3
  refine FOR_cons rfl ?_
  show WSs TB hk ed9B ⟨some (plV cs g) :: some (.int (f : Nat)) :: some (.obj 7 a d) :: some (.lst f2) :: some (.lst a6) :: none :: [none, none, none, none, none, none, none], [], B3, false⟩ _ _
  have t4 : TxOk cs (K55 ++ List.replicate 5 0 ++ []) := by rw [List.append_nil]; exact t3
  refine edge9_ok eh p hs2 t4 (by decide) (by rw [List.append_nil]; (clear hf c0 nad bl4 e55 bl8; omega)) rD (getL_le z3 y4b) (getL_le z3 gB) fun f4 wc4 wg4 gv4 B4 z4 rE hs4' gE => ?_
  refine FOR_nil rfl ?_
  have LE := LA.trans (z1.b.trans (z2.trans (z3.b.trans z4)))
  have eL : K55 ++ List.replicate 5 0 ++ [] = List.replicate 30 f ++ List.replicate 30 0 := by rw [← eK, List.append_nil, List.append_assoc, List.replicate_append_replicate]
  rw [eL] at rE hs4' t4
  clear z1 z2 z3 z4 rA rB rC rD gA gB LA y1 y2 y3 y4 y3' y4' y3b y4b hs2 hs8 t3 e60 t2 e55 eK eL
  have so := str_ok one_ok p t4
  have gl := sure_len so hs4'.wi
  have l60 : (List.replicate 30 f ++ List.replicate 30 0).length = 60 := by rw [List.length_append, List.length_replicate, List.length_replicate]
  walk_at "v"
  rw [rE.gd]
  refine ⟨rfl, ?_⟩
  refine via eh (Writer_end_ok p rE t4 (by (clear hf c0 nad bl4 bl8 gl; omega)) (by (clear hf c0 nad bl4 bl8; omega)) fun c1 wgz fs C1 _ _ w1 hfs rz gz _ => ?_)
  have fl := hfs.len so
  have pre : fs.take gv4.length = gv4 := figs_sure (n := 60) p t4 hfs hs4'.bin (by rw [List.take_of_length_le (by (clear hf c0 nad bl4 bl8 gl fl; omega))]; exact hs4'.wi)
  have gE1 := getL_leB w1 (ne_dl gE rE.gd) gE
  walk_at "v"
  refine add_ok gE1 gz (sml2 (by rw [List.length_append, List.length_drop]; (clear hf c0 nad bl4 bl8; omega))) fun c2 C2 _ w2 gy => ?_
  rw [tx_app, tk_pre9 pre] at gy
  walk_at "v"
  refine new_ok (Nat.le_of_ble_eq_true rfl) fun a1 A1 _ m1 k1 => ?_
  walk_at "v"
  refine rep_ok (m := 30) rfl (by decide) k1 fun a2 A2 _ m2 k2 => ?_
  walk_at "v"
  refine new_ok (Nat.le_of_ble_eq_true rfl) fun a3 A3 _ m3 k3 => ?_
  walk_at "v"
  refine rep_ok (m := 30) (f := 0) rfl (by decide) k3 fun a4 A4 _ m4 k4 => ?_
  walk_at "v"
  refine add_ok (getL_le (m3.trans m4) k2) k4 (sml2 (by (clear hf c0 nad bl4 bl8 gl fl; omega))) fun a5 A5 _ m5 k5 => ?_
  rw [tx_app] at k5
  walk_at "v"
  refine via eh (l_stretch_ok (k := k + 5) p k5 t4 fun A6 m6 => ?_)
  walk_at "v"
  refine via eh (l_fewest09_ok (k := k + 6) so (by (clear hf c0 nad bl4 bl8 gl fl; omega)) fun a7 fs' A7 _ m7 hf' k7 => ?_)
  have e := hf'.same hfs
  subst e
  have mz := m1.trans (m2.trans (m3.trans (m4.trans (m5.trans (m6.trans m7)))))
  walk_at "v"
  refine cmp_eq (eq_txt (getL_le mz gy) k7 ?_)
  rw [decide_eq_true rfl]
  exact h A7 (LeB.after L1 nd (LE.trans (w1.trans (w2.trans mz).b)))
end
end
section
inductive Rec9 (H : AH) (Z : List Addr) (d dw sh : Addr) (q : Nat) : Prop
  | mk (cs : List Int) (g : Int) (cm gv : List Nat) (ov : Bool) (wa wc wg sg fg : Addr) (p : PlanOk cs g) (hc : TxOk cs cm) (hl : cm.length ≤ 3 * q) (hT : Told cs g cm gv ov) (x : Wc H Z d dw sh cs g cm gv ov wa wc wg sg fg)
structure Two9 (H : AH) (Z : List Addr) (d r s d' r' s' t : Addr) (q n : Nat) : Prop where
  x : Rec9 H Z d r s q
  y : Rec9 H Z d' r' s' q
  u : Shown H Z s n
  v : Shown H Z s' n
  w : Shown H Z t n
theorem Two9.swap {H : AH} {Z : List Addr} {d r s d' r' s' t : Addr} {q n : Nat} (x : Two9 H Z d r s d' r' s' t q n) : Two9 H Z d' r' s' d r s t q n := ⟨x.y, x.x, x.v, x.u, x.w⟩
theorem Two9.live {H : AH} {Z : List Addr} {d r s d' r' s' t : Addr} {q n : Nat} (x : Two9 H Z d r s d' r' s' t q n) (S : Sep Z d r s d' r' s' t) : ∀ z ∈ Z, ∃ vs, getL H z = some vs := fun z hz => by
  rcases S.inv z hz with e | e | e <;> subst e
  · exact x.u.live
  · exact x.v.live
  · exact x.w.live
theorem Rec9.fr {H H' : AH} {Z Z' D : List Addr} {d r s : Addr} {q p : Nat} (f : Fr Z' D H H') (hz : ∀ z ∈ Z', z ∈ Z) (h1 : d ∉ D) (h2 : r ∉ D) (hq : q ≤ p) : Rec9 H Z d r s q → Rec9 H' Z d r s p
  | ⟨cs, g, cm, gv, ov, wa, wc, wg, sg, fg, a1, a2, a3, a4, x⟩ => ⟨cs, g, cm, gv, ov, wa, wc, wg, sg, fg, a1, a2, by omega, a4, x.fr f hz h1 h2⟩
theorem Told.len {cs : List Int} {g : Int} {cm gv : List Nat} {ov : Bool} (p : PlanOk cs g) (hc : TxOk cs cm) (hl : cm.length ≤ 60) (h : Told cs g cm gv ov) : gv.length ≤ 1500 := by
  have so := str_ok one_ok p hc
  cases ov with
  | false => have := sure_len so (show Sure _ _ from h).wi; omega
  | true => have := (show Figs _ _ from h).len so; omega
section
variable {k : Nat} {H : AH} {Q : AV → AH → Prop} {X : Nat → AH → Prop} {Z : List Addr} {d r s d' r' s' t e : Addr} {q n : Nat}
theorem Two9.step {H' : AH} (S : Sep Z d r s d' r' s' t) (x : Two9 H Z d r s d' r' s' t q n) (f : Fr [s] [d, r] H H') (y : Rec9 H' Z d r s (q + 1)) (u : Shown H' Z s (n + 1)) : Two9 H' Z d r s d' r' s' t (q + 1) (n + 1) ∧ ∀ a vs, a ∉ Z → getL H a = some vs → getL H' a = some vs := by
  have hz : ∀ z ∈ [s], z ∈ Z := fun z h => by rw [List.mem_singleton.mp h]; exact S.z1
  have m2 : ∀ {a b c : Addr}, a ≠ b → a ≠ c → a ∉ [b, c] := fun h1 h2 h => by rcases List.mem_cons.mp h with e | e; exact h1 e; exact h2 (List.mem_singleton.mp e)
  exact ⟨⟨y, x.y.fr f hz (m2 S.a3.symm S.a5.symm) (m2 S.a4.symm S.a6.symm) (Nat.le_succ q), u, (x.v.fr f hz fun c => S.b1 (List.mem_singleton.mp c).symm).up (Nat.le_succ n), (x.w.fr f hz fun c => S.b2 (List.mem_singleton.mp c).symm).up (Nat.le_succ n)⟩, fun a vs na ga => f.l a vs (fun c => na (hz a c)) ga⟩
theorem take9_one {c : Int} (S : Sep Z d r s d' r' s' t) (x : Two9 H Z d r s d' r' s' t q n) (hq : q ≤ 15) (hn : n ≤ 100) (h : ∀ H', Two9 H' Z d r s d' r' s' t (q + 1) (n + 1) → (∀ a vs, a ∉ Z → getL H a = some vs → getL H' a = some vs) → Q (.bool true) H') : CallN TB (k + 8) F.l_take09 [.dct d, .int c] H false Q X := by
  obtain ⟨cs, g, cm, gv, ov, wa, wc, wg, sg, fg, p, hc, hl, hT, y⟩ := x.x
  refine l_take09_ok p S.a1 hc (by (clear hn; omega)) (hT.len p hc (by (clear hn; omega))) y hT (x.live S) S.z1 x.u hn fun cm' gv' wc' wg' sg' fg' H' hc' hl' f hT' y' u' => ?_
  have z := Two9.step S x f ⟨cs, g, cm', gv', ov, wa, wc', wg', sg', fg', p, hc', by (clear hq hn; omega), hT', y'⟩ u'
  exact h H' z.1 z.2
theorem take9_two {c : Int} (S : Sep Z d r s d' r' s' t) (x : Two9 H Z d r s d' r' s' t q n) (he : e = d ∨ e = d') (hq : q ≤ 15) (hn : n ≤ 100) (h : ∀ H', Two9 H' Z d r s d' r' s' t (q + 1) (n + 1) → (∀ a vs, a ∉ Z → getL H a = some vs → getL H' a = some vs) → Q (.bool true) H') : CallN TB (k + 8) F.l_take09 [.dct e, .int c] H false Q X := by
  rcases he with c | c <;> subst c
  · exact take9_one S x hq hn h
  · exact take9_one S.swap x.swap hq hn fun H' y => h H' y.swap
theorem end9_one (S : Sep Z d r s d' r' s' t) (x : Two9 H Z d r s d' r' s' t q n) (hq : q ≤ 15) (hn : n ≤ 100) (h : ∀ H', Two9 H' Z d r s d' r' s' t (q + 1) (n + 1) → (∀ a vs, a ∉ Z → getL H a = some vs → getL H' a = some vs) → Q (.bool true) H') : CallN TB (k + 8) F.l_end [.dct d] H false Q X := by
  obtain ⟨cs, g, cm, gv, ov, wa, wc, wg, sg, fg, p, hc, hl, hT, y⟩ := x.x
  refine l_end_ok p S.a1 hc (by (clear hn; omega)) (hT.len p hc (by (clear hn; omega))) y hT (x.live S) S.z1 x.u hn fun gv' wg' fg' H' f hT' y' u' => ?_
  have z := Two9.step S x f ⟨cs, g, cm, gv', true, wa, wc, wg', sg, fg', p, hc, by (clear hq hn; omega), hT', y'⟩ u'
  exact h H' z.1 z.2
theorem end9_two (S : Sep Z d r s d' r' s' t) (x : Two9 H Z d r s d' r' s' t q n) (he : e = d ∨ e = d') (hq : q ≤ 15) (hn : n ≤ 100) (h : ∀ H', Two9 H' Z d r s d' r' s' t (q + 1) (n + 1) → (∀ a vs, a ∉ Z → getL H a = some vs → getL H' a = some vs) → Q (.bool true) H') : CallN TB (k + 8) F.l_end [.dct e] H false Q X := by
  rcases he with c | c <;> subst c
  · exact end9_one S x hq hn h
  · exact end9_one S.swap x.swap hq hn fun H' y => h H' y.swap
theorem seen9_one (S : Sep Z d r s d' r' s' t) (x : Two9 H Z d r s d' r' s' t q n) (hq : q ≤ 20) (hn : n ≤ 100) (h : ∀ H', Two9 H' Z d r s d' r' s' t q (n + 1) → (∀ a vs, a ∉ Z → getL H a = some vs → getL H' a = some vs) → Q (.bool true) H') : CallN TB (k + 3) F.l_seen09 [.dct d, .lst t] H false Q X := by
  obtain ⟨cs, g, cm, gv, ov, wa, wc, wg, sg, fg, p, hc, hl, hT, y⟩ := x.x
  have hz : ∀ z ∈ [t], z ∈ Z := fun z h => by rw [List.mem_singleton.mp h]; exact S.z3
  refine l_seen09_ok y (hT.len p hc (by (clear hn; omega))) (x.live S) S.z3 x.w hn fun H' f w' => ?_
  exact h H' ⟨x.x.fr f hz (fun c => nomatch c) (fun c => nomatch c) (Nat.le_refl q), x.y.fr f hz (fun c => nomatch c) (fun c => nomatch c) (Nat.le_refl q), (x.u.fr f hz fun c => S.b2 (List.mem_singleton.mp c)).up (Nat.le_succ n), (x.v.fr f hz fun c => S.b3 (List.mem_singleton.mp c)).up (Nat.le_succ n), w'⟩ fun a vs na ga => f.l a vs (fun c => na (hz a c)) ga
end
noncomputable abbrev b9B : List MS := [
    .asg (.loc 2) (.call (.gfn F.l_cell_at) [(.loc 0), (.loc 4)]),
    .asg (.loc 5) (.idx (.loc 1) (.bin .mod (.loc 2) (.cInt 2))),
    .asg (.loc 6) (.cBool true),
    .ite (.e (.cmp .eq (.bin .mod (.bin .fdiv (.loc 2) (.cInt 2)) (.cInt 7)) (.cInt 3))) [
      .asg (.loc 6) (.call (.gfn F.l_end) [(.loc 5)])] [
      .asg (.loc 6) (.call (.gfn F.l_take09) [(.loc 5), (.bin .fdiv (.loc 2) (.cInt 14))])],
    .ite (.not (.e (.loc 6))) [
      .ret (.cBool false)] [],
    .ite (.any [(.not (.e (.call (.gfn F.l_seen09) [(.idx (.loc 1) (.cInt 0)), (.loc 3)]))), (.not (.e (.call (.gfn F.l_seen09) [(.idx (.loc 1) (.cInt 1)), (.loc 3)])))]) [
      .ret (.cBool false)] []]
noncomputable abbrev b9T : List MS := [
    .ite (.not (.e (.loc 6))) [
      .ret (.cBool false)] [],
    .ite (.any [(.not (.e (.call (.gfn F.l_seen09) [(.idx (.loc 1) (.cInt 0)), (.loc 3)]))), (.not (.e (.call (.gfn F.l_seen09) [(.idx (.loc 1) (.cInt 1)), (.loc 3)])))]) [
      .ret (.cBool false)] []]
section
variable {hk : Hook} {H : AH} {Z : List Addr} {d r s d' r' s' t bo a : Addr} {q n : Nat} {ns : List Int} {QS : Out → AS → Prop} {XS : Nat → AS → Prop}
theorem deed9 (e : hk = CallN TB 14) {j : Int} {x2 x5 x6 : Option AV} {w : List (Option AV)} (hn : ns.length ≤ 63) (hj : 0 ≤ j) (S : Sep Z d r s d' r' s' t) (x : Two9 H Z d r s d' r' s' t q n) (hb : bo ∉ Z) (gb : getL H bo = some [.dct d, .dct d']) (hq : q ≤ 15) (hn2 : n ≤ 90)
    (h : ∀ x2 x5 H', Two9 H' Z d r s d' r' s' t (q + 1) (n + 1) → getL H' bo = some [.dct d, .dct d'] → QS .next ⟨some (.frz a ns) :: some (.lst bo) :: x2 :: some (.lst t) :: some (.int j) :: x5 :: some (.bool true) :: w, [], H', false⟩) :
    WSs TB hk (b9B.take 4) ⟨some (.frz a ns) :: some (.lst bo) :: x2 :: some (.lst t) :: some (.int j) :: x5 :: x6 :: w, [], H, false⟩ QS XS := by
  show WSs TB hk [_, _, _, _] _ _ _
  walk_at "v"
  refine via e (l_cell_at_ok hj hn fun c => ?_)
  walk_at "v"
  refine ⟨by decide, ?_⟩
  refine idx_two (by (clear hn hj hq hn2; omega)) gb fun e1 h1 => ?_
  walk_at "v"
  refine ⟨div_s (by decide) (by decide), by decide, ?_⟩
  by_cases z : c / 2 % 7 = 3
  · rw [decide_eq_true z]
    walk_at "v"
    refine via e (end9_two S x h1 hq (by (clear hn hj hq h1 z; omega)) fun H1 x1 k1 => ?_)
    walk_at "v"
    exact h _ _ H1 x1 (k1 _ _ hb gb)
  · rw [decide_eq_false z]
    walk_at "v"
    refine ⟨div_s (by decide) (by decide), ?_⟩
    refine via e (take9_two S x h1 hq (by (clear hn hj hq h1 z; omega)) fun H1 x1 k1 => ?_)
    walk_at "v"
    exact h _ _ H1 x1 (k1 _ _ hb gb)
theorem turn9 (e : hk = CallN TB 14) {j : Int} {x2 x5 x6 : Option AV} {w : List (Option AV)} (hn : ns.length ≤ 63) (hj : 0 ≤ j) (S : Sep Z d r s d' r' s' t) (x : Two9 H Z d r s d' r' s' t q n) (hb : bo ∉ Z) (gb : getL H bo = some [.dct d, .dct d']) (hq : q ≤ 15) (hn2 : n ≤ 90)
    (h : ∀ x2 x5 x6 H', Two9 H' Z d r s d' r' s' t (q + 1) (n + 3) → getL H' bo = some [.dct d, .dct d'] → QS .next ⟨some (.frz a ns) :: some (.lst bo) :: x2 :: some (.lst t) :: some (.int j) :: x5 :: x6 :: w, [], H', false⟩) :
    WSs TB hk b9B ⟨some (.frz a ns) :: some (.lst bo) :: x2 :: some (.lst t) :: some (.int j) :: x5 :: x6 :: w, [], H, false⟩ QS XS := by
  refine split_at 4 (deed9 e hn hj S x hb gb hq hn2 fun x2 x5 H1 x1 gb1 => ?_)
  rw [k_seqn]
  show WSs TB hk b9T _ _ _
  walk_at "v"
  refine idx_of (v := .dct d) (by decide) (by decide) gb1 rfl ?_
  walk_at "v"
  refine via e (seen9_one S x1 (by (clear hn hj hn2; omega)) (by (clear hn hj hq; omega)) fun H2 x2 k2 => ?_)
  have gb2 := k2 _ _ hb gb1
  walk_at "v"
  refine idx_of (v := .dct d') (by decide) (by decide) gb2 rfl ?_
  walk_at "v"
  refine via e (seen9_one S.swap x2.swap (by (clear hn hj hn2; omega)) (by (clear hn hj hq; omega)) fun H3 x3 k3 => ?_)
  have gb3 := k3 _ _ hb gb2
  walk_at "v"
  exact h _ _ _ H3 x3.swap gb3
theorem turns9 (e : hk = CallN TB 14) {lo hi : Int} {vs : List AV} {w : List (Option AV)} (hn : ns.length ≤ 63) (S : Sep Z d r s d' r' s' t) (hb : bo ∉ Z) (hv : ∀ H, src H (.rng lo hi) = some vs) : ∀ (js : List Int) (H : AH) (q n : Nat) (x2 x4 x5 x6 : Option AV) (_ : ∀ j ∈ js, 0 ≤ j) (_ : Two9 H Z d r s d' r' s' t q n) (_ : getL H bo = some [.dct d, .dct d']) (_ : q + js.length ≤ 15) (_ : n + 3 * js.length ≤ 50)
    (_ : ∀ x2 x4 x5 x6 q n H', q ≤ 15 → n ≤ 50 → Two9 H' Z d r s d' r' s' t q n → getL H' bo = some [.dct d, .dct d'] → QS .next ⟨some (.frz a ns) :: some (.lst bo) :: x2 :: some (.lst t) :: x4 :: x5 :: x6 :: w, [], H', false⟩),
    FOR TB hk (.loc 4) b9B (.rng lo hi) vs (js.map .int) ⟨some (.frz a ns) :: some (.lst bo) :: x2 :: some (.lst t) :: x4 :: x5 :: x6 :: w, [], H, false⟩ QS XS
  | [], H, q, n, x2, x4, x5, x6, _, x, gb, hq, hn2, h => FOR_nil (hv _) (h _ _ _ _ q n H hq hn2 x gb)
  | j :: js, H, q, n, x2, x4, x5, x6, hj, x, gb, hq, hn2, h => by
    refine FOR_cons (hv _) ?_
    rw [List.length_cons] at hq hn2
    show WSs TB hk b9B ⟨some (.frz a ns) :: some (.lst bo) :: x2 :: some (.lst t) :: some (.int j) :: x5 :: x6 :: w, [], H, false⟩ _ _
    refine turn9 e hn (hj j (.head _)) S x hb gb (by (clear hn hn2; omega)) (by (clear hn; omega)) fun x2 x5 x6 H' x' gb' => ?_
    exact turns9 e hn S hb hv js H' (q + 1) (n + 3) _ _ _ _ (fun i hi => hj i (.tail _ hi)) x' gb' (by (clear hn hn2; omega)) (by (clear hn hq; omega)) h
theorem Wc.more {cs : List Int} {g : Int} {cm gv : List Nat} {ov : Bool} {wa wc wg sg fg y : Addr} {H' : AH} (x : Wc H Z d r s cs g cm gv ov wa wc wg sg fg) (n : H y = none) (l : Le H H') : Wc H' (y :: Z) d r s cs g cm gv ov wa wc wg sg fg := by
  have nin : ∀ {z : Addr} {vs : List AV}, getL H z = some vs → z ∉ Z → z ∉ y :: Z := fun gz hz c => by
    rcases List.mem_cons.mp c with q | q
    · exact ne_of_new gz n q
    · exact hz q
  have z := x.le l
  exact ⟨z.gd, z.wr, z.gs, z.gf, nin x.wr.gc x.zc, nin x.wr.gg x.zg, nin x.gs x.zs, nin x.gf x.zf⟩
theorem Rec9.more {H' : AH} {y : Addr} (n : H y = none) (l : Le H H') : Rec9 H Z d r s q → Rec9 H' (y :: Z) d r s q
  | ⟨cs, g, cm, gv, ov, wa, wc, wg, sg, fg, a1, a2, a3, a4, x⟩ => ⟨cs, g, cm, gv, ov, wa, wc, wg, sg, fg, a1, a2, a3, a4, x.more n l⟩
end
theorem Shown.nil9 {H : AH} {Z : List Addr} {s : Addr} {n : Nat} (g : getL H s = some []) : Shown H Z s n := ⟨[], g, Nat.zero_le _, fun _ c => nomatch c⟩
theorem Pr.out9 {H : AH} {Z : List Addr} {v : AV} : Pr H Z v → Pr H [] v
  | ⟨x, y, ks, e, _, _, h1, h2⟩ => ⟨x, y, ks, e, (fun c => nomatch c), (fun c => nomatch c), h1, h2⟩
noncomputable abbrev e9B : List MS := [
  .asg (.loc 3) (.bin .add (.bin .add (.loc 3) (.key (.idx (.loc 1) (.cInt 0)) Ky.shown)) (.key (.idx (.loc 1) (.cInt 1)) Ky.shown)),
  .ret (.and [(.call (.gfn F.l_seen09) [(.idx (.loc 1) (.cInt 1)), (.lst [])]), (.cmp .eq (.comp 3 (.cInt 1) (.tupc [1, 2]) (.loc 3) [(.e (.cmp .ne (.cv 1) (.cv 2)))]) (.lst []))])]
theorem end9 {hk : Hook} {H : AH} {Z : List Addr} {d r s d' r' s' t bo a : Addr} {q n : Nat} {ns : List Int} {XS : Nat → AS → Prop} (e : hk = CallN TB 14) {x2 x4 x5 x6 : Option AV} {w : List (Option AV)} (x : Two9 H Z d r s d' r' s' t q n) (S : Sep Z d r s d' r' s' t) (gb : getL H bo = some [.dct d, .dct d']) (hq : q ≤ 15) (hn : n ≤ 50) :
    WSs TB hk e9B ⟨some (.frz a ns) :: some (.lst bo) :: x2 :: some (.lst t) :: x4 :: x5 :: x6 :: w, [], H, false⟩ (fun o _ => outV o = .bool true) XS := by
  obtain ⟨cs, g, cm, gv, ov, wa, wc, wg, sg, fg, p, hc, hl, hT, y⟩ := x.x
  obtain ⟨cs', g', cm', gv', ov', wa', wc', wg', sg', fg', p', hc', hl', hT', y'⟩ := x.y
  obtain ⟨ps, gp, lp, ap⟩ := x.u
  obtain ⟨ps', gp', lp', ap'⟩ := x.v
  obtain ⟨qs, gq, lq, aq⟩ := x.w
  walk_at "v"
  refine idx_of (v := .dct d) (by decide) (by decide) gb rfl ?_
  refine key_ok y.gd rfl ?_
  walk_at "v"
  refine add_ok gq gp (by rw [List.length_append]; (clear hq hl hl' lp'; omega)) fun b1 H1 n1 l1 g1 => ?_
  walk_at "v"
  refine idx_of (v := .dct d') (by decide) (by decide) (getL_le l1 gb) rfl ?_
  refine key_ok (getD_le l1 y'.gd) rfl ?_
  walk_at "v"
  refine add_ok g1 (getL_le l1 gp') (by rw [List.length_append, List.length_append]; (clear hq hl hl'; omega)) fun b2 H2 n2 l2 g2 => ?_
  have l02 := l1.trans l2
  have y2 := y'.le l02
  have hv2 : ∀ z ∈ Z, ∃ vs, getL H2 z = some vs := fun z hz => (x.live S z hz).imp fun vs gv => getL_le l02 gv
  have all : ∀ v ∈ qs ++ ps ++ ps', Pr H2 [] v := fun v hv => by
    have h1 : Pr H Z v := by
      rcases List.mem_append.mp hv with c | c
      · rcases List.mem_append.mp c with c | c
        · exact aq v c
        · exact ap v c
      · exact ap' v c
    exact h1.out9.fr (l02.fr (Z := []) (D := [])) (fun _ c => nomatch c)
  walk_at "v"
  refine idx_of (v := .dct d') (by decide) (by decide) (getL_le l02 gb) rfl ?_
  walk_at "v"
  refine new_ok (Nat.le_of_ble_eq_true rfl) fun b3 H3 n3 l3 g3 => ?_
  walk_at "v"
  have lv3 : ∀ z ∈ b3 :: Z, ∃ vs, getL H3 z = some vs := fun z hz => by
    rcases List.mem_cons.mp hz with c | c
    · exact ⟨_, c ▸ g3⟩
    · exact (hv2 z c).imp fun vs gv => getL_le l3 gv
  refine via e (l_seen09_ok (y2.more n3 l3) (hT'.len p' hc' (by (clear hn hl lp lp' lq; omega))) lv3 (.head _) (Shown.nil9 (n := 0) g3) (by decide) fun H4 f4 _ => ?_)
  have g4 := f4.l _ _ (fun c => ne_of_new g2 n3 (List.mem_singleton.mp c)) (getL_le l3 g2)
  have all4 : ∀ v ∈ qs ++ ps ++ ps', Pr H4 [] v := fun v hv => by
    obtain ⟨x, y, ks, e, h1, h2, h3, h4⟩ := all v hv
    exact ⟨x, y, ks, e, h1, h2, f4.l _ _ (fun c => ne_of_new h3 n3 (List.mem_singleton.mp c)) (getL_le l3 h3), f4.l _ _ (fun c => ne_of_new h4 n3 (List.mem_singleton.mp c)) (getL_le l3 h4)⟩
  walk_at "v"
  rw [g4]
  refine fin_comp g4 _ _ _ _ all4 fun w' => ?_
  refine compK_ok fun b5 H5 n5 l5 g5 => ?_
  walk_at "v"
  refine new_ok (Nat.le_of_ble_eq_true rfl) fun b6 H6 n6 l6 g6 => ?_
  refine cmp_eq (eq_txt (ks := []) (js := []) (getL_le l6 g5) g6 ?_)
  rw [decide_eq_true rfl]
noncomputable abbrev h9B : List MS := [
  .asg (.loc 1) (.lst [(.call (.gfn F.l_made09) [(.loc 0), (.cInt 0)]), (.call (.gfn F.l_made09) [(.loc 0), (.cInt 1)])]),
  .asg (.loc 2) (.call (.gfn F.l_cell_at) [(.loc 0), (.cInt 12)]),
  .ite (.not (.e (.call (.gfn F.l_refused09) [(.key (.idx (.loc 1) (.cInt 0)) Ky.plan), (.bin .fdiv (.loc 2) (.cInt 16))]))) [
    .ret (.cBool false)] [],
  .ite (.all [(.e (.cmp .eq (.bin .mod (.loc 2) (.cInt 16)) (.cInt 1))), (.not (.e (.call (.gfn F.l_edge09) [(.key (.idx (.loc 1) (.cInt 1)) Ky.plan), (.bin .mod (.bin .fdiv (.loc 2) (.cInt 16)) (.call (.gbi Bi.len) [(.idx (.key (.idx (.loc 1) (.cInt 1)) Ky.plan) (.cInt 0))]))])))]) [
    .ret (.cBool false)] []]
theorem head9 {hk : Hook} {H : AH} {a : Addr} {ns : List Int} {w : List (Option AV)} {QS : Out → AS → Prop} {XS : Nat → AS → Prop} (eh : hk = CallN TB 14) (hn : ns.length ≤ 63)
    (h : ∀ d r s d' r' s' bo x2 H', Rec9 H' [s', s] d r s 0 → Rec9 H' [s', s] d' r' s' 0 → d ≠ r → d' ≠ r' → d ≠ d' → d ≠ r' → r ≠ d' → r ≠ r' → s ≠ s' → getL H' s = some [] → getL H' s' = some [] → getL H' bo = some [.dct d, .dct d'] → bo ≠ s → bo ≠ s' →
      QS .next ⟨some (.frz a ns) :: some (.lst bo) :: x2 :: w, [], H', false⟩) :
    WSs TB hk h9B ⟨some (.frz a ns) :: none :: none :: w, [], H, false⟩ QS XS := by
  walk_at "v"
  refine via eh (l_made09_ok (j := 0) hn fun cs g d r s wa wc wg sg fg H1 p l1 nd nr ns1 dr gs x nc1 nc2 nc3 nc4 => ?_)
  walk_at "v"
  refine via eh (l_made09_ok (j := 1) hn fun cs' g' d' r' s' wa' wc' wg' sg' fg' H2 p' l2 nd' nr' ns' dr' gs' x' na1 na2 na3 na4 => ?_)
  walk_at "v"
  refine new_ok (Nat.le_of_ble_eq_true rfl) fun bo H3 n3 l3 gb => ?_
  have x2 := x.more ns' l2
  have nin : ∀ {z : Addr}, H1 z = none → z ∉ [s'] → z ∉ [s', s] := fun nz hz c => by
    rcases List.mem_cons.mp c with q | q
    · exact hz (List.mem_singleton.mpr q)
    · exact ne_of_new gs nz (List.mem_singleton.mp q).symm
  have y2 : Wc H2 [s', s] d' r' s' cs' g' [] [] false wa' wc' wg' sg' fg' := ⟨x'.gd, x'.wr, x'.gs, x'.gf, nin na1 x'.zc, nin na2 x'.zg, nin na3 x'.zs, nin na4 x'.zf⟩
  have hgs := getL_le l2 gs
  have fin : ∀ H', Le H3 H' → ∀ x2, QS .next ⟨some (.frz a ns) :: some (.lst bo) :: x2 :: w, [], H', false⟩ := fun H' l v2 => by
    have l' := l3.trans l
    exact h d r s d' r' s' bo v2 H' ⟨cs, g, [], [], false, wa, wc, wg, sg, fg, p, fun _ c => (nomatch c), Nat.le_refl 0, sure_one rfl, x2.le l'⟩
      ⟨cs', g', [], [], false, wa', wc', wg', sg', fg', p', fun _ c => (nomatch c), Nat.le_refl 0, sure_one rfl, y2.le l'⟩
      dr dr' (ne_dn nd' x.gd).symm (ne_dn nr' x.gd).symm (ne_dn nd' x.wr.gd).symm (ne_dn nr' x.wr.gd).symm (ne_of_new gs ns') (getL_le l' hgs) (getL_le l' gs') (getL_le l gb) (ne_of_new hgs n3).symm (ne_of_new gs' n3).symm
  have gd3 := getD_le l3 x2.gd
  have gd3' := getD_le l3 y2.gd
  clear x2 y2 x x' h nin na1 na2 na3 na4 nc1 nc2 nc3 nc4 gs gs' hgs
  walk_at "v"
  refine via eh (l_cell_at_ok (by decide) hn fun c => ?_)
  walk_at "v"
  refine idx_of (v := .dct d) (by decide) (by decide) gb rfl ?_
  refine key_ok gd3 rfl ?_
  walk_at "v"
  refine ⟨div_s (by decide) (by decide), ?_⟩
  refine via eh (l_refused09_ok p fun H4 l4 => ?_)
  walk_at "v"
  refine ⟨by decide, ?_⟩
  by_cases q : c % 16 = 1
  · rw [decide_eq_true q]
    walk_at "v"
    refine idx_of (v := .dct d') (by decide) (by decide) (getL_le l4 gb) rfl ?_
    refine key_ok (getD_le l4 gd3') rfl ?_
    walk_at "v"
    refine ⟨div_s (by decide) (by decide), ?_⟩
    refine idx_of (v := .dct d') (by decide) (by decide) (getL_le l4 gb) rfl ?_
    refine key_ok (getD_le l4 gd3') rfl ?_
    walk_at "v"
    rw [idx_p0]
    walk_at "v"
    have l2 := p'.l2
    rw [List.length_map]
    obtain ⟨f, ef, hf⟩ : ∃ f : Nat, c / 16 % (cs'.length : Nat) = f ∧ f < cs'.length := by
      have h1 := Int.emod_nonneg (c / 16) (show ((cs'.length : Nat) : Int) ≠ 0 by (clear hn dr dr' q; omega))
      have h2 := Int.emod_lt_of_pos (c / 16) (show (0 : Int) < ((cs'.length : Nat) : Int) by (clear hn dr dr' q h1; omega))
      exact ⟨(c / 16 % (cs'.length : Nat)).toNat, by (clear hn dr dr' q l2 h2; omega), by (clear hn dr dr' q l2; omega)⟩
    rw [ef]
    refine ⟨by (clear hn dr dr' q ef hf; omega), ?_⟩
    refine via eh (l_edge09_ok p' hf fun H5 l5 => ?_)
    walk_at "v"
    exact fin H5 (l4.trans l5) _
  · rw [decide_eq_false q]
    walk_at "v"
    exact fin H4 l4 _
set_option maxRecDepth 20000 in
theorem law09_w (a : Addr) (ns : List Int) (hn : ns.length ≤ 63) : CallN TB 15 F.law09 [.frz a ns] (fun _ => none) false (fun v _ => v = .bool true) (fun _ _ => False) := by
  refine ⟨rfl, ?_⟩
  generalize eh : CallN TB 14 = hk
  replace eh := eh.symm
  simp only [D.law09]
  walk_at "e"
  refine split_at 4 (head9 eh hn fun d r s d' r' s' bo x2 H1 X Y a1 a2 a3 a4 a5 a6 ss gs gs' gb bs bs' => ?_)
  rw [k_seqn]
  show WSs TB _ (_ :: _) _ _ _
  walk_at "v"
  refine new_ok (Nat.le_of_ble_eq_true rfl) fun t H2 n2 l2 g2 => ?_
  walk_at "v"
  generalize eM : (min (((ns.map AV.int).length : Nat) : Int) 12) = M
  have hM : M ≤ 12 := by (clear hn a1 a2 a3 a4 a5 a6 ss bs bs'; omega)
  have hM0 : 0 ≤ M := by (clear hn a1 a2 a3 a4 a5 a6 ss bs bs' hM; omega)
  refine ⟨by decide, ⟨by (clear hn a1 a2 a3 a4 a5 a6 ss bs bs' eM; omega), by (clear hn a1 a2 a3 a4 a5 a6 ss bs bs' eM; omega)⟩, ?_⟩
  have ejs : rngL 2 M = ((List.range (M - 2).toNat).map fun (k : Nat) => (2 : Int) + k).map AV.int := by simp [rngL]
  have S : Sep [t, s', s] d r s d' r' s' t := ⟨a1, a2, a3, a4, a5, a6, ss, ne_of_new gs n2, ne_of_new gs' n2, .tail _ (.tail _ (.head _)), .tail _ (.head _), .head _, fun z hz => by simp at hz; rcases hz with c | c | c; exact .inr (.inr c); exact .inr (.inl c); exact .inl c⟩
  have T : Two9 H2 [t, s', s] d r s d' r' s' t 0 0 := ⟨X.more n2 l2, Y.more n2 l2, .nil9 (getL_le l2 gs), .nil9 (getL_le l2 gs'), .nil9 g2⟩
  have hb : bo ∉ [t, s', s] := fun c => by
    simp at c
    rcases c with c | c | c
    · exact ne_of_new gb n2 c
    · exact bs' c
    · exact bs c
  have gb2 := getL_le l2 gb
  have hsr : ∀ H, src H (.rng 2 M) = some (rngL 2 M) := fun _ => rfl
  rw [ejs] at hsr ⊢
  refine turns9 eh hn S hb hsr _ H2 0 0 _ _ _ _ (fun j hj => ?_) T gb2 (by simp; (clear hn a1 a2 a3 a4 a5 a6 ss bs bs' eM; omega)) (by simp; (clear hn a1 a2 a3 a4 a5 a6 ss bs bs' eM; omega)) fun x2 x4 x5 x6 q n H' hq hn' T' gb' => ?_
  · obtain ⟨i, _, rfl⟩ := List.mem_map.mp hj
    (clear hn a1 a2 a3 a4 a5 a6 ss bs bs' eM hM hM0; omega)
  · exact end9 eh T' S gb' hq hn'
end
end Mine
end
section
open PySem PySem.W PyProof.Rows
set_option maxRecDepth 100000
set_option maxHeartbeats 8000000
namespace Mine
theorem left09 : LeftO PySem.Challenge.pw_uf050004_09 v09 loose09 (fun s => xlAt v09 [] s && recOk (RowW.records r09) s) (seenB rt09) (fun _ => true) 3100 := left_two left09a fun w => map_parts 17 (left09b w) (left09c w) (left09d w) (left09e w)
theorem x09 : PySem.Challenge.rw_uf050004_09.Holds := by
  refine holds_law (by kernel_rfl) fun said => ?_
  refine holds_open (q := v09) (loose := loose09) (Xt := fun s => xlAt v09 [] s && recOk (RowW.records r09) s) (XP := XL v09 []) (Yf := seenB rt09) (Ya := fun _ => true) (YP := fun _ h => Left rt09 h) (N := 3100) left09 (left_of rt09) (left_keeps rt09) (fun s e => xl_of s (Bool.and_eq_true_iff.mp e).1) XL.keeps (by rfl) (by rfl) (by rfl) (fun s e => recFacts_of (Bool.and_eq_true_iff.mp e).2) (by rfl) (by first | assumption | decide +kernel) (by decide +kernel) ⟨rfl, rfl, rfl, rfl, rfl, by decide +kernel⟩ ?hw ?hc
  case hw => w_witness2
  intro w s₀ s₁ mg mb G Y fa o pm cd doc dV kV ho hd hcd hD hmg hg args vals as hpre hlay hrd hwl hlo
  obtain ⟨K, KX, hrow, hexc, h0⟩ := Y
  refine Ground.open G ?_
  intro T B D TE TW
  clear hd hcd hD ho
  wrow_args hpre hlay hrd hwl hlo
  rename_i ns _ _ _ _ _ _ _ a ws _ hL ra w1 r0 hI _ hc1 _
  exact law_row (R := rt09) KX T hrow rfl hexc h0 hg (f := F.law09) (fb := 372) (by simp [rt09]) hmg w1 hL hI (by omega) (law09_w a ns (by omega)) (fun _ => rfl) (by first | rfl | kernel_rfl | decide | (with_unfolding_all rfl))
end Mine
theorem PySem.Challenge.cw_uf050004_09_holds : PySem.Challenge.rw_uf050004_09.Holds :=
  Mine.x09
end

