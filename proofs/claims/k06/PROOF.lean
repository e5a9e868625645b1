import PyProof.Rows.All
import HandS.AnyAll
import Wide.All
import OpenK.AllK
import Wide.FinOn
import HandS.ForMost
import HandS.Exc
import HandS.ExcOwn
import HandS.WordsExc
import HandS.ExcInit
import HandS.ExcField
import HandS.IsInst
import HandS.ExcIs
import KE.KExcIs
import HandS.CallSlots
import HandS.More
import HandS.Wide
import HandS.TupAny
import HandS.TupMul
import HandS.Flow
import HandS.RaiseMore
import HandS.Iter
import HandS.Comp
import HandS.TryOnly
import HandS.Style
import KE.KExcSuper
import HandS.Ends
import HandS.Conv
import HandS.Dict
import HandS.GenOver
import HandS.EndTab
import HandS.Flt
import HandS.TryMany
import PySem.Challenge.RW_anypartnext_k06_twigs_and_forks
set_option Elab.async false
set_option linter.all false
set_option maxRecDepth 100000
set_option maxRecDepth 100000
/-! MM, part A: data, the store, results, and what the combinators mean. Plain Lean. -/
namespace MM
open PySem

/-- a value: immutable data as trees (scr: the script's list; frz: a new list that is never changed; fdc: such a dict), mutable things by their place in the store -/
inductive D where
  | non | bl (b : Bool) | int (i : Int) | str (s : Str) | tup (ds : List D) | loc (n : Nat)
  | scr (ds : List D) | frz (ds : List D) | fdc (ks : List L2.Key) (ds : List D) | cls (i : Nat) | ty (s : String) | exn (c : Nat) (ds : List D)
  deriving Inhabited
/-- what stands at a place: a list, a dict, a dict whose keys are tuples, an instance of the class c -/
inductive O where
  | lst (ds : List D) | dct (kvs : List (L2.Key × D)) | dtt (kvs : List (List L2.Key × D)) | ins (c : Nat) (fs : List (Str × D))
  deriving Inhabited
/-- what an expression gives: a value, or a new object that nothing else names -/
inductive W where
  | val (d : D) | tmp (o : O)
  deriving Inhabited
abbrev Sto := List O
inductive R (α : Type) where
  | ok (a : α) (S : Sto) | exc (c : Nat) (ds : List D) (S : Sto) | bad
abbrev Env := List (Option D)
abbrev FT := Nat → List D → Sto → R W
abbrev ME := FT → Env → Sto → R W
abbrev ML := FT → Env → Sto → R (List D)
abbrev MT := FT → Env → Sto → R Bool
inductive Fl where
  | nx (δ : Env) (S : Sto) | rt (w : W) (S : Sto) | bk (δ : Env) (S : Sto) | ct (δ : Env) (S : Sto) | exc (c : Nat) (ds : List D) (δ : Env) (S : Sto) | bad
abbrev MS := FT → Env → Sto → Fl

/-- a result goes on -/
def R.then {α β : Type} (r : R α) (f : α → Sto → R β) : R β := match r with
  | .ok a S => f a S
  | .exc c ds S => .exc c ds S
  | .bad => .bad
def R.nox {α : Type} : R α → R α
  | .exc _ _ _ => .bad
  | r => r
def R.thenS {α : Type} (r : R α) (δ : Env) (f : α → Sto → Fl) : Fl := match r with
  | .ok a S => f a S
  | .exc c ds S => .exc c ds δ S
  | .bad => .bad
@[simp] theorem then_ok {α β : Type} (a : α) (S : Sto) (f : α → Sto → R β) : (R.ok a S).then f = f a S := rfl
@[simp] theorem then_exc {α β : Type} (c ds S) (f : α → Sto → R β) : (R.exc c ds S : R α).then f = .exc c ds S := rfl
@[simp] theorem then_bad {α β : Type} (f : α → Sto → R β) : (R.bad : R α).then f = .bad := rfl
@[simp] theorem thenS_ok {α : Type} (a : α) (S : Sto) (δ) (f : α → Sto → Fl) : (R.ok a S).thenS δ f = f a S := rfl
@[simp] theorem thenS_exc {α : Type} (c ds S) (δ) (f : α → Sto → Fl) : (R.exc c ds S : R α).thenS δ f = .exc c ds δ S := rfl
@[simp] theorem thenS_bad {α : Type} (δ) (f : α → Sto → Fl) : (R.bad : R α).thenS δ f = .bad := rfl
/-- what a result is once it is bound: a new object gets its place -/
def bindW (w : W) (S : Sto) : D × Sto := match w with
  | .val d => (d, S)
  | .tmp o => (.loc S.length, S ++ [o])
@[simp] theorem bindW_val (d : D) (S : Sto) : bindW (.val d) S = (d, S) := rfl
@[simp] theorem bindW_tmp (o : O) (S : Sto) : bindW (.tmp o) S = (.loc S.length, S ++ [o]) := rfl
def bnd (m : ME) : FT → Env → Sto → R D := fun T δ S => (m T δ S).then fun w S1 => .ok (bindW w S1).1 (bindW w S1).2

/-! ### the returning of a call: what nothing names any more is dropped -/
mutual
def D.clean (L : Nat) : D → Bool
  | .tup ds => cleanL L ds
  | .exn _ ds => cleanL L ds
  | .scr ds => cleanL L ds
  | .frz ds => cleanL L ds
  | .fdc _ ds => cleanL L ds
  | .loc n => decide (n < L)
  | _ => true
def cleanL (L : Nat) : List D → Bool
  | [] => true
  | d :: ds => d.clean L && cleanL L ds
end
def cleanK (L : Nat) : List (L2.Key × D) → Bool
  | [] => true
  | p :: r => p.2.clean L && cleanK L r
def cleanT (L : Nat) : List (List L2.Key × D) → Bool
  | [] => true
  | p :: r => p.2.clean L && cleanT L r
def cleanF (L : Nat) : List (Str × D) → Bool
  | [] => true
  | p :: r => p.2.clean L && cleanF L r
def O.clean (L : Nat) : O → Bool
  | .lst ds => cleanL L ds
  | .dct kvs => cleanK L kvs
  | .dtt kvs => cleanT L kvs
  | .ins _ fs => cleanF L fs
/-- what stood in the store is as it was, or names nothing new -/
def Kept (S S' : Sto) : Prop := S.length ≤ S'.length ∧ ∀ n : Nat, n < S.length → S'[n]? = S[n]? ∨ ∃ o, S'[n]? = some o ∧ o.clean S.length = true
open Classical in
/-- a call's result, seen from the store S that it began with -/
noncomputable def gc (S : Sto) (r : R W) : R W := match r with
  | .ok w S' => if Kept S S' then
      match w with
      | .val d => if d.clean S.length = true then .ok w (S'.take S.length) else
        match d with
        | .loc n => match S'[n]? with
          | some o => if o.clean S.length = true then .ok (.tmp o) (S'.take S.length) else r
          | none => r
        | _ => r
      | .tmp o => if o.clean S.length = true then .ok w (S'.take S.length) else r
    else r
  | .exc c ds S' => if Kept S S' ∧ cleanL S.length ds = true then .exc c ds (S'.take S.length) else r
  | .bad => .bad
/-- a call's result, as it leaves the def: behind a body -/
def fin (f : Fl) : R W := match f with
  | .nx _ S => .ok (.val .non) S
  | .rt w S => .ok w S
  | .exc c ds _ S => .exc c ds S
  | _ => .bad
@[simp] theorem fin_nx (δ S) : fin (.nx δ S) = .ok (.val .non) S := rfl
@[simp] theorem fin_rt (w S) : fin (.rt w S) = .ok w S := rfl
@[simp] theorem fin_exc (c ds δ S) : fin (.exc c ds δ S) = .exc c ds S := rfl

/-- a def: how many parameters, how many slots, its body -/
structure Fd where
  pars : Nat
  slots : Nat
  body : MS
def begin (f : Fd) (ds : List D) : Env := ds.map some ++ List.replicate (f.slots - f.pars) none
/-- the program's defs, k calls deep -/
noncomputable def sem (fs : List Fd) : Nat → FT
  | 0 => fun _ _ _ => .bad
  | k + 1 => fun i ds S => match fs[i]? with
    | some f => if ds.length = f.pars then gc S (fin (f.body (sem fs k) (begin f ds) S)) else .bad
    | none => .bad

/-! ### expressions -/
def eC (d : D) : ME := fun _ _ S => .ok (.val d) S
def eV (i : Nat) : ME := fun _ δ S => match δ[i]? with
  | some (some d) => .ok (.val d) S
  | _ => .bad
def lNil : ML := fun _ _ S => .ok [] S
def lCons (e : ME) (es : ML) : ML := fun T δ S => (bnd e T δ S).then fun d S1 => (es T δ S1).then fun ds S2 => .ok (d :: ds) S2
def eTup (es : ML) : ME := fun T δ S => (es T δ S).then fun ds S1 => if ds.length ≤ sizeLine then .ok (.val (.tup ds)) S1 else .bad
def eLst (es : ML) : ME := fun T δ S => (es T δ S).then fun ds S1 => if ds.length ≤ sizeLine then .ok (.tmp (.lst ds)) S1 else .bad
/-- a two-place operation by values; none: not served -/
abbrev B2 := W → W → Sto → Option W
def eBin (f : B2) (a b : ME) : ME := fun T δ S => (a T δ S).then fun x S1 => (b T δ S1).then fun y S2 => match f x y S2 with
  | some w => .ok w S2
  | none => .bad
abbrev B1 := W → Sto → Option W
/-- a new list or dict that will never be changed -/
def frzW : W → W
  | .tmp (.lst ds) => .val (.frz ds)
  | .tmp (.dct kvs) => .val (.fdc (kvs.map (·.1)) (kvs.map (·.2)))
  | w => w
def eZ (m : ME) : ME := fun T δ S => (m T δ S).then fun w S1 => .ok (frzW w) S1
def eUn (f : B1) (a : ME) : ME := fun T δ S => (a T δ S).then fun x S1 => match f x S1 with
  | some w => .ok w S1
  | none => .bad

/-! ### values seen as sequences -/
/-- a list that may change -/
def W.lm (S : Sto) : W → Option (List D)
  | .val (.loc n) => match S[n]? with
    | some (.lst ds) => some ds
    | _ => none
  | .tmp (.lst ds) => some ds
  | _ => none
/-- any list but the script -/
def W.lr (S : Sto) : W → Option (List D)
  | .val (.loc n) => match S[n]? with
    | some (.lst ds) => some ds
    | _ => none
  | .val (.frz ds) => some ds
  | .tmp (.lst ds) => some ds
  | _ => none
/-- any list -/
def W.lq (S : Sto) : W → Option (List D)
  | .val (.loc n) => match S[n]? with
    | some (.lst ds) => some ds
    | _ => none
  | .val (.frz ds) => some ds
  | .val (.scr ds) => some ds
  | .tmp (.lst ds) => some ds
  | _ => none
def W.tq : W → Option (List D)
  | .val (.tup ds) => some ds
  | _ => none
def W.dq (S : Sto) : W → Option (List (L2.Key × D))
  | .val (.loc n) => match S[n]? with
    | some (.dct kvs) => some kvs
    | _ => none
  | .val (.fdc ks ds) => some (ks.zip ds)
  | .tmp (.dct kvs) => some kvs
  | _ => none
/-- a dict that may change -/
def W.dm (S : Sto) : W → Option (List (L2.Key × D))
  | .val (.loc n) => match S[n]? with
    | some (.dct kvs) => some kvs
    | _ => none
  | .tmp (.dct kvs) => some kvs
  | _ => none
def D.key : D → Option L2.Key
  | .int i => some (.inl i)
  | .str s => some (.inr s)
  | _ => none

/-! ### operations by values -/
def bAdd : B2 := fun x y S => match x, y with
  | .val (.int i), .val (.int j) => some (.val (.int (i + j)))
  | .val (.str s), .val (.str t) => if s.length + t.length ≤ sizeLine then some (.val (.str (s ++ t))) else none
  | .val (.tup a), .val (.tup b) => if a.length + b.length ≤ sizeLine then some (.val (.tup (a ++ b))) else none
  | x, y => match x.lr S, y.lr S with
    | some a, some b => if a.length + b.length ≤ sizeLine then some (.tmp (.lst (a ++ b))) else none
    | _, _ => none
/-- of whole numbers alone: x += e -/
def bAddI : B2 := fun x y _ => match x, y with
  | .val (.int i), .val (.int j) => some (.val (.int (i + j)))
  | _, _ => none
def bSub : B2 := fun x y _ => match x, y with
  | .val (.int i), .val (.int j) => some (.val (.int (i - j)))
  | _, _ => none
def small64 (i : Int) : Bool := decide (i.natAbs < 18446744073709551616)
theorem small64_of {j : Int} (h : small64 j = true) : -(2 ^ 64) < j ∧ j < 2 ^ 64 := by
  have := of_decide_eq_true h
  omega
def bMul : B2 := fun x y S => match x, y with
  | .val (.int i), .val (.int j) => if small64 i || small64 j then some (.val (.int (i * j))) else none
  | .val (.tup a), .val (.int k) => if k = 1 then some (.val (.tup a)) else if 0 < a.length ∧ 2 ≤ k ∧ k ≤ 1000 ∧ a.length ≤ 1000 then some (.val (.tup (List.replicate k.toNat a).flatten)) else none
  | x, .val (.int k) => match x.lr S with
    | some a => if -(2 ^ 63) ≤ k ∧ k < 2 ^ 63 ∧ a.length * k.toNat ≤ sizeLine then some (.tmp (.lst (List.replicate k.toNat a).flatten)) else none
    | none => none
  | _, _ => none
def bDiv : B2 := fun x y _ => match x, y with
  | .val (.int i), .val (.int j) => if 0 < j ∧ j.natAbs.log2 < 9000 then some (.val (.int (i / j))) else none
  | _, _ => none
def bMod : B2 := fun x y _ => match x, y with
  | .val (.int i), .val (.int j) => if 0 < j then some (.val (.int (i % j))) else none
  | _, _ => none
def bPow : B2 := fun x y _ => match x, y with
  | .val (.int i), .val (.int j) => if 0 ≤ j ∧ j ≤ 1000000 ∧ i.natAbs < 2 ^ 64 then some (.val (.int (i ^ j.toNat))) else none
  | _, _ => none
def bShl : B2 := fun x y _ => match x, y with
  | .val (.int i), .val (.int j) => if 0 ≤ j ∧ j ≤ 1000000 ∧ i.natAbs < 2 ^ 64 then some (.val (.int (i * 2 ^ j.toNat))) else none
  | _, _ => none
def bShr : B2 := fun x y _ => match x, y with
  | .val (.int i), .val (.int j) => if 0 ≤ j then some (.val (.int (i / 2 ^ j.toNat))) else none
  | _, _ => none
def bAnd : B2 := fun x y _ => match x, y with
  | .val (.int i), .val (.int j) => some (.val (.int (Builtin.bitAnd i j)))
  | _, _ => none
def bOr : B2 := fun x y _ => match x, y with
  | .val (.int i), .val (.int j) => some (.val (.int (Builtin.bitOr i j)))
  | _, _ => none
/-- comparisons -/
abbrev C2 := W → W → Sto → Option Bool
def bC (f : C2) : B2 := fun x y S => match f x y S with
  | some b => some (.val (.bl b))
  | none => none
def cNot (f : C2) : C2 := fun x y S => match f x y S with
  | some b => some (!b)
  | none => none
def cLt : C2 := fun x y _ => match x, y with
  | .val (.int i), .val (.int j) => some (decide (i < j))
  | .val (.str s), .val (.str t) => some (decide (s.cps.toList < t.cps.toList))
  | _, _ => none
def cLe : C2 := fun x y _ => match x, y with
  | .val (.int i), .val (.int j) => some (decide (i ≤ j))
  | _, _ => none
def cGt : C2 := fun x y _ => match x, y with
  | .val (.int i), .val (.int j) => some (decide (j < i))
  | _, _ => none
def cGe : C2 := fun x y _ => match x, y with
  | .val (.int i), .val (.int j) => some (decide (j ≤ i))
  | _, _ => none
/- == of data -/
mutual
def D.enc : D → Option PyData
  | .non => some .none
  | .bl b => some (.bool b)
  | .int i => some (.int i)
  | .str s => some (.str s)
  | .tup ds => match encL ds with
    | some es => some (.tuple es)
    | none => none
  | _ => none
def encL : List D → Option (List PyData)
  | [] => some []
  | d :: ds => match d.enc, encL ds with
    | some e, some es => some (e :: es)
    | _, _ => none
end
def W.enc (S : Sto) : W → Option PyData := fun w => match w with
  | .val (.loc n) => match (W.val (.loc n)).lq S with
    | some ds => match encL ds with
      | some es => some (.list es)
      | none => none
    | none => none
  | .val d => d.enc
  | .tmp o => match (W.tmp o).lq S with
    | some ds => match encL ds with
      | some es => some (.list es)
      | none => none
    | none => none
/-- the simple kinds are compared at once -/
def eqW (x y : W) (S : Sto) : Option Bool := match x, y with
  | .val (.int i), .val (.int j) => some (decide (i = j))
  | .val (.str s), .val (.str t) => some (decide (s = t))
  | .val (.bl a), .val (.bl b) => some (decide (a = b))
  | x, y => match x.enc S, y.enc S with
    | some d, some e => if SeqAt.shaped d = true ∧ SeqAt.shaped e = true then some (PyData.eqv d e) else none
    | _, _ => none
def isNone : W → Bool
  | .val .non => true
  | _ => false
def cIsN : C2 := fun x y _ => match y with
  | .val .non => some (isNone x)
  | _ => none
/-- in -/
def D.flat : D → Bool
  | .non => true
  | .bl _ => true
  | .int _ => true
  | .str _ => true
  | _ => false
def eqD : D → D → Bool
  | .non, .non => true
  | .bl a, .bl b => a == b
  | .bl a, .int j => (if a then 1 else 0) == j
  | .int i, .bl b => i == (if b then 1 else 0)
  | .int i, .int j => i == j
  | .str s, .str t => s == t
  | _, _ => false
def inD (x : D) (ds : List D) : Bool := ds.any fun y => eqD y x
def inW (x y : W) (S : Sto) : Option Bool := match x, y with
  | .val (.str s), .val (.str t) => some (!(Builtin.Str.occurrences t s 0 t.length 1).isEmpty)
  | .val d, y => match y.dq S with
    | some kvs => match d.key with
      | some k => some (kvs.any fun p => decide (p.1 = k))
      | none => none
    | none => match (match y.tq with
        | some ds => some ds
        | none => y.lq S) with
      | some ds => if d.flat && ds.all D.flat then some (inD d ds) else none
      | none => none
  | _, _ => none
/-- an item -/
def look (k : L2.Key) : List (L2.Key × D) → Option D
  | [] => none
  | p :: r => if p.1 = k then some p.2 else look k r
def bIx : B2 := fun x y S => match x, y with
  | .val (.str s), .val (.int i) => if s.length ≤ sizeLine then (L2.atI s.cps.toList i).map fun c => .val (.str ⟨#[c]⟩) else none
  | .val (.tup ds), .val (.int i) => (L2.atI ds i).map .val
  | x, .val d => match x.lq S with
    | some ds => match d with
      | .int i => (L2.atI ds i).map .val
      | _ => none
    | none => match x.dq S, d.key with
      | some kvs, some k => (look k kvs).map .val
      | _, _ => none
  | _, _ => none
/-- a slice -/
def cut {α : Type} (xs : List α) (lo hi : Option Int) : List α := (xs.drop (HT.sIx xs.length 0 lo)).take (HT.sIx xs.length xs.length hi - HT.sIx xs.length 0 lo)
def slW (x : W) (lo hi : Option Int) (S : Sto) : Option W := match x with
  | .val (.tup ds) => some (.val (.tup (cut ds lo hi)))
  | .val (.str s) => if s.length ≤ sizeLine then some (.val (.str (L2.cutS s lo hi))) else none
  | x => match x.lq S with
    | some ds => some (.tmp (.lst (cut ds lo hi)))
    | none => none
/-! ### built-ins of one argument -/
def W.any (S : Sto) (w : W) : Option (List D) := match w.tq with
  | some ds => some ds
  | none => w.lq S
def allInts : List D → Option (List Int)
  | [] => some []
  | .int i :: r => (allInts r).map (i :: ·)
  | _ => none
def allStrs : List D → Option (List Str)
  | [] => some []
  | .str s :: r => (allStrs r).map (s :: ·)
  | _ => none
def allBools : List D → Option (List Bool)
  | [] => some []
  | .bl b :: r => (allBools r).map (b :: ·)
  | _ => none
def uLen : B1 := fun x S => match x with
  | .val (.str s) => if s.length ≤ sizeLine then some (.val (.int s.length)) else none
  | x => match x.any S with
    | some ds => some (.val (.int ds.length))
    | none => (x.dm S).map fun kvs => .val (.int kvs.length)
def uAbs : B1 := fun x _ => match x with
  | .val (.int i) => some (.val (.int (if i < 0 then -i else i)))
  | _ => none
def uInt : B1 := fun x _ => match x with
  | .val (.int i) => some (.val (.int i))
  | .val (.bl b) => some (.val (.int (if b then 1 else 0)))
  | _ => none
def uStr : B1 := fun x _ => match x with
  | .val (.int i) => if i.natAbs.log2 < 1920 then some (.val (.str (Str.ofString (toString i)))) else none
  | .val (.str s) => some (.val (.str s))
  | _ => none
def uNeg : B1 := fun x _ => match x with
  | .val (.int i) => some (.val (.int (-i)))
  | _ => none
def uTuple : B1 := fun x S => (x.any S).map fun ds => .val (.tup ds)
def uList : B1 := fun x S => (x.any S).map fun ds => .tmp (.lst ds)
def uSum : B1 := fun x S => match x.lq S with
  | some ds => (allInts ds).map fun ns => .val (.int ns.sum)
  | none => none
def maxI : List Int → Option Int
  | [] => none
  | [i] => some i
  | i :: r => (maxI r).map fun m => if i < m then m else i
def minI : List Int → Option Int
  | [] => none
  | [i] => some i
  | i :: r => (minI r).map fun m => if m < i then m else i
def uMax : B1 := fun x S => match x.lq S with
  | some ds => match allInts ds with
    | some ns => (maxI ns).map fun m => .val (.int m)
    | none => none
  | none => none
def uMin : B1 := fun x S => match x.lq S with
  | some ds => match allInts ds with
    | some ns => (minI ns).map fun m => .val (.int m)
    | none => none
  | none => none
def bMax2 : B2 := fun x y _ => match x, y with
  | .val (.int i), .val (.int j) => some (.val (.int (if j > i then j else i)))
  | _, _ => none
def bMin2 : B2 := fun x y _ => match x, y with
  | .val (.int i), .val (.int j) => some (.val (.int (if j < i then j else i)))
  | _, _ => none
/-- sep.join(xs) -/
def bJoin : B2 := fun x y S => match x, y.any S with
  | .val (.str s), some ds => match allStrs ds with
    | some ts => if (ts.map (·.length)).sum + ts.length * s.length ≤ 16777216 then some (.val (.str (Txt.join s ts))) else none
    | none => none
  | _, _ => none
/-- isinstance against built-in classes -/
inductive Ty where
  | int | str | bool | tuple | list | dict
  deriving DecidableEq
def O.isTy : O → Ty → Bool
  | .lst _, .list => true
  | .dct _, .dict => true
  | .dtt _, .dict => true
  | _, _ => false
def W.isTy (S : Sto) : W → Ty → Option Bool
  | .val .non, _ => some false
  | .val (.bl _), t => some (t == .bool || t == .int)
  | .val (.int _), t => some (t == .int)
  | .val (.str _), t => some (t == .str)
  | .val (.tup _), t => some (t == .tuple)
  | .val (.frz _), t => some (t == .list)
  | .val (.scr _), t => some (t == .list)
  | .val (.fdc _ _), t => some (t == .dict)
  | .val (.loc n), t => match S[n]? with
    | some (.ins _ _) => none
    | some o => some (o.isTy t)
    | none => none
  | .tmp (.ins _ _), _ => none
  | .tmp o, t => some (o.isTy t)
  | _, _ => none
def uIs (t : Ty) : B1 := fun x S => (x.isTy S t).map fun b => .val (.bl b)
def uIs2 (t u : Ty) : B1 := fun x S => (x.isTy S t).bind fun b => (x.isTy S u).map fun c => .val (.bl (b || c))
/-- a value's truth -/
def W.truth (S : Sto) : W → Option Bool
  | .val .non => some false
  | .val (.bl b) => some b
  | .val (.int i) => some (i != 0)
  | .val (.str s) => if s.length ≤ sizeLine then some (s.length != 0) else none
  | w => match w.any S with
    | some ds => some (!ds.isEmpty)
    | none => (w.dm S).map fun kvs => !kvs.isEmpty

/-! ### more expressions -/
def tE (a : ME) : MT := fun T δ S => (a T δ S).then fun x S1 => match x.truth S1 with
  | some b => .ok b S1
  | none => .bad
def tCmp (f : C2) (a b : ME) : MT := fun T δ S => (a T δ S).then fun x S1 => (b T δ S1).then fun y S2 => match f x y S2 with
  | some b => .ok b S2
  | none => .bad
def tAnd (a b : MT) : MT := fun T δ S => (a T δ S).then fun x S1 => if x = true then b T δ S1 else .ok false S1
def tOr (a b : MT) : MT := fun T δ S => (a T δ S).then fun x S1 => if x = true then .ok true S1 else b T δ S1
def tNot (a : MT) : MT := fun T δ S => (a T δ S).then fun x S1 => .ok (!x) S1
/-- a test as a value: not x -/
def eT (a : MT) : ME := fun T δ S => (a T δ S).then fun x S1 => .ok (.val (.bl x)) S1
/-- x and y, x or y as values, by truth -/
def eAnd (a b : ME) : ME := fun T δ S => (bnd a T δ S).then fun x S1 => match (W.val x).truth S1 with
  | some true => b T δ S1
  | some false => .ok (.val x) S1
  | none => .bad
def eOr (a b : ME) : ME := fun T δ S => (bnd a T δ S).then fun x S1 => match (W.val x).truth S1 with
  | some true => .ok (.val x) S1
  | some false => b T δ S1
  | none => .bad
def eIf (c : MT) (a b : ME) : ME := fun T δ S => (c T δ S).then fun x S1 => if x = true then a T δ S1 else b T δ S1
/-- a < b < c -/
def tChain (f g : C2) (a b c : ME) : MT := fun T δ S => (a T δ S).then fun x S1 => (b T δ S1).then fun y S2 => match f x y S2 with
  | some true => (c T δ S2).then fun z S3 => match g y z S3 with
    | some w => .ok w S3
    | none => .bad
  | some false => .ok false S2
  | none => .bad
def eSl (a : ME) (lo hi : Option ME) : ME := fun T δ S => (a T δ S).then fun x S1 =>
  (match lo with
    | none => R.ok none S1
    | some e => (e T δ S1).then fun i S2 => match i with
      | .val (.int i) => .ok (some i) S2
      | _ => .bad).then fun l S2 =>
  (match hi with
    | none => R.ok none S2
    | some e => (e T δ S2).then fun i S3 => match i with
      | .val (.int i) => .ok (some i) S3
      | _ => .bad).then fun h S3 => match slW x l h S3 with
  | some w => .ok w S3
  | none => .bad
/-- f(e, ..), f a def of the program -/
noncomputable def eCall (f : Nat) (es : ML) : ME := fun T δ S => gc S ((es T δ S).then fun ds S1 => T f ds S1)
def permL {α : Type} (perm : List Nat) (xs : List α) : List α := perm.filterMap fun k => xs[k]?
/-- f(e, .., k = v, ..): perm tells where each parameter's argument stands -/
noncomputable def eCallK (f np nk : Nat) (perm : List Nat) (es ks : ML) : ME := fun T δ S => gc S ((es T δ S).then fun ds S1 => (ks T δ S1).then fun zs S2 => if ds.length = np ∧ zs.length = nk then T f (permL perm (ds ++ zs)) S2 else .bad)
def lookF (f : Str) : List (Str × D) → Option D
  | [] => none
  | p :: r => if p.1 = f then some p.2 else lookF f r
/-- o.m(e, ..), m a method: ms tells the def by the class -/
noncomputable def eMeth (m : Str) (ms : List (Nat × Nat)) (o : ME) (es : ML) : ME := fun T δ S => gc S ((bnd o T δ S).then fun x S1 => match x with
  | .loc n => match S1[n]? with
    | some (.ins c fs) => match ms.lookup c, lookF m fs with
      | some f, none => (es T δ S1).then fun ds S2 => T f (.loc n :: ds) S2
      | _, _ => .bad
    | _ => .bad
  | _ => .bad)
/-- C(e, ..), C a class with the __init__ f -/
def eNew (c f : Nat) (es : ML) : ME := fun T δ S => (es T δ S).then fun ds S1 => (T f (.loc S1.length :: ds) (S1 ++ [.ins c []])).nox.then fun w S2 => match w with
  | .val .non => .ok (.val (.loc S1.length)) S2
  | _ => .bad
def putF (f : Str) (d : D) : List (Str × D) → List (Str × D)
  | [] => [(f, d)]
  | p :: r => if p.1 = f then (f, d) :: r else p :: putF f d r
def eFld (f : Str) (o : ME) : ME := fun T δ S => (o T δ S).then fun x S1 => match x with
  | .val (.loc n) => match S1[n]? with
    | some (.ins _ fs) => match lookF f fs with
      | some d => .ok (.val d) S1
      | none => .bad
    | _ => .bad
  | _ => .bad
/-- {k: e, ..} -/
def dput (k : L2.Key) (d : D) (kvs : List (L2.Key × D)) : List (L2.Key × D) :=
  if (kvs.any fun kv => decide (kv.1 = k)) = true then kvs.map (fun kv => if kv.1 = k then (kv.1, d) else kv) else kvs ++ [(k, d)]
/-! ### methods that change a list or a dict -/
abbrev E1 := W → Sto → Option (W × Sto)
abbrev E2 := W → W → Sto → Option (W × Sto)
def eEff1 (f : E1) (a : ME) : ME := fun T δ S => (a T δ S).then fun x S1 => match f x S1 with
  | some (w, S2) => .ok w S2
  | none => .bad
/-- chk: what o is, ahead of the argument -/
def eEff2 (chk : W → Sto → Bool) (f : E2) (a b : ME) : ME := fun T δ S => (a T δ S).then fun x S1 => if chk x S1 = true then (b T δ S1).then fun y S2 => match f x y S2 with
    | some (w, S3) => .ok w S3
    | none => .bad
  else .bad
def isL (x : W) (S : Sto) : Bool := (x.lm S).isSome
def isD (x : W) (S : Sto) : Bool := (x.dm S).isSome
def isS (x : W) (_ : Sto) : Bool := match x with
  | .val (.str _) => true
  | _ => false
def fAppend : E2 := fun x y S => match x with
  | .val (.loc n) => match (bindW y S).2[n]? with
    | some (.lst ds) => if ds.length < sizeLine then some (.val .non, (bindW y S).2.set n (.lst (ds ++ [(bindW y S).1]))) else none
    | _ => none
  | _ => none
def fExtend : E2 := fun x y S => match x with
  | .val (.loc n) => match S[n]?, y.lr S with
    | some (.lst ds), some es => if ds.length + es.length ≤ sizeLine then some (.val .non, S.set n (.lst (ds ++ es))) else none
    | _, _ => none
  | _ => none
def fPop : E1 := fun x S => match x with
  | .val (.loc n) => match S[n]? with
    | some (.lst ds) => (ds[ds.length - 1]?).map fun d => (.val d, S.set n (.lst ds.dropLast))
    | _ => none
  | _ => none
def fPopAt : E2 := fun x d S => match x, d with
  | .val (.loc n), .val (.int i) => match S[n]? with
    | some (.lst ds) => if -(2 ^ 63) ≤ i ∧ i < 2 ^ 63 then match L2.ixN ds.length i with
      | some k => (ds[k]?).map fun d => (.val d, S.set n (.lst (ds.eraseIdx k)))
      | none => none
      else none
    | _ => none
  | _, _ => none
def fReverse : E1 := fun x S => match x with
  | .val (.loc n) => match S[n]? with
    | some (.lst ds) => some (.val .non, S.set n (.lst ds.reverse))
    | _ => none
  | _ => none
/-- a method that changes nothing -/
def ofB2 (f : B2) : E2 := fun x y S => (f x y S).map fun w => (w, S)
def ofB1 (f : B1) : E1 := fun x S => (f x S).map fun w => (w, S)

/-! ### what is walked -/
inductive Src where
  | items (ds : List D) | live (n : Nat) (en : Option Int)
abbrev MI := FT → Env → Sto → R Src
def signs (s : Str) : List D := s.cps.toList.map fun c => .str ⟨#[c]⟩
def iE (e : ME) : MI := fun T δ S => (e T δ S).then fun x S1 => match x with
  | .val (.tup ds) => .ok (.items ds) S1
  | .val (.frz ds) => .ok (.items ds) S1
  | .val (.scr ds) => .ok (.items ds) S1
  | .val (.str s) => .ok (.items (signs s)) S1
  | .tmp (.lst ds) => .ok (.items ds) S1
  | .val (.loc n) => match S1[n]? with
    | some (.lst _) => .ok (.live n none) S1
    | _ => .bad
  | _ => .bad
def span (lo : Int) (n : Nat) : List D := (List.range n).map fun (i : Nat) => D.int (lo + (i : Int))
def small62 (j : Int) : Bool := decide (j.natAbs < 4611686018427387904)
theorem small62_of {j : Int} (h : small62 j = true) : -(2 ^ 62) ≤ j ∧ j < 2 ^ 62 := by
  have := of_decide_eq_true h
  omega
def iRange (lo hi : ME) : MI := fun T δ S => (lo T δ S).then fun a S1 => (hi T δ S1).then fun b S2 => match a, b with
  | .val (.int i), .val (.int j) => if (small62 i && small62 j) = true then .ok (.items (span i (j - i).toNat)) S2 else .bad
  | _, _ => .bad
def iRange1 (hi : ME) : MI := fun T δ S => (hi T δ S).then fun b S2 => match b with
  | .val (.int j) => if small62 j = true then .ok (.items (span 0 j.toNat)) S2 else .bad
  | _ => .bad
def enums (k : Int) : List D → List D
  | [] => []
  | d :: r => .tup [.int k, d] :: enums (k + 1) r
def iEnum (e : ME) : MI := fun T δ S => (e T δ S).then fun x S1 => match x with
  | .tmp (.lst ds) => .ok (.items (enums 0 ds)) S1
  | .val (.tup ds) => .ok (.items (enums 0 ds)) S1
  | .val (.frz ds) => .ok (.items (enums 0 ds)) S1
  | .val (.scr ds) => .ok (.items (enums 0 ds)) S1
  | .val (.loc n) => match S1[n]? with
    | some (.lst _) => .ok (.live n (some 0)) S1
    | _ => .bad
  | _ => .bad
/-- the i-th turn of a list that stands at n -/
def liveAt (n : Nat) (en : Option Int) (i : Nat) (S : Sto) : Option (Option D) := match S[n]? with
  | some (.lst ds) => some ((ds[i]?).map fun d => match en with
    | some k => .tup [.int (k + i), d]
    | none => d)
  | _ => none
def lenAt (n : Nat) (S : Sto) : Nat := match S[n]? with
  | some (.lst ds) => ds.length
  | _ => 0
abbrev Tg := D → Env → Option Env
def gN (i : Nat) : Tg := fun d δ => if i < δ.length then some (δ.set i (some d)) else none
def setAll : List Nat → List D → Env → Option Env
  | [], [], δ => some δ
  | i :: is, d :: ds, δ => if i < δ.length then setAll is ds (δ.set i (some d)) else none
  | _, _, _ => none
def gT (is : List Nat) : Tg := fun d δ => match d with
  | .tup ds => setAll is ds δ
  | _ => none
/-! ### loops -/
def loopI (g : Tg) (body : Env → Sto → Fl) : List D → Env → Sto → Fl
  | [], δ, S => .nx δ S
  | d :: r, δ, S => match g d δ with
    | some δ1 => match body δ1 S with
      | .nx δ2 S2 => loopI g body r δ2 S2
      | .ct δ2 S2 => loopI g body r δ2 S2
      | .bk δ2 S2 => .nx δ2 S2
      | f => f
    | none => .bad
def loopL (g : Tg) (body : Env → Sto → Fl) (n : Nat) (en : Option Int) : Nat → Nat → Env → Sto → Fl
  | fuel, i, δ, S => match liveAt n en i S with
    | none => .bad
    | some none => .nx δ S
    | some (some d) => match fuel with
      | 0 => .bad
      | fuel + 1 => match g d δ with
        | some δ1 => match body δ1 S with
          | .nx δ2 S2 => loopL g body n en fuel (i + 1) δ2 S2
          | .ct δ2 S2 => loopL g body n en fuel (i + 1) δ2 S2
          | .bk δ2 S2 => .nx δ2 S2
          | f => f
        | none => .bad
def sFor (it : MI) (g : Tg) (body : MS) : MS := fun T δ S => (it T δ S).thenS δ fun src S1 => match src with
  | .items ds => loopI g (body T) ds δ S1
  | .live n en => loopL g (body T) n en (lenAt n S1) 0 δ S1
def loopW (c : Env → Sto → R Bool) (body : Env → Sto → Fl) : Nat → Env → Sto → Fl
  | 0, _, _ => .bad
  | fuel + 1, δ, S => (c δ S).thenS δ fun b S1 => if b = true then
      match body δ S1 with
      | .nx δ2 S2 => loopW c body fuel δ2 S2
      | .ct δ2 S2 => loopW c body fuel δ2 S2
      | .bk δ2 S2 => .nx δ2 S2
      | f => f
    else .nx δ S1
/-- more turns than any loop takes -/
@[irreducible] def manyN : Nat := 1000000
theorem manyN_eq : manyN = 1000000 := by unfold manyN; rfl
def sWhile (fuel : Nat) (c : MT) (body : MS) : MS := fun T δ S => loopW (c T) (body T) fuel δ S

/-! ### comprehensions -/
def wipeD (δ : Env) : List Nat → Env
  | [] => δ
  | v :: vs => (wipeD δ vs).set v none
def compI (g : Tg) (t : Env → Sto → R Bool) (elt : Env → Sto → R D) (δ : Env) : List D → Sto → R (List D)
  | [], S => .ok [] S
  | d :: r, S => match g d δ with
    | some δ1 => (t δ1 S).nox.then fun b S1 => if b = true then (elt δ1 S1).nox.then fun y S2 => (compI g t elt δ r S2).then fun ys S3 => .ok (y :: ys) S3 else compI g t elt δ r S1
    | none => .bad
def compL (g : Tg) (t : Env → Sto → R Bool) (elt : Env → Sto → R D) (δ : Env) (n : Nat) (en : Option Int) : Nat → Nat → Sto → R (List D)
  | fuel, i, S => match liveAt n en i S with
    | none => .bad
    | some none => .ok [] S
    | some (some d) => match fuel with
      | 0 => .bad
      | fuel + 1 => match g d δ with
        | some δ1 => (t δ1 S).nox.then fun b S1 => if b = true then (elt δ1 S1).nox.then fun y S2 => (compL g t elt δ n en fuel (i + 1) S2).then fun ys S3 => .ok (y :: ys) S3 else compL g t elt δ n en fuel (i + 1) S1
        | none => .bad
def tYes : MT := fun _ _ S => .ok true S
def eLc (it : MI) (vs : List Nat) (g : Tg) (t : MT) (elt : ME) : ME := fun T δ S => (it T δ S).then fun src S1 =>
  (match src with
    | .items ds => if ds.length ≤ sizeLine then compI g (t T) (bnd elt T) (wipeD δ vs) ds S1 else .bad
    | .live n en => if lenAt n S1 ≤ sizeLine then compL g (t T) (bnd elt T) (wipeD δ vs) n en (lenAt n S1) 0 S1 else .bad).then fun ys S2 => .ok (.tmp (.lst ys)) S2

/-! ### statements -/
def sNil : MS := fun _ δ S => .nx δ S
def sSeq (a b : MS) : MS := fun T δ S => match a T δ S with
  | .nx δ1 S1 => b T δ1 S1
  | f => f
def sE (e : ME) : MS := fun T δ S => (e T δ S).thenS δ fun _ S1 => .nx δ S1
def sRet (e : ME) : MS := fun T δ S => (e T δ S).thenS δ fun w S1 => .rt w S1
def sRetN : MS := fun _ _ S => .rt (.val .non) S
def sBreak : MS := fun _ δ S => .bk δ S
def sCont : MS := fun _ δ S => .ct δ S
def sIf (c : MT) (a b : MS) : MS := fun T δ S => (c T δ S).thenS δ fun x S1 => if x = true then a T δ S1 else b T δ S1
def sAsg (i : Nat) (e : ME) : MS := fun T δ S => (bnd e T δ S).thenS δ fun d S1 => if i < δ.length then .nx (δ.set i (some d)) S1 else .bad
/-- a, b = e -/
def sAsgT (is : List Nat) (e : ME) : MS := fun T δ S => (e T δ S).thenS δ fun w S1 => match w.any S1 with
  | some ds => match setAll is ds δ with
    | some δ1 => .nx δ1 S1
    | none => .bad
  | none => .bad
/-- a, b = e1, e2: no tuple is made -/
def sPar (is : List Nat) (es : ML) : MS := fun T δ S => (es T δ S).thenS δ fun ds S1 => match setAll is ds δ with
  | some δ1 => .nx δ1 S1
  | none => .bad
/-- o[i] = e -/
def setW (x y : W) (d : D) (S : Sto) : Option Sto := match x, y with
  | .val (.loc n), .val k => match S[n]?, k with
    | some (.lst ds), .int i => (L2.ixN ds.length i).map fun j => S.set n (.lst (ds.set j d))
    | some (.dct kvs), k => match k.key with
      | some k => if kvs.length < sizeLine then some (S.set n (.dct (dput k d kvs))) else none
      | none => none
    | _, _ => none
  | _, _ => none
def sSetIx (o i e : ME) : MS := fun T δ S => (bnd e T δ S).thenS δ fun d S1 => (o T δ S1).thenS δ fun x S2 => (i T δ S2).thenS δ fun y S3 => match setW x y d S3 with
  | some S4 => .nx δ S4
  | none => .bad
/-- o.f = e -/
def sFld (f : Str) (o e : ME) : MS := fun T δ S => (bnd e T δ S).thenS δ fun d S1 => (o T δ S1).thenS δ fun x S2 => match x with
  | .val (.loc n) => match S2[n]? with
    | some (.ins c fs) => if fs.length < 900 then .nx δ (S2.set n (.ins c (putF f d fs))) else .bad
    | _ => .bad
  | _ => .bad
/-- x op= e, x a number or a text -/
def sAug (i : Nat) (f : B2) (e : ME) : MS := fun T δ S => match δ[i]? with
  | some (some x) => (e T δ S).thenS δ fun y S1 => match f (.val x) y S1 with
    | some (.val d) => .nx (δ.set i (some d)) S1
    | _ => .bad
  | _ => .bad
def sRaise (c n : Nat) (es : ML) : MS := fun T δ S => (es T δ S).thenS δ fun ds S1 => if ds.length = n then .exc c ds δ S1 else .bad
/-- what an except suite says, by the class and the fields of what was caught -/
abbrev MX := Nat → List D → ME
abbrev MXL := Nat → List D → ML
abbrev MXT := Nat → List D → MT
def xE (m : ME) : MX := fun _ _ => m
def xTup (l : MXL) : MX := fun c ds => eTup (l c ds)
def xNil : MXL := fun _ _ => lNil
def xCons (a : MX) (l : MXL) : MXL := fun c ds => lCons (a c ds) (l c ds)
def xIf (t : MXT) (a b : MX) : MX := fun c ds => eIf (t c ds) (a c ds) (b c ds)
def xT (m : MX) : MXT := fun c ds => tE (m c ds)
def xFld (tab : List (List Str)) (f : Str) : MX := fun c ds _ _ S => match tab[c]? with
  | some fs => match (fs.zip ds).lookup f with
    | some d => .ok (.val d) S
    | none => .bad
  | none => .bad
def xIs (mros : List (List Nat)) (j : Nat) : MX := fun c _ _ _ S => match mros[c]? with
  | some m => .ok (.val (.bl (m.contains j))) S
  | none => .bad
/-- try: b / except one of cs (as slot i): return s -/
def sTry (b : MS) (mros : List (List Nat)) (j : Nat) (i : Option Nat) (s : MX) : MS := fun T δ S => match b T δ S with
  | .exc c ds δ1 S1 => match mros[c]? with
    | some m => if m.contains j = true then (match i with
      | some i => if i < δ1.length then ((s c ds T (δ1.set i none) S1).nox).thenS δ1 fun w S2 => .rt w S2 else .bad
      | none => ((s c ds T δ1 S1).nox).thenS δ1 fun w S2 => .rt w S2) else .exc c ds δ1 S1
    | none => .bad
  | r => r
end MM
set_option maxRecDepth 100000
/-! MM, part B: how data lies in the abstract heap; what a combinator's meaning asks and gives. -/
namespace MM
open PySem PySem.Spec L2

/-- the program's places: the written part, the module's names, the classes, the defs -/
structure Gc where
  K : PySem.W.Frag
  mg : Str → Option Value
  nc : Nat
  ca : Nat → Addr
  xa : Nat → Addr
  xf : Nat → List Str
  xi : Nat → Addr
  xd : Nat → FuncData
  fa : Nat → Addr
  fd : Nat → FuncData
  /-- the codes whose tables may grow, and these tables -/
  tabs : List (Addr × Addr) := []

def Writ (K : PySem.W.Frag) (T : String) (a : Addr) (xs : List V) : Prop :=
  ∃ (o : Obj) (its : Array Value) (n : Nat), K.lookup a = some o ∧ o.cls = .type T ∧ o.data = .seq its n ∧ its.size ≤ sizeLine ∧ Vals xs its.toList
def TupAt (K : PySem.W.Frag) (H : Hp) (a : Addr) (xs : List V) : Prop := H a = some (.tup xs) ∨ Writ K "tuple" a xs
theorem TupAt.sq {K : PySem.W.Frag} {H : Hp} {a : Addr} {xs : List V} (h : TupAt K H a xs) : SqT K H a xs := by
  rcases h with h | ⟨o, its, n, h⟩
  · exact .inl (.inl h)
  · exact .inr ⟨o, its, n, h⟩
def FrzAt (K : PySem.W.Frag) (H : Hp) (a : Addr) (xs : List V) : Prop := ∃ o, H a = some (.frz o (.lst xs))
/-- the script's list -/
def ScrAt (K : PySem.W.Frag) (H : Hp) (a : Addr) (xs : List V) : Prop := (∃ o, H a = some (.frz o (.lst xs))) ∨
  ∃ (o : Obj) (its : Array Value) (n : Nat), K.lookup a = some o ∧ o.cls = .type "list" ∧ o.dict = none ∧ o.data = .seq its n ∧ its.size ≤ sizeLine ∧ Vals xs its.toList
theorem ScrAt.sq {K : PySem.W.Frag} {H : Hp} {a : Addr} {xs : List V} (h : ScrAt K H a xs) : SqL K H a xs := by
  rcases h with ⟨o, h⟩ | h
  · exact .inl (.inr ⟨o, h⟩)
  · exact .inr h
def FdcAt (H : Hp) (a : Addr) (kvs : List (Key × V)) : Prop := ∃ o, H a = some (.frz o (.dK kvs))
theorem FrzAt.sq {K : PySem.W.Frag} {H : Hp} {a : Addr} {xs : List V} (h : FrzAt K H a xs) : SqL K H a xs := by
  obtain ⟨o, h⟩ := h
  exact .inl (.inr ⟨o, h⟩)

mutual
inductive Rep (G : Gc) (H : Hp) (ρ : List Addr) : D → V → Prop
  | non : Rep G H ρ .non .non
  | bl (b : Bool) : Rep G H ρ (.bl b) (.bl b)
  | int (i : Int) : Rep G H ρ (.int i) (.int i)
  | str (s : Str) : Rep G H ρ (.str s) (.str s)
  | tup {ds : List D} {a : Addr} {xs : List V} : TupAt G.K H a xs → RepL G H ρ ds xs → Rep G H ρ (.tup ds) (.ref a)
  | frz {ds : List D} {a : Addr} {xs : List V} : FrzAt G.K H a xs → RepL G H ρ ds xs → Rep G H ρ (.frz ds) (.ref a)
  | scr {ds : List D} {a : Addr} {xs : List V} : ScrAt G.K H a xs → RepL G H ρ ds xs → Rep G H ρ (.scr ds) (.ref a)
  | fdc {ks : List Key} {ds : List D} {a : Addr} {vs : List V} : FdcAt H a (ks.zip vs) → ks.length = ds.length → RepL G H ρ ds vs → Rep G H ρ (.fdc ks ds) (.ref a)
  | loc {n : Nat} {a : Addr} : ρ[n]? = some a → Rep G H ρ (.loc n) (.ref a)
  | cls (i : Nat) : Rep G H ρ (.cls i) (.ref (G.ca i))
  | ty (s : String) : Rep G H ρ (.ty s) (.ty s)
inductive RepL (G : Gc) (H : Hp) (ρ : List Addr) : List D → List V → Prop
  | nil : RepL G H ρ [] []
  | cons {d : D} {ds : List D} {v : V} {vs : List V} : Rep G H ρ d v → RepL G H ρ ds vs → RepL G H ρ (d :: ds) (v :: vs)
end
inductive RepK (G : Gc) (H : Hp) (ρ : List Addr) : List (Key × D) → List (Key × V) → Prop
  | nil : RepK G H ρ [] []
  | cons {k : Key} {d : D} {ds : List (Key × D)} {v : V} {vs : List (Key × V)} : Rep G H ρ d v → RepK G H ρ ds vs → RepK G H ρ ((k, d) :: ds) ((k, v) :: vs)
inductive RepF (G : Gc) (H : Hp) (ρ : List Addr) : List (Str × D) → List (Str × V) → Prop
  | nil : RepF G H ρ [] []
  | cons {k : Str} {d : D} {ds : List (Str × D)} {v : V} {vs : List (Str × V)} : Rep G H ρ d v → RepF G H ρ ds vs → RepF G H ρ ((k, d) :: ds) ((k, v) :: vs)

inductive RepT (G : Gc) (H : Hp) (ρ : List Addr) : List (List Key × D) → List (List Key × V) → Prop
  | nil : RepT G H ρ [] []
  | cons {k : List Key} {d : D} {ds : List (List Key × D)} {v : V} {vs : List (List Key × V)} : Rep G H ρ d v → RepT G H ρ ds vs → RepT G H ρ ((k, d) :: ds) ((k, v) :: vs)

/-- what may change between two moments -/
structure Fr (H : Hp) (ρ : List Addr) (H' : Hp) (ρ' : List Addr) : Prop where
  pre : ∀ (n : Nat) a, ρ[n]? = some a → ρ'[n]? = some a
  tup : ∀ a xs, H a = some (.tup xs) → H' a = some (.tup xs)
  frz : ∀ a o u, H a = some (.frz o u) → H' a = some (.frz o u)
  out0 : ∀ a o, H a = some o → a ∉ ρ → H' a = some o ∨ ∃ ps ps', o = .tbl ps ∧ H' a = some (.tbl ps')
  new : ∀ a, a ∈ ρ' → a ∉ ρ → H a = none
section
variable {G : Gc} {H H' H1 H2 : Hp} {ρ ρ' ρ1 ρ2 : List Addr}
theorem Fr.refl (H : Hp) (ρ : List Addr) : Fr H ρ H ρ := ⟨fun _ _ h => h, fun _ _ h => h, fun _ _ _ h => h, fun _ _ h _ => .inl h, fun _ h n => absurd h n⟩
theorem Fr.out (f : Fr H ρ H' ρ') (a : Addr) (o : HO) (h : H a = some o) (n : a ∉ ρ) (hn : ∀ ps, o ≠ .tbl ps) : H' a = some o := by
  rcases f.out0 a o h n with z | ⟨ps, _, z, _⟩
  · exact z
  · exact absurd z (hn ps)
theorem Fr.there (f : Fr H ρ H' ρ') (a : Addr) (o : HO) (h : H a = some o) (n : a ∉ ρ) : ∃ o', H' a = some o' := by
  rcases f.out0 a o h n with z | ⟨_, _, _, z⟩
  · exact ⟨_, z⟩
  · exact ⟨_, z⟩
theorem mem_of_get {l : List Addr} {n : Nat} {a : Addr} (h : l[n]? = some a) : a ∈ l := List.mem_of_getElem? h
theorem Fr.trans (f : Fr H ρ H1 ρ1) (g : Fr H1 ρ1 H2 ρ2) : Fr H ρ H2 ρ2 where
  pre := fun n a h => g.pre n a (f.pre n a h)
  tup := fun a xs h => g.tup a xs (f.tup a xs h)
  frz := fun a o u h => g.frz a o u (f.frz a o u h)
  out0 := fun a o h n => by
    have nm : a ∉ ρ1 := fun m => by
      have := f.new a m n
      rw [h] at this; cases this
    rcases f.out0 a o h n with z | ⟨ps, ps', z1, z2⟩
    · exact g.out0 a o z nm
    · right
      rcases g.out0 a _ z2 nm with y | ⟨q, q', y1, y2⟩
      · exact ⟨ps, ps', z1, y⟩
      · exact ⟨ps, q', z1, y2⟩
  new := fun a m n => by
    by_cases h1 : a ∈ ρ1
    · exact f.new a h1 n
    · cases q : H a with
      | none => rfl
      | some o =>
        have r := g.new a m h1
        obtain ⟨o', z⟩ := f.there a o q n
        rw [z] at r; cases r
theorem TupAt.fr {K : PySem.W.Frag} {a : Addr} {xs : List V} (ht : ∀ a xs, H a = some (.tup xs) → H' a = some (.tup xs)) (h : TupAt K H a xs) : TupAt K H' a xs := h.imp (ht _ _) fun z => z
theorem FrzAt.fr {K : PySem.W.Frag} {a : Addr} {xs : List V} (hf : ∀ a o u, H a = some (.frz o u) → H' a = some (.frz o u)) (h : FrzAt K H a xs) : FrzAt K H' a xs := h.imp fun o z => hf _ _ _ z
theorem ScrAt.fr {K : PySem.W.Frag} {a : Addr} {xs : List V} (hf : ∀ a o u, H a = some (.frz o u) → H' a = some (.frz o u)) (h : ScrAt K H a xs) : ScrAt K H' a xs := h.imp (fun ⟨o, z⟩ => ⟨o, hf _ _ _ z⟩) fun z => z
theorem FdcAt.fr {a : Addr} {xs : List (Key × V)} (hf : ∀ a o u, H a = some (.frz o u) → H' a = some (.frz o u)) (h : FdcAt H a xs) : FdcAt H' a xs := h.imp fun o z => hf _ _ _ z
/-- what data leans on -/
structure Sub (H : Hp) (ρ : List Addr) (H' : Hp) (ρ' : List Addr) : Prop where
  pre : ∀ (n : Nat) a, ρ[n]? = some a → ρ'[n]? = some a
  tup : ∀ a xs, H a = some (.tup xs) → H' a = some (.tup xs)
  frz : ∀ a o u, H a = some (.frz o u) → H' a = some (.frz o u)
theorem Fr.sub (f : Fr H ρ H' ρ') : Sub H ρ H' ρ' := ⟨f.pre, f.tup, f.frz⟩
mutual
theorem Rep.sub (s : Sub H ρ H' ρ') : ∀ {d : D} {v : V}, Rep G H ρ d v → Rep G H' ρ' d v
  | _, _, .non => .non
  | _, _, .bl b => .bl b
  | _, _, .int i => .int i
  | _, _, .str x => .str x
  | _, _, .tup t r => .tup (t.fr s.tup) (RepL.sub s r)
  | _, _, .frz t r => .frz (t.fr s.frz) (RepL.sub s r)
  | _, _, .fdc t hl r => .fdc (t.fr s.frz) hl (RepL.sub s r)
  | _, _, .scr t r => .scr (t.fr s.frz) (RepL.sub s r)
  | _, _, .loc e => .loc (s.pre _ _ e)
  | _, _, .cls i => .cls i
  | _, _, .ty x => .ty x
theorem RepL.sub (s : Sub H ρ H' ρ') : ∀ {ds : List D} {vs : List V}, RepL G H ρ ds vs → RepL G H' ρ' ds vs
  | _, _, .nil => .nil
  | _, _, .cons r t => .cons (Rep.sub s r) (RepL.sub s t)
end
theorem RepK.sub (s : Sub H ρ H' ρ') : ∀ {ds : List (Key × D)} {vs : List (Key × V)}, RepK G H ρ ds vs → RepK G H' ρ' ds vs
  | _, _, .nil => .nil
  | _, _, .cons r t => .cons (r.sub s) (RepK.sub s t)
theorem RepT.sub (s : Sub H ρ H' ρ') : ∀ {ds : List (List Key × D)} {vs : List (List Key × V)}, RepT G H ρ ds vs → RepT G H' ρ' ds vs
  | _, _, .nil => .nil
  | _, _, .cons r t => .cons (r.sub s) (RepT.sub s t)
theorem RepF.sub (s : Sub H ρ H' ρ') : ∀ {ds : List (Str × D)} {vs : List (Str × V)}, RepF G H ρ ds vs → RepF G H' ρ' ds vs
  | _, _, .nil => .nil
  | _, _, .cons r t => .cons (r.sub s) (RepF.sub s t)
mutual
theorem Rep.clean : ∀ {d : D} {v : V}, Rep G H ρ d v → d.clean ρ.length = true
  | _, _, .non => rfl
  | _, _, .bl b => rfl
  | _, _, .int i => rfl
  | _, _, .str x => rfl
  | _, _, .tup t r => RepL.clean r
  | _, _, .frz t r => RepL.clean r
  | _, _, .fdc t hl r => RepL.clean r
  | _, _, .scr t r => RepL.clean r
  | _, _, .loc e => by
    have := (List.getElem?_eq_some_iff.mp e).1
    simpa [D.clean] using this
  | _, _, .cls i => rfl
  | _, _, .ty x => rfl
theorem RepL.clean : ∀ {ds : List D} {vs : List V}, RepL G H ρ ds vs → cleanL ρ.length ds = true
  | _, _, .nil => rfl
  | _, _, .cons r t => by
    unfold cleanL
    rw [Rep.clean r, RepL.clean t]; rfl
end
theorem take_get {L n : Nat} {a : Addr} (hn : n < L) (e : ρ[n]? = some a) : (ρ.take L)[n]? = some a := by
  rw [List.getElem?_take, if_pos hn]; exact e
mutual
theorem Rep.down {L : Nat} : ∀ {d : D} {v : V}, Rep G H ρ d v → d.clean L = true → Rep G H (ρ.take L) d v
  | _, _, .non, _ => .non
  | _, _, .bl b, _ => .bl b
  | _, _, .int i, _ => .int i
  | _, _, .str x, _ => .str x
  | _, _, .tup t r, c => .tup t (RepL.down r c)
  | _, _, .frz t r, c => .frz t (RepL.down r c)
  | _, _, .fdc t hl r, c => .fdc t hl (RepL.down r c)
  | _, _, .scr t r, c => .scr t (RepL.down r c)
  | _, _, .loc e, c => .loc (take_get (by simpa [D.clean] using c) e)
  | _, _, .cls i, _ => .cls i
  | _, _, .ty x, _ => .ty x
theorem RepL.down {L : Nat} : ∀ {ds : List D} {vs : List V}, RepL G H ρ ds vs → cleanL L ds = true → RepL G H (ρ.take L) ds vs
  | _, _, .nil, _ => .nil
  | _, _, .cons r t, c => by
    unfold cleanL at c
    have c := Bool.and_eq_true_iff.mp c
    exact .cons (Rep.down r c.1) (RepL.down t c.2)
end
theorem RepK.down {L : Nat} : ∀ {ds : List (Key × D)} {vs : List (Key × V)}, RepK G H ρ ds vs → cleanK L ds = true → RepK G H (ρ.take L) ds vs
  | _, _, .nil, _ => .nil
  | _, _, .cons r t, c => by
    have c := Bool.and_eq_true_iff.mp c
    exact .cons (r.down c.1) (RepK.down t c.2)
theorem RepT.down {L : Nat} : ∀ {ds : List (List Key × D)} {vs : List (List Key × V)}, RepT G H ρ ds vs → cleanT L ds = true → RepT G H (ρ.take L) ds vs
  | _, _, .nil, _ => .nil
  | _, _, .cons r t, c => by
    have c := Bool.and_eq_true_iff.mp c
    exact .cons (r.down c.1) (RepT.down t c.2)
theorem RepF.down {L : Nat} : ∀ {ds : List (Str × D)} {vs : List (Str × V)}, RepF G H ρ ds vs → cleanF L ds = true → RepF G H (ρ.take L) ds vs
  | _, _, .nil, _ => .nil
  | _, _, .cons r t, c => by
    have c := Bool.and_eq_true_iff.mp c
    exact .cons (r.down c.1) (RepF.down t c.2)
theorem RepK.clean : ∀ {ds : List (Key × D)} {vs : List (Key × V)}, RepK G H ρ ds vs → cleanK ρ.length ds = true
  | _, _, .nil => rfl
  | _, _, .cons r t => by
    unfold cleanK
    rw [r.clean, RepK.clean t]; rfl
theorem RepT.clean : ∀ {ds : List (List Key × D)} {vs : List (List Key × V)}, RepT G H ρ ds vs → cleanT ρ.length ds = true
  | _, _, .nil => rfl
  | _, _, .cons r t => by
    unfold cleanT
    rw [r.clean, RepT.clean t]; rfl
theorem RepF.clean : ∀ {ds : List (Str × D)} {vs : List (Str × V)}, RepF G H ρ ds vs → cleanF ρ.length ds = true
  | _, _, .nil => rfl
  | _, _, .cons r t => by
    unfold cleanF
    rw [r.clean, RepF.clean t]; rfl
theorem RepL.length : ∀ {ds : List D} {vs : List V}, RepL G H ρ ds vs → ds.length = vs.length
  | _, _, .nil => rfl
  | _, _, .cons _ t => by rw [List.length_cons, List.length_cons, RepL.length t]
theorem RepL.get : ∀ {ds : List D} {vs : List V} {i : Nat} {d : D}, RepL G H ρ ds vs → ds[i]? = some d → ∃ v, vs[i]? = some v ∧ Rep G H ρ d v
  | _, _, _, _, .nil, e => by simp at e
  | _, _, 0, _, .cons r _, e => by simp at e; subst e; exact ⟨_, rfl, r⟩
  | _, _, i + 1, d, .cons _ t, e => by
    obtain ⟨v, h1, h2⟩ := RepL.get (i := i) (d := d) t (by simpa using e)
    exact ⟨v, by simpa using h1, h2⟩
theorem RepL.get' {ds : List D} {vs : List V} {i : Nat} {v : V} (r : RepL G H ρ ds vs) (e : vs[i]? = some v) : ∃ d, ds[i]? = some d ∧ Rep G H ρ d v := by
  have hi := (List.getElem?_eq_some_iff.mp e).1
  have hd : i < ds.length := by rw [r.length]; exact hi
  obtain ⟨v', h1, h2⟩ := r.get (List.getElem?_eq_getElem hd)
  rw [e] at h1; cases h1
  exact ⟨_, List.getElem?_eq_getElem hd, h2⟩
theorem RepL.append : ∀ {ds es : List D} {vs us : List V}, RepL G H ρ ds vs → RepL G H ρ es us → RepL G H ρ (ds ++ es) (vs ++ us)
  | _, _, _, _, .nil, s => s
  | _, _, _, _, .cons r t, s => .cons r (RepL.append t s)
theorem RepL.drop : ∀ {ds : List D} {vs : List V} (n : Nat), RepL G H ρ ds vs → RepL G H ρ (ds.drop n) (vs.drop n)
  | _, _, 0, r => r
  | _, _, _ + 1, .nil => .nil
  | _, _, n + 1, .cons _ t => RepL.drop n t
theorem RepL.take : ∀ {ds : List D} {vs : List V} (n : Nat), RepL G H ρ ds vs → RepL G H ρ (ds.take n) (vs.take n)
  | _, _, 0, _ => by simpa using RepL.nil
  | _, _, _ + 1, .nil => by simpa using RepL.nil
  | _, _, n + 1, .cons r t => by
    rw [List.take_succ_cons, List.take_succ_cons]
    exact .cons r (RepL.take n t)
theorem RepL.set {d : D} {v : V} (r : Rep G H ρ d v) : ∀ {ds : List D} {vs : List V} (i : Nat), RepL G H ρ ds vs → RepL G H ρ (ds.set i d) (vs.set i v)
  | _, _, _, .nil => .nil
  | _, _, 0, .cons _ t => .cons r t
  | _, _, i + 1, .cons q t => .cons q (RepL.set r i t)
theorem RepL.erase : ∀ {ds : List D} {vs : List V} (i : Nat), RepL G H ρ ds vs → RepL G H ρ (ds.eraseIdx i) (vs.eraseIdx i)
  | _, _, _, .nil => .nil
  | _, _, 0, .cons _ t => t
  | _, _, i + 1, .cons q t => .cons q (RepL.erase i t)
theorem RepL.reverse : ∀ {ds : List D} {vs : List V}, RepL G H ρ ds vs → RepL G H ρ ds.reverse vs.reverse
  | _, _, .nil => .nil
  | _, _, .cons r t => by
    rw [List.reverse_cons, List.reverse_cons]
    exact (RepL.reverse t).append (.cons r .nil)
theorem RepL.dropLast : ∀ {ds : List D} {vs : List V}, RepL G H ρ ds vs → RepL G H ρ ds.dropLast vs.dropLast := fun {ds vs} r => by
  rw [List.dropLast_eq_take, List.dropLast_eq_take, r.length]
  exact r.take _
theorem RepL.repl {ds : List D} {vs : List V} (r : RepL G H ρ ds vs) : ∀ n : Nat, RepL G H ρ (List.replicate n ds).flatten (List.replicate n vs).flatten
  | 0 => .nil
  | n + 1 => by
    rw [List.replicate_succ, List.replicate_succ, List.flatten_cons, List.flatten_cons]
    exact r.append (RepL.repl r n)

/-! ### objects, the store, the slots -/
def ObjRep (G : Gc) (H : Hp) (ρ : List Addr) (a : Addr) : O → Prop
  | .lst ds => ∃ xs, H a = some (.lst xs) ∧ RepL G H ρ ds xs
  | .dct kvs => ∃ kvs', H a = some (.dK kvs') ∧ RepK G H ρ kvs kvs'
  | .dtt kvs => ∃ kvs', H a = some (.dT kvs') ∧ RepT G H ρ kvs kvs'
  | .ins c fs => c < G.nc ∧ ∃ dx fs', H a = some (.ins (G.ca c) dx fs') ∧ RepF G H ρ fs fs'
theorem ObjRep.got {a : Addr} {o : O} (h : ObjRep G H ρ a o) : ∃ u, H a = some u ∧ (∀ xs, u ≠ .tup xs) ∧ (∀ ob z, u ≠ .frz ob z) ∧ ∀ ps, u ≠ .tbl ps := by
  cases o with
  | lst ds => obtain ⟨xs, e, _⟩ := h; exact ⟨_, e, by simp, by simp, by simp⟩
  | dct kvs => obtain ⟨xs, e, _⟩ := h; exact ⟨_, e, by simp, by simp, by simp⟩
  | dtt kvs => obtain ⟨xs, e, _⟩ := h; exact ⟨_, e, by simp, by simp, by simp⟩
  | ins c fs => obtain ⟨_, _, _, e, _⟩ := h; exact ⟨_, e, by simp, by simp, by simp⟩
theorem ObjRep.sub {a : Addr} {o : O} (s : Sub H ρ H' ρ') (e : H' a = H a) (h : ObjRep G H ρ a o) : ObjRep G H' ρ' a o := by
  cases o with
  | lst ds => obtain ⟨xs, q, r⟩ := h; exact ⟨xs, e.trans q, r.sub s⟩
  | dct kvs => obtain ⟨xs, q, r⟩ := h; exact ⟨xs, e.trans q, r.sub s⟩
  | dtt kvs => obtain ⟨xs, q, r⟩ := h; exact ⟨xs, e.trans q, r.sub s⟩
  | ins c fs => obtain ⟨l, dx, xs, q, r⟩ := h; exact ⟨l, dx, xs, e.trans q, r.sub s⟩
theorem ObjRep.clean {a : Addr} {o : O} (h : ObjRep G H ρ a o) : o.clean ρ.length = true := by
  cases o with
  | lst ds => obtain ⟨xs, q, r⟩ := h; exact r.clean
  | dct kvs => obtain ⟨xs, q, r⟩ := h; exact r.clean
  | dtt kvs => obtain ⟨xs, q, r⟩ := h; exact r.clean
  | ins c fs => obtain ⟨_, dx, xs, q, r⟩ := h; exact r.clean
theorem ObjRep.down {L : Nat} {a : Addr} {o : O} (h : ObjRep G H ρ a o) (c : o.clean L = true) : ObjRep G H (ρ.take L) a o := by
  cases o with
  | lst ds => obtain ⟨xs, q, r⟩ := h; exact ⟨xs, q, r.down c⟩
  | dct kvs => obtain ⟨xs, q, r⟩ := h; exact ⟨xs, q, r.down c⟩
  | dtt kvs => obtain ⟨xs, q, r⟩ := h; exact ⟨xs, q, r.down c⟩
  | ins cl fs => obtain ⟨l, dx, xs, q, r⟩ := h; exact ⟨l, dx, xs, q, r.down c⟩
structure StOk (G : Gc) (H : Hp) (ρ : List Addr) (S : Sto) : Prop where
  len : ρ.length = S.length
  nd : ρ.Nodup
  obj : ∀ (n : Nat) o a, S[n]? = some o → ρ[n]? = some a → ObjRep G H ρ a o
  tab : ∀ p, p ∈ G.tabs → ∃ ps, H p.2 = some (.tbl ps) ∧ TriplesOk ps.toList
theorem StOk.at_ {S : Sto} (h : StOk G H ρ S) {n : Nat} {o : O} (e : S[n]? = some o) : ∃ a, ρ[n]? = some a ∧ ObjRep G H ρ a o := by
  have hn : n < ρ.length := by rw [h.len]; exact (List.getElem?_eq_some_iff.mp e).1
  exact ⟨_, List.getElem?_eq_getElem hn, h.obj n o _ e (List.getElem?_eq_getElem hn)⟩
theorem StOk.got {S : Sto} (h : StOk G H ρ S) {a : Addr} (m : a ∈ ρ) : ∃ u, H a = some u ∧ (∀ xs, u ≠ .tup xs) ∧ (∀ ob z, u ≠ .frz ob z) ∧ ∀ ps, u ≠ .tbl ps := by
  obtain ⟨n, hn, e⟩ := List.getElem_of_mem m
  have hs : n < S.length := by rw [← h.len]; exact hn
  exact (h.obj n S[n] a (List.getElem?_eq_getElem hs) (by rw [List.getElem?_eq_getElem hn, e])).got
/-- nothing but what is tracked elsewhere has changed -/
theorem StOk.sub {S : Sto} (h : StOk G H ρ S) (s : Sub H ρ H' ρ) (e : ∀ a ∈ ρ, H' a = H a) (t : ∀ p ps, H p = some (.tbl ps) → H' p = some (.tbl ps)) : StOk G H' ρ S :=
  ⟨h.len, h.nd, fun n o a q r => (h.obj n o a q r).sub s (e a (mem_of_get r)), fun p hp => by
    obtain ⟨ps, h1, h2⟩ := h.tab p hp
    exact ⟨ps, t _ ps h1, h2⟩⟩
def RepW (G : Gc) (H : Hp) (ρ : List Addr) : W → V → Prop
  | .val d, v => Rep G H ρ d v
  | .tmp o, v => ∃ a, v = .ref a ∧ a ∉ ρ ∧ ObjRep G H ρ a o
theorem Rep.fr {d : D} {v : V} (r : Rep G H ρ d v) (f : Fr H ρ H' ρ') : Rep G H' ρ' d v := r.sub f.sub
theorem RepL.fr {d : List D} {v : List V} (r : RepL G H ρ d v) (f : Fr H ρ H' ρ') : RepL G H' ρ' d v := r.sub f.sub
theorem RepW.fr {w : W} {v : V} (r : RepW G H ρ w v) (f : Fr H ρ H' ρ') : RepW G H' ρ' w v := by
  cases w with
  | val d => exact Rep.fr r f
  | tmp o =>
    obtain ⟨a, rfl, n, h⟩ := r
    obtain ⟨u, q, _, _, qt⟩ := h.got
    refine ⟨a, rfl, fun m => ?_, h.sub f.sub ((f.out a u q n qt).trans q.symm)⟩
    have := f.new a m n
    rw [q] at this; cases this
structure EnvRep (G : Gc) (H : Hp) (ρ : List Addr) (δ : Env) (σ : St) : Prop where
  len : δ.length = σ.length
  get : ∀ (i : Nat) d, δ[i]? = some (some d) → ∃ v, σ[i]? = some (some v) ∧ Rep G H ρ d v
theorem EnvRep.fr {δ : Env} {σ : St} (r : EnvRep G H ρ δ σ) (f : Fr H ρ H' ρ') : EnvRep G H' ρ' δ σ :=
  ⟨r.len, fun i d e => let ⟨v, h1, h2⟩ := r.get i d e; ⟨v, h1, h2.fr f⟩⟩
theorem EnvRep.set {δ : Env} {σ : St} {i : Nat} {d : D} {v : V} (r : EnvRep G H ρ δ σ) (q : Rep G H ρ d v) : EnvRep G H ρ (δ.set i (some d)) (σ.set i (some v)) := by
  refine ⟨by rw [List.length_set, List.length_set, r.len], fun j e h => ?_⟩
  by_cases hj : i = j
  · subst hj
    by_cases hi : i < δ.length
    · rw [List.getElem?_set_self hi] at h
      cases h
      exact ⟨v, List.getElem?_set_self (by rw [← r.len]; exact hi), q⟩
    · rw [List.getElem?_eq_none (by simpa using hi)] at h
      cases h
  · rw [List.getElem?_set_ne hj] at h
    rw [List.getElem?_set_ne hj]
    exact r.get j e h
theorem EnvRep.wipe {δ : Env} {σ : St} (r : EnvRep G H ρ δ σ) : ∀ vs : List Nat, EnvRep G H ρ (wipeD δ vs) (L2.wipe σ vs)
  | [] => r
  | v :: vs => by
    have h := EnvRep.wipe r vs
    refine ⟨by unfold wipeD L2.wipe; rw [List.length_set, List.length_set, h.len], fun j e q => ?_⟩
    unfold wipeD at q
    unfold L2.wipe
    by_cases hj : v = j
    · subst hj
      by_cases hi : v < (wipeD δ vs).length
      · rw [List.getElem?_set_self hi] at q; cases q
      · rw [List.getElem?_eq_none (by simpa using hi)] at q; cases q
    · rw [List.getElem?_set_ne hj] at q
      rw [List.getElem?_set_ne hj]
      exact h.get j e q
end
/-! ### fresh and changed objects -/
section
variable {G : Gc} {H H' : Hp} {ρ ρ' : List Addr} {S : Sto}
theorem fr_new {p : Addr} {o : HO} (hp : H p = none) (hn : p ∉ ρ) : Fr H ρ (upd H p o) ρ :=
  ⟨fun _ _ h => h, fun a xs h => by rw [upd_ne (ne_of_none h hp)]; exact h, fun a ob u h => by rw [upd_ne (ne_of_none h hp)]; exact h, fun a u h _ => .inl (by rw [upd_ne (ne_of_none h hp)]; exact h), fun _ h n => absurd h n⟩
theorem StOk.free (h : StOk G H ρ S) {p : Addr} (hp : H p = none) : p ∉ ρ := fun m => by
  obtain ⟨u, e, _⟩ := h.got m
  rw [hp] at e; cases e
/-- a new object, tracked, not in the store -/
theorem StOk.new (h : StOk G H ρ S) {p : Addr} {o : HO} (hp : H p = none) : StOk G (upd H p o) ρ S :=
  h.sub (fr_new hp (h.free hp)).sub (fun a m => upd_ne fun z => h.free hp (z ▸ m)) fun q ps e => by rw [upd_ne (ne_of_none e hp)]; exact e
/-- a tracked object that nothing else names gets its place -/
theorem StOk.bind (h : StOk G H ρ S) {a : Addr} {o : O} (n : a ∉ ρ) (r : ObjRep G H ρ a o) : StOk G H (ρ ++ [a]) (S ++ [o]) := by
  have s : Sub H ρ H (ρ ++ [a]) := ⟨fun m b e => by rw [List.getElem?_append_left (List.getElem?_eq_some_iff.mp e).1]; exact e, fun _ _ e => e, fun _ _ _ e => e⟩
  refine ⟨by rw [List.length_append, List.length_append, h.len]; rfl, ?_, fun m u b e q => ?_, h.tab⟩
  · rw [List.nodup_append]
    exact ⟨h.nd, by simp, fun x hx y hy => by
      have : y = a := by simpa using hy
      subst this
      exact fun z => n (z ▸ hx)⟩
  · by_cases hm : m < S.length
    · rw [List.getElem?_append_left hm] at e
      rw [List.getElem?_append_left (by rw [h.len]; exact hm)] at q
      exact (h.obj m u b e q).sub s rfl
    · have hl : m = S.length := by
        have := (List.getElem?_eq_some_iff.mp e).1
        rw [List.length_append, List.length_singleton] at this
        omega
      subst hl
      rw [List.getElem?_append_right (Nat.le_refl _), Nat.sub_self] at e
      rw [← h.len, List.getElem?_append_right (Nat.le_refl _), Nat.sub_self] at q
      cases e; cases q
      exact r.sub s rfl
theorem fr_bind (h : StOk G H ρ S) {a : Addr} : ∀ n : Nat, ∀ b, ρ[n]? = some b → (ρ ++ [a])[n]? = some b := fun n b e => by
  rw [List.getElem?_append_left (List.getElem?_eq_some_iff.mp e).1]; exact e
theorem get_last {a : Addr} : (ρ ++ [a])[ρ.length]? = some a := by
  rw [List.getElem?_append_right (Nat.le_refl _), Nat.sub_self]; rfl
/-- an object of the store is changed -/
theorem StOk.put (h : StOk G H ρ S) {n : Nat} {a : Addr} {u : HO} {o : O} (e : ρ[n]? = some a) (s : Sub H ρ (upd H a u) ρ → ObjRep G (upd H a u) ρ a o) : StOk G (upd H a u) ρ (S.set n o) ∧ Fr H ρ (upd H a u) ρ := by
  obtain ⟨w, hw, h1, h2, h3⟩ := h.got (mem_of_get e)
  have f : Fr H ρ (upd H a u) ρ := by
    refine ⟨fun _ _ q => q, fun b xs q => ?_, fun b ob z q => ?_, fun b z q nb => ?_, fun _ m nb => absurd m nb⟩
    · rw [upd_ne fun z => by subst z; rw [q] at hw; cases hw; exact h1 xs rfl]; exact q
    · rw [upd_ne fun y => by subst y; rw [q] at hw; cases hw; exact h2 _ _ rfl]; exact q
    · left; rw [upd_ne fun y => nb (by rw [y]; exact mem_of_get e)]; exact q
  refine ⟨⟨by rw [List.length_set]; exact h.len, h.nd, fun m v b q r => ?_, fun p hp => by
    obtain ⟨ps, g1, g2⟩ := h.tab p hp
    exact ⟨ps, by rw [upd_ne fun y => by subst y; rw [g1] at hw; cases hw; exact h3 _ rfl]; exact g1, g2⟩⟩, f⟩
  by_cases hm : n = m
  · subst hm
    rw [e] at r; cases r
    have hn : n < S.length := by rw [← h.len]; exact (List.getElem?_eq_some_iff.mp e).1
    rw [List.getElem?_set_self hn] at q
    cases q
    exact s f.sub
  · rw [List.getElem?_set_ne hm] at q
    have ne : b ≠ a := fun z => by
      subst z
      have h1 := (List.getElem?_eq_some_iff.mp e).1
      have h2 := (List.getElem?_eq_some_iff.mp r).1
      have h3 : ρ[n] = ρ[m] := by rw [(List.getElem?_eq_some_iff.mp e).2, (List.getElem?_eq_some_iff.mp r).2]
      exact hm ((List.getElem_inj h.nd).mp h3)
    exact (h.obj m v b q r).sub f.sub (upd_ne ne)
end
end MM
set_option maxRecDepth 100000
set_option maxHeartbeats 1000000
/-! MM, part C: readings, contexts, the first rules. -/
namespace MM
open PySem PySem.Spec L2

def ExcRep (G : Gc) (H : Hp) (ρ : List Addr) (c : Nat) (ds : List D) (cls : Value) (d : Option Addr) : Prop :=
  cls = .ref (G.xa c) ∧ ∃ vs dd fs, RepL G H ρ ds vs ∧ d = some dd ∧ H dd = some (.xd fs) ∧ (G.xf c).length = vs.length ∧ ∀ (i : Nat) f v, (G.xf c)[i]? = some f → vs[i]? = some v → fs.lookup f = some v

/-- a new object was not there at H -/
def Fresh (H : Hp) (w : W) (v : V) : Prop := match w with
  | .tmp _ => ∀ a, v = .ref a → H a = none
  | _ => True
section
variable (G : Gc) (H : Hp) (ρ : List Addr) (Wx : WX) (σ : L2.St)
/-- what is asked of a result that is reached from H, ρ -/
def okR {α : Type} (P : α → Sto → Hp → List Addr → Prop) : R α → Prop
  | .ok a S => ∀ H' ρ', Fr H ρ H' ρ' → StOk G H' ρ' S → P a S H' ρ'
  | .exc c ds S => ∀ H' ρ' cls d, Fr H ρ H' ρ' → StOk G H' ρ' S → ExcRep G H' ρ' c ds cls d → Wx cls d σ H'
  | .bad => False
def okF (D : Ends) : Fl → Prop
  | .nx δ S => ∀ σ' H' ρ', Fr H ρ H' ρ' → StOk G H' ρ' S → EnvRep G H' ρ' δ σ' → D.nx σ' H'
  | .bk δ S => ∀ σ' H' ρ', Fr H ρ H' ρ' → StOk G H' ρ' S → EnvRep G H' ρ' δ σ' → D.bk σ' H'
  | .ct δ S => ∀ σ' H' ρ', Fr H ρ H' ρ' → StOk G H' ρ' S → EnvRep G H' ρ' δ σ' → D.ct σ' H'
  | .rt w S => ∀ H' ρ' v, Fr H ρ H' ρ' → StOk G H' ρ' S → RepW G H' ρ' w v → Fresh H w v → D.rt v H'
  | .exc c ds δ S => ∀ σ' H' ρ' cls d, Fr H ρ H' ρ' → StOk G H' ρ' S → EnvRep G H' ρ' δ σ' → ExcRep G H' ρ' c ds cls d → Wx cls d σ' H'
  | .bad => False
end
section
variable {G : Gc} {H H1 : Hp} {ρ ρ1 : List Addr} {Wx : WX} {σ : L2.St} {α β : Type}
theorem Fr.noneAt {G : Gc} {S : Sto} (f : Fr H ρ H1 ρ1) (st : StOk G H1 ρ1 S) {a : Addr} (h : H1 a = none) : H a = none := by
  cases q : H a with
  | none => rfl
  | some o =>
    by_cases m : a ∈ ρ
    · obtain ⟨n, hn, e⟩ := List.getElem_of_mem m
      have := f.pre n a (by rw [List.getElem?_eq_getElem hn, e])
      obtain ⟨u, z, _⟩ := st.got (mem_of_get this)
      rw [h] at z; cases z
    · obtain ⟨o', this⟩ := f.there a o q m
      rw [h] at this; cases this
theorem Fresh.back {G : Gc} {S : Sto} (f : Fr H ρ H1 ρ1) (st : StOk G H1 ρ1 S) {w : W} {v : V} (h : Fresh H1 w v) : Fresh H w v := by
  cases w with
  | val d => exact True.intro
  | tmp o => exact fun a e => f.noneAt st (h a e)
theorem okR.mono {P P' : α → Sto → Hp → List Addr → Prop} {r : R α} (h : okR G H ρ Wx σ P r) (f : ∀ a S H' ρ', Fr H ρ H' ρ' → StOk G H' ρ' S → P a S H' ρ' → P' a S H' ρ') : okR G H ρ Wx σ P' r := by
  cases r with
  | ok a S => exact fun H' ρ' fr st => f a S H' ρ' fr st (h H' ρ' fr st)
  | exc c ds S => exact h
  | bad => exact h
theorem okR.later {P : α → Sto → Hp → List Addr → Prop} {r : R α} (h : okR G H ρ Wx σ P r) (f : Fr H ρ H1 ρ1) : okR G H1 ρ1 Wx σ P r := by
  cases r with
  | ok a S => exact fun H' ρ' fr st => h H' ρ' (f.trans fr) st
  | exc c ds S => exact fun H' ρ' cls d fr st => h H' ρ' cls d (f.trans fr) st
  | bad => exact h
theorem okR.then {P : β → Sto → Hp → List Addr → Prop} {r : R α} {f : α → Sto → R β} (h : okR G H ρ Wx σ P (r.then f)) :
    okR G H ρ Wx σ (fun a S H1 ρ1 => okR G H1 ρ1 Wx σ P (f a S)) r := by
  cases r with
  | ok a S => exact fun H' ρ' fr st => h.later fr
  | exc c ds S => exact h
  | bad => exact h
/-- the same, seen from where it began -/
theorem okR.thenO {P : β → Sto → Hp → List Addr → Prop} {r : R α} {f : α → Sto → R β} (h : okR G H ρ Wx σ P (r.then f)) :
    okR G H ρ Wx σ (fun a S _ _ => okR G H ρ Wx σ P (f a S)) r := by
  cases r with
  | ok a S => exact fun H' ρ' fr st => h
  | exc c ds S => exact h
  | bad => exact h
theorem okF.later {D : Ends} {r : Fl} {S : Sto} (h : okF G H ρ Wx D r) (f : Fr H ρ H1 ρ1) (st : StOk G H1 ρ1 S) : okF G H1 ρ1 Wx D r := by
  cases r with
  | nx δ S => exact fun σ' H' ρ' fr => h σ' H' ρ' (f.trans fr)
  | bk δ S => exact fun σ' H' ρ' fr => h σ' H' ρ' (f.trans fr)
  | ct δ S => exact fun σ' H' ρ' fr => h σ' H' ρ' (f.trans fr)
  | rt w S => exact fun H' ρ' v fr s2 r fs => h H' ρ' v (f.trans fr) s2 r (Fresh.back f st fs)
  | exc c ds δ S => exact fun σ' H' ρ' cls d fr => h σ' H' ρ' cls d (f.trans fr)
  | bad => exact h
theorem okF.thenS {D : Ends} {r : R α} {δ : Env} {f : α → Sto → Fl} (he : EnvRep G H ρ δ σ) (h : okF G H ρ Wx D (r.thenS δ f)) :
    okR G H ρ Wx σ (fun a S H1 ρ1 => okF G H1 ρ1 Wx D (f a S)) r := by
  cases r with
  | ok a S => exact fun H' ρ' fr st => h.later fr st
  | exc c ds S => exact fun H' ρ' cls d fr st x => h σ H' ρ' cls d fr st (he.fr fr) x
  | bad => exact h
theorem okF.thenO {D : Ends} {r : R α} {δ : Env} {f : α → Sto → Fl} (he : EnvRep G H ρ δ σ) (h : okF G H ρ Wx D (r.thenS δ f)) :
    okR G H ρ Wx σ (fun a S _ _ => okF G H ρ Wx D (f a S)) r := by
  cases r with
  | ok a S => exact fun H' ρ' fr st => h
  | exc c ds S => exact fun H' ρ' cls d fr st x => h σ H' ρ' cls d fr st (he.fr fr) x
  | bad => exact h
end

/-! ### readings -/
section
variable (G : Gc) (T : FT) (Wx : WX)
def rdE (m : ME) : TE := fun σ H Q => ∃ ρ δ S, EnvRep G H ρ δ σ ∧ StOk G H ρ S ∧ okR G H ρ Wx σ (fun w _ H' ρ' => ∀ v, RepW G H' ρ' w v → Fresh H w v → Q v H') (m T δ S)
def rdL (m : ML) : TA := fun σ H Q => ∃ ρ δ S, EnvRep G H ρ δ σ ∧ StOk G H ρ S ∧ okR G H ρ Wx σ (fun ds _ H' ρ' => ∀ vs, RepL G H' ρ' ds vs → Q vs H') (m T δ S)
def rdT (m : MT) : TT := fun σ H Q => ∃ ρ δ S, EnvRep G H ρ δ σ ∧ StOk G H ρ S ∧ okR G H ρ Wx σ (fun b _ H' _ => Q b H') (m T δ S)
def rdS (m : MS) : TS := fun D σ H => ∃ ρ δ S, EnvRep G H ρ δ σ ∧ StOk G H ρ S ∧ okF G H ρ Wx D (m T δ S)
end

/-! ### what is known of the program -/
/-- a def or method: its module's name, its qualified name, its text, all its names, its parameters; glob: it is reached by its name -/
structure DI where
  name : Str
  qual : Str
  st : Stmt
  N : List Str
  ps : List Str
  glob : Bool
  fd : Fd
structure CI where
  name : Str
  init : Nat
  meths : List (Str × Nat)
/-- an own exception class: its name, its fields, the parameters of its __init__ (none: it has none), the classes that it is under -/
structure EI where
  name : Str
  fields : List Str
  ps : List Str
  mro : List Nat
/-- a way to call a def with keywords: how many positional arguments, the keywords, where each parameter's argument stands -/
structure KI where
  f : Nat
  np : Nat
  ks : List Str
  perm : List Nat
structure Info where
  defs : List DI
  cons : List (Str × D)
  bins : List Str
  clss : List CI
  flds : List Str
  excs : List EI
  kws : List KI
  kds : List (Str × List (Str × D))
  /-- within a generator expression -/
  ing : Bool := false
/-- the mark among a def's names: it holds a generator expression -/
abbrev genN : Str := ".gen"
def Info.slack (I : Info) : Nat := cond I.ing 0 1
/-- what an own exception's __init__ promises -/
def spX (C : Addr) (n : Nat) (fs : List Str) : Sp := fun vs H Q E => ∃ a ys, vs = .ref a :: ys ∧ ys.length = n ∧ H a = some (exo a C none) ∧
  ∀ dx H', H dx = none → dx ≠ a → H' a = some (exo a C (some dx)) → H' dx = some (exd dx (fs.zip ys).reverse) → (∀ b, b ≠ a → b ≠ dx → H' b = H b) → Q .non H'
structure XcG (G : Gc) (i : Nat) (e : EI) : Prop where
  oex : OexC G.K (G.xa i)
  xf : XfC G.K (G.xa i)
  exc : ExcC G.K (G.xa i)
  fld : ∀ f ∈ e.fields, PySem.W.findIn G.K (.ref (G.xa i)) f = some none
  nm : G.mg e.name = some (.ref (G.xa i))
  fs : G.xf i = e.fields
  init : e.ps ≠ [] → PySem.W.findIn G.K (.ref (G.xa i)) "__init__" = some (some (.ref (G.xi i))) ∧ PySem.W.typeIn G.K (.ref (G.xi i)) = some (.type "function") ∧ Binds G.K (G.xd i) e.ps []
structure GOk (I : Info) (G : Gc) : Prop where
  fn : ∀ (i : Nat) d, I.defs[i]? = some d → Fun G.K d.name d.qual d.st (G.fa i) (G.fd i) ∧ Binds G.K (G.fd i) d.ps [] ∧ (d.glob = true → G.mg d.name = some (.ref (G.fa i)))
  con : ∀ (i : Nat) x d, I.cons[i]? = some (x, d) → ∃ u v, G.mg x = some u ∧ RelV v u ∧ ∀ H ρ, Rep G H ρ d v
  bin : ∀ (i : Nat) x, I.bins[i]? = some x → G.mg x = none
  nc : G.nc = I.clss.length
  cls : ∀ (i : Nat) c, I.clss[i]? = some c → Cls G.K (G.ca i) ∧ Mk G.K (G.ca i) (G.fa c.init) ∧ G.mg c.name = some (.ref (G.ca i)) ∧ ∀ p ∈ c.meths, Meth G.K (G.ca i) p.1 (G.fa p.2)
  fld : ∀ (i : Nat) c f, I.clss[i]? = some c → f ∈ I.flds → NoAttr G.K (G.ca i) f
  kw : ∀ (j : Nat) k d, I.kws[j]? = some k → I.defs[k.f]? = some d → ∀ us ws : List Value, us.length = k.np → ws.length = k.ks.length → bindArgs (G.fd k.f) ⟨us, k.ks.zip ws⟩ = pure (d.ps.zip (permL k.perm (us ++ ws)))
  exc : ∀ (i : Nat) e, I.excs[i]? = some e → XcG G i e
  gen : ∀ (i : Nat) d, I.defs[i]? = some d → genN ∈ d.N → ∃ p ∈ G.tabs, (G.fd i).code = .ref p.1
  exm : ∀ (i j : Nat) e e', I.excs[i]? = some e → I.excs[j]? = some e' → PySem.W.exmOne G.K (.ref (G.xa i)) (.ref (G.xa j)) = some (e.mro.contains j) ∧ PySem.W.kitOne G.K (.ref (G.xa i)) (.ref (G.xa j)) = some (e.mro.contains j)
/-- a dict of the module that is never changed -/
def KdW (w : World) (G : Gc) (x : Str) (kvs : List (Str × D)) : Prop := ∃ a es n, G.mg x = some (.ref a) ∧ KDict G.K w a es n ∧
  ∀ z, (∀ d, lookF z kvs = some d → ∃ u v, PySem.W.nsIn G.K a z = some (some u) ∧ RelV v u ∧ ∀ H ρ, Rep G H ρ d v) ∧ (lookF z kvs = none → PySem.W.nsIn G.K a z = some none)
/-- a def's promise: it does what f says -/
def spOf (G : Gc) (f : List D → Sto → R W) : Sp := fun vs H Q E => ∃ ρ ds S, RepL G H ρ ds vs ∧ StOk G H ρ S ∧
  okR G H ρ (fun cls d _ H' => E cls d H') [] (fun w _ H' ρ' => ∀ v, RepW G H' ρ' w v → Fresh H w v → Q v H') (f ds S)
/-- where a piece of the program stands: its slots, its scope, what it may call, what is wished of its errors -/
structure XOk0 (cl : Bool) (I : Info) (G : Gc) (T : FT) (N : List Str) (sc : Scope) (Wx : WX) (X : Cx) : Prop where
  eK : X.K = G.K
  eM : X.mg = G.mg
  eN : X.N = N
  eS : X.env.scope = sc
  nd : N.Nodup
  units : X.A.units + 64 < cLine
  tk : Takes X Wx
  kd : ∀ (i : Nat) x kvs, I.kds[i]? = some (x, kvs) → KdW X.w G x kvs
  calm' : cl = true → X.calm = true
  gen' : I.ing = false → genN ∈ N → ∃ p ∈ G.tabs, X.env.code = .ref p.1 ∧ GxR.TabB X.base X.mg p.1 p.2
  calls' : cl = true → ∃ k, Room (k + 1 + I.slack) X.A ∧ (∀ (i : Nat) d, I.defs[i]? = some d → FnOk X.prog X.w X.K X.mg X.base (L2.CX X.prog X.w) k (G.fa i) (G.fd i) d.ps (spOf G (T i))) ∧
    ∀ (i : Nat) e, I.excs[i]? = some e → e.ps ≠ [] → FnOk X.prog X.w X.K X.mg X.base (L2.CX X.prog X.w) k (G.xi i) (G.xd i) e.ps (spX (G.xa i) e.fields.length e.fields)
theorem XOk0.calm {I : Info} {G : Gc} {T : FT} {N : List Str} {sc : Scope} {Wx : WX} {X : Cx} (ok : XOk0 true I G T N sc Wx X) : X.calm = true := ok.calm' rfl
theorem XOk0.calls {I : Info} {G : Gc} {T : FT} {N : List Str} {sc : Scope} {Wx : WX} {X : Cx} (ok : XOk0 true I G T N sc Wx X) : ∃ k, Room (k + 1) X.A ∧ ∀ (i : Nat) d, I.defs[i]? = some d → FnOk X.prog X.w X.K X.mg X.base (L2.CX X.prog X.w) k (G.fa i) (G.fd i) d.ps (spOf G (T i)) := by
  obtain ⟨k, h1, h2, _⟩ := ok.calls' rfl
  exact ⟨k, h1.mono (Nat.le_add_right _ _), h2⟩
/-- the same of a def's own code -/
structure XOk (I : Info) (G : Gc) (T : FT) (N : List Str) (sc : Scope) (Wx : WX) (X : Cx) : Prop extends XOk0 true I G T N sc Wx X where
  po : PassesOwn (model X.prog X.w) X.A X.env X.xe
  fn : ∀ x, sc.names.lookup x = some .cell → X.fn x = true
  stk : X.stack = X.env :: X.outer
  frm : X.env.frame = some X.env.locals
  exn : X.ex = []

section
variable (cl : Bool) (I : Info) (N : List Str) (sc : Scope)
def SimE (e : Expr) (m : ME) : Prop := ∀ G T Wx X, GOk I G → XOk0 cl I G T N sc Wx X → PE X e (rdE G T Wx m)
def SimL (es : List Expr) (m : ML) : Prop := ∀ G T Wx X, GOk I G → XOk0 cl I G T N sc Wx X → PA X es (rdL G T Wx m)
def SimT (e : Expr) (m : MT) : Prop := ∀ G T Wx X, GOk I G → XOk0 cl I G T N sc Wx X → PT X e (rdT G T Wx m)
def SimS (s : Stmt) (m : MS) : Prop := ∀ G T Wx X, GOk I G → XOk I G T N sc Wx X → PS X s (rdS G T Wx m)
def SimB (ss : List Stmt) (m : MS) : Prop := ∀ G T Wx X, GOk I G → XOk I G T N sc Wx X → PSs X ss (rdS G T Wx m)
end

section
variable {X : Cx}
theorem _root_.L2.PE.weak {e : Expr} {t t' : TE} (h : PE X e t) (f : ∀ σ H Q, t' σ H Q → t σ H Q) : PE X e t' := ⟨fun pins s σ H Q I q => h.run pins s σ H Q I (f σ H Q q)⟩
theorem _root_.L2.PE.weakI {e : Expr} {t t' : TE} (h : PE X e t) (f : ∀ pins s σ H Q, Inv X pins σ H s → t' σ H Q → t σ H Q) : PE X e t' := ⟨fun pins s σ H Q I q => h.run pins s σ H Q I (f pins s σ H Q I q)⟩
theorem _root_.L2.PA.weak {e : List Expr} {t t' : TA} (h : PA X e t) (f : ∀ σ H Q, t' σ H Q → t σ H Q) : PA X e t' := ⟨fun pos pins s σ H Q I q => h.run pos pins s σ H Q I (f σ H Q q)⟩
theorem _root_.L2.PT.weak {e : Expr} {t t' : TT} (h : PT X e t) (f : ∀ σ H Q, t' σ H Q → t σ H Q) : PT X e t' := ⟨fun pins s σ H Q I q => h.run pins s σ H Q I (f σ H Q q)⟩
theorem _root_.L2.PS.weak {e : Stmt} {t t' : TS} (h : PS X e t) (f : ∀ D σ H, t' D σ H → t D σ H) : PS X e t' := ⟨fun pins s σ H D I q => h.run pins s σ H D I (f D σ H q)⟩
theorem _root_.L2.PSs.weak {e : List Stmt} {t t' : TS} (h : PSs X e t) (f : ∀ D σ H, t' D σ H → t D σ H) : PSs X e t' := ⟨fun pins s σ H D I q => h.run pins s σ H D I (f D σ H q)⟩
end

section
variable {cl : Bool} {I : Info} {N : List Str} {sc : Scope} {G : Gc} {T : FT} {Wx : WX} {H : Hp} {ρ : List Addr} {δ : Env} {S : Sto} {σ : L2.St}
theorem Fr.bind {H' : Hp} {ρ' : List Addr} {S' : Sto} (f : Fr H ρ H' ρ') (st : StOk G H' ρ' S') {a : Addr} (n : H a = none) : Fr H ρ H' (ρ' ++ [a]) :=
  ⟨fun m b e => fr_bind st m b (f.pre m b e), f.tup, f.frz, f.out0, fun b m nb => by
    rcases List.mem_append.mp m with h | h
    · exact f.new b h nb
    · have : b = a := by simpa using h
      rw [this]; exact n⟩
/-- a result that is bound: a new object gets its place -/
theorem bindW_ok {H' : Hp} {ρ' : List Addr} {S' : Sto} {w : W} {v : V} (f : Fr H ρ H' ρ') (st : StOk G H' ρ' S') (r : RepW G H' ρ' w v) (fs : Fresh H w v) :
    ∃ ρ2, Rep G H' ρ2 (bindW w S').1 v ∧ StOk G H' ρ2 (bindW w S').2 ∧ Fr H ρ H' ρ2 ∧ ∀ (n : Nat) a, ρ'[n]? = some a → ρ2[n]? = some a := by
  cases w with
  | val d => exact ⟨ρ', r, st, f, fun _ _ e => e⟩
  | tmp o =>
    obtain ⟨a, rfl, n, ob⟩ := r
    exact ⟨ρ' ++ [a], .loc (by show _[S'.length]? = _; rw [← st.len]; exact get_last), st.bind n ob, f.bind st (fs a rfl), fr_bind st⟩
theorem bnd_ok {m : ME} {P : D → Sto → Hp → List Addr → Prop} (h : okR G H ρ Wx σ P (bnd m T δ S)) :
    okR G H ρ Wx σ (fun w S1 H1 ρ1 => ∀ v, RepW G H1 ρ1 w v → Fresh H w v → ∃ d S2 ρ2, Rep G H1 ρ2 d v ∧ StOk G H1 ρ2 S2 ∧ Fr H ρ H1 ρ2 ∧ P d S2 H1 ρ2) (m T δ S) := by
  unfold bnd at h
  cases e : m T δ S with
  | ok w S1 =>
    rw [e] at h
    intro H1 ρ1 f st v r fs
    obtain ⟨ρ2, a, b, c, _⟩ := bindW_ok f st r fs
    exact ⟨_, _, ρ2, a, b, c, h H1 ρ2 c b⟩
  | exc c ds S1 => rw [e] at h; exact h
  | bad => rw [e] at h; exact h

/-! ### constants, names, displays -/
theorem sim_C {e : Expr} {v : V} {d : D} (h : ∀ X, PE X e (tC v)) (r : ∀ G H ρ, Rep G H ρ d v) : SimE cl I N sc e (eC d) := fun G T Wx X hG ok =>
  (h X).weak fun σ H Q ⟨ρ, δ, S, he, hs, q⟩ => q H ρ (Fr.refl _ _) hs v (r G H ρ) True.intro
theorem sim_int {i j pos} : SimE cl I N sc (.Constant (.int i) j pos) (eC (.int i)) := sim_C (fun _ => pe_int) fun _ _ _ => .int i
theorem sim_str {i j pos} : SimE cl I N sc (.Constant (.str i) j pos) (eC (.str i)) := sim_C (fun _ => pe_str) fun _ _ _ => .str i
theorem sim_bl {i j pos} : SimE cl I N sc (.Constant (.bool i) j pos) (eC (.bl i)) := sim_C (fun _ => pe_bl) fun _ _ _ => .bl i
theorem sim_non {j pos} : SimE cl I N sc (.Constant .none j pos) (eC .non) := sim_C (fun _ => pe_non) fun _ _ _ => .non
def kindV (sc : Scope) (x : Str) : Bool := match sc.names.lookup x with
  | some .local => true
  | some .cell => true
  | some .free => true
  | _ => false
theorem vis_of {sc : Scope} {x : Str} (h : kindV sc x = true) : Vis sc x := by
  unfold kindV at h
  unfold Vis
  split at h <;> simp_all
theorem sim_V {x : Str} {pos : Pos} (i : Nat) (hN : N[i]? = some x := by rfl) (hv : kindV sc x = true := by rfl) (hd : (x == ("__debug__" : Str)) = false := by decide) (hcd : (x == ("__classdict__" : Str)) = false := by decide) :
    SimE cl I N sc (.Name x pos) (eV i) := fun G T Wx X hG ok => by
  refine (pe_var (i := i) (by rw [ok.eN]; exact hN) (by rw [ok.eS]; exact vis_of hv) hd hcd).weak fun σ H Q ⟨ρ, δ, S, he, hs, q⟩ => ?_
  unfold eV at q
  split at q
  · rename_i d e
    obtain ⟨v, h1, h2⟩ := he.get i d e
    exact ⟨v, h1, q H ρ (Fr.refl _ _) hs v h2 True.intro⟩
  · exact q.elim
def glob (sc : Scope) (x : Str) : Bool := match sc.names.lookup x with
  | some .globalImplicit => true
  | _ => false
theorem XOk0.gl {X : Cx} (ok : XOk0 cl I G T N sc Wx X) {x : Str} (h : glob sc x = true) : Gl X x := by
  unfold glob at h
  show X.env.scope.names.lookup x = _
  rw [ok.eS]
  split at h <;> simp_all
/-- a constant of the module -/
theorem sim_G {x : Str} {d : D} {pos : Pos} (i : Nat) (hi : I.cons[i]? = some (x, d) := by rfl) (hg : glob sc x = true := by rfl) (hd : (x == ("__debug__" : Str)) = false := by decide) : SimE cl I N sc (.Name x pos) (eC d) := fun G T Wx X hG ok => by
  obtain ⟨u, v, h1, h2, h3⟩ := hG.con i x d hi
  refine (pe_glob (ok.gl hg) (by rw [ok.eM]; exact h1) h2 hd).weak fun σ H Q ⟨ρ, δ, S, he, hs, q⟩ => q H ρ (Fr.refl _ _) hs v (h3 H ρ) True.intro
theorem siml_nil : SimL cl I N sc [] lNil := fun G T Wx X hG ok => pa_nil.weak fun σ H Q ⟨ρ, δ, S, he, hs, q⟩ => q H ρ (Fr.refl _ _) hs [] .nil
end
end MM
set_option maxRecDepth 100000
set_option maxHeartbeats 2000000
/-! MM, part D: displays, operations by values. -/
namespace MM
open PySem PySem.Spec L2
section
variable {cl : Bool} {I : Info} {N : List Str} {sc : Scope} {G : Gc} {T : FT} {Wx : WX} {H : Hp} {ρ : List Addr} {δ : Env} {S : Sto} {σ : L2.St}
theorem siml_cons {e : Expr} {es : List Expr} {me : ME} {ml : ML} (ha : SimE cl I N sc e me) (hr : SimL cl I N sc es ml) (hs : ∀ env, starEach (e :: es) env = (false, eval e env) :: starEach es env := by intro _; rfl) :
    SimL cl I N sc (e :: es) (lCons me ml) := fun G T Wx X hG ok => by
  refine (pa_cons (ha G T Wx X hG ok) (hr G T Wx X hG ok) (hs X.env)).weak fun σ H Q ⟨ρ, δ, S, he, hs, q⟩ => ?_
  refine ⟨ρ, δ, S, he, hs, (bnd_ok (okR.then q)).mono fun w S1 H1 ρ1 f st p v r fs => ?_⟩
  obtain ⟨d, S2, ρ2, rd, st2, f2, p⟩ := p v r fs
  refine ⟨ρ2, δ, S2, he.fr f2, st2, (okR.then p).mono fun ds S3 H3 ρ3 f3 st3 p3 vs rv => ?_⟩
  exact p3 H3 ρ3 (Fr.refl _ _) st3 (v :: vs) (.cons (rd.fr f3) rv)
theorem new_tup {ds : List D} {vs : List V} {p : Addr} (st : StOk G H ρ S) (r : RepL G H ρ ds vs) (hp : H p = none) : Rep G (upd H p (.tup vs)) ρ (.tup ds) (.ref p) :=
  .tup (.inl upd_same) (r.fr (fr_new hp (st.free hp)))
theorem new_lst {ds : List D} {vs : List V} {p : Addr} (st : StOk G H ρ S) (r : RepL G H ρ ds vs) (hp : H p = none) : RepW G (upd H p (.lst vs)) ρ (.tmp (.lst ds)) (.ref p) :=
  ⟨p, rfl, st.free hp, vs, upd_same, r.fr (fr_new hp (st.free hp))⟩
theorem sim_tup {es : List Expr} {ml : ML} {x1} {pos} (h : SimL cl I N sc es ml) : SimE cl I N sc (.Tuple es x1 pos) (eTup ml) := fun G T Wx X hG ok => by
  refine (pe_tup (h G T Wx X hG ok)).weak fun σ H Q ⟨ρ, δ, S, he, hs, q⟩ => ?_
  refine ⟨ρ, δ, S, he, hs, (okR.then q).mono fun ds S1 H1 ρ1 f st p vs r => ?_⟩
  split at p
  · rename_i hl
    exact ⟨by rw [← r.length]; exact hl, fun a ha => p _ ρ1 (fr_new ha (st.free ha)) (st.new ha) _ (new_tup st r ha) True.intro⟩
  · exact p.elim
theorem sim_lst {es : List Expr} {ml : ML} {pos} (h : SimL cl I N sc es ml) : SimE cl I N sc (.List es pos) (eLst ml) := fun G T Wx X hG ok => by
  refine (pe_lst (h G T Wx X hG ok)).weak fun σ H Q ⟨ρ, δ, S, he, hs, q⟩ => ?_
  refine ⟨ρ, δ, S, he, hs, (okR.then q).mono fun ds S1 H1 ρ1 f st p vs r => ?_⟩
  split at p
  · rename_i hl
    refine ⟨by rw [← r.length]; exact hl, fun a ha => p _ ρ1 (fr_new ha (st.free ha)) (st.new ha) _ (new_lst st r ha) fun b e => ?_⟩
    cases e
    exact f.noneAt st ha
  · exact p.elim

/-! ### two values -/
def rB (G : Gc) (f : B2) : R2 := fun x y H Q => ∃ ρ S wx wy w, StOk G H ρ S ∧ RepW G H ρ wx x ∧ RepW G H ρ wy y ∧ f wx wy S = some w ∧
  ∀ H' ρ' v, Fr H ρ H' ρ' → StOk G H' ρ' S → RepW G H' ρ' w v → Fresh H w v → Q v H'
def OpOk (fn : Value → Value → Sem Value) (f : B2) : Prop := ∀ (X : Cx) (G : Gc), X.K = G.K → X.A.units + 64 < cLine → OpR X fn (rB G f)
theorem rB_of {f : B2} {a b : ME} {Q : VK} (he : EnvRep G H ρ δ σ) (st : StOk G H ρ S) (q : okR G H ρ Wx σ (fun w _ H' ρ' => ∀ v, RepW G H' ρ' w v → Fresh H w v → Q v H') (eBin f a b T δ S)) :
    tOp (rB G f) (rdE G T Wx a) (rdE G T Wx b) σ H Q := by
  refine ⟨ρ, δ, S, he, st, (okR.then q).mono fun w S1 H1 ρ1 f1 st1 p v r fs => ?_⟩
  refine ⟨ρ1, δ, S1, he.fr f1, st1, (okR.then p).mono fun w2 S2 H2 ρ2 f2 st2 p2 v2 r2 fs2 => ?_⟩
  split at p2
  · rename_i w3 e
    exact ⟨ρ2, S2, w, w2, w3, st2, r.fr f2, r2, e, fun H' ρ' v3 f3 st3 r3 fs3 => p2 H' ρ' f3 st3 v3 r3 (Fresh.back (f1.trans f2) st2 fs3)⟩
  · exact p2.elim
theorem sim_bin {op : Operator} {f : B2} {a b : Expr} {ma mb : ME} {pos} (ho : OpOk (binaryOp op) f) (ha : SimE cl I N sc a ma) (hb : SimE cl I N sc b mb) : SimE cl I N sc (.BinOp a op b pos) (eBin f ma mb) := fun G T Wx X hG ok =>
  (pe_op (ho X G ok.eK ok.units) (ha G T Wx X hG ok) (hb G T Wx X hG ok)).weak fun σ H Q ⟨ρ, δ, S, he, hs, q⟩ => rB_of he hs q
/-! ### lists as they lie -/
theorem W.lm_rep {w : W} {ds : List D} {v : V} (e : w.lm S = some ds) (st : StOk G H ρ S) (r : RepW G H ρ w v) : ∃ a xs, v = .ref a ∧ H a = some (.lst xs) ∧ RepL G H ρ ds xs := by
  unfold W.lm at e
  split at e
  · split at e
    · rename_i n ds' es
      cases e
      cases r with
      | loc er =>
        obtain ⟨xs, h1, h2⟩ := st.obj _ _ _ es er
        exact ⟨_, xs, rfl, h1, h2⟩
    · cases e
  · cases e
    obtain ⟨a, rfl, _, xs, h1, h2⟩ := r
    exact ⟨a, xs, rfl, h1, h2⟩
  · cases e
theorem W.lq_rep {w : W} {ds : List D} {v : V} (e : w.lq S = some ds) (st : StOk G H ρ S) (r : RepW G H ρ w v) : ∃ a xs, v = .ref a ∧ SqL G.K H a xs ∧ RepL G H ρ ds xs := by
  unfold W.lq at e
  split at e
  · split at e
    · rename_i n ds' es
      cases e
      cases r with
      | loc er =>
        obtain ⟨xs, h1, h2⟩ := st.obj _ _ _ es er
        exact ⟨_, xs, rfl, SqL.of h1, h2⟩
    · cases e
  · cases e
    cases r with
    | frz h1 h2 => exact ⟨_, _, rfl, h1.sq, h2⟩
  · cases e
    cases r with
    | scr h1 h2 => exact ⟨_, _, rfl, h1.sq, h2⟩
  · cases e
    obtain ⟨a, rfl, _, xs, h1, h2⟩ := r
    exact ⟨a, xs, rfl, SqL.of h1, h2⟩
  · cases e
theorem W.lr_rep {w : W} {ds : List D} {v : V} (e : w.lr S = some ds) (st : StOk G H ρ S) (r : RepW G H ρ w v) : ∃ a xs, v = .ref a ∧ Rd H a (.lst xs) ∧ RepL G H ρ ds xs := by
  unfold W.lr at e
  split at e
  · split at e
    · rename_i n ds' es
      cases e
      cases r with
      | loc er =>
        obtain ⟨xs, h1, h2⟩ := st.obj _ _ _ es er
        exact ⟨_, xs, rfl, .inl h1, h2⟩
    · cases e
  · cases e
    cases r with
    | frz h1 h2 => exact ⟨_, _, rfl, .inr h1, h2⟩
  · cases e
    obtain ⟨a, rfl, _, xs, h1, h2⟩ := r
    exact ⟨a, xs, rfl, .inl h1, h2⟩
  · cases e
theorem W.tq_rep {w : W} {ds : List D} {v : V} (e : w.tq = some ds) (r : RepW G H ρ w v) : ∃ a xs, v = .ref a ∧ TupAt G.K H a xs ∧ RepL G H ρ ds xs := by
  unfold W.tq at e
  split at e
  · cases e
    cases r with
    | tup h1 h2 => exact ⟨_, _, rfl, h1, h2⟩
  · cases e
theorem W.any_rep {w : W} {ds : List D} {v : V} (e : w.any S = some ds) (st : StOk G H ρ S) (r : RepW G H ρ w v) : ∃ a xs, v = .ref a ∧ (SqL G.K H a xs ∨ SqT G.K H a xs) ∧ RepL G H ρ ds xs := by
  unfold W.any at e
  split at e
  · rename_i ds' e'
    cases e
    obtain ⟨a, xs, h1, h2, h3⟩ := W.tq_rep e' r
    exact ⟨a, xs, h1, .inr h2.sq, h3⟩
  · obtain ⟨a, xs, h1, h2, h3⟩ := W.lq_rep e st r
    exact ⟨a, xs, h1, .inl h2, h3⟩
theorem RepL.zipK : ∀ {ks : List Key} {ds : List D} {vs : List V}, RepL G H ρ ds vs → RepK G H ρ (ks.zip ds) (ks.zip vs)
  | [], _, _, _ => by rw [List.zip_nil_left, List.zip_nil_left]; exact .nil
  | k :: ks, _, _, .nil => by rw [List.zip_nil_right, List.zip_nil_right]; exact .nil
  | k :: ks, _, _, .cons r t => by
    rw [List.zip_cons_cons, List.zip_cons_cons]
    exact .cons r (RepL.zipK t)
theorem W.dm_rep {w : W} {ds : List (Key × D)} {v : V} (e : w.dm S = some ds) (st : StOk G H ρ S) (r : RepW G H ρ w v) : ∃ a xs, v = .ref a ∧ H a = some (.dK xs) ∧ RepK G H ρ ds xs := by
  unfold W.dm at e
  split at e
  · split at e
    · rename_i n ds' es
      cases e
      cases r with
      | loc er =>
        obtain ⟨xs, h1, h2⟩ := st.obj _ _ _ es er
        exact ⟨_, xs, rfl, h1, h2⟩
    · cases e
  · cases e
    obtain ⟨a, rfl, _, xs, h1, h2⟩ := r
    exact ⟨a, xs, rfl, h1, h2⟩
  · cases e
theorem W.dq_rep {w : W} {ds : List (Key × D)} {v : V} (e : w.dq S = some ds) (st : StOk G H ρ S) (r : RepW G H ρ w v) : ∃ a xs, v = .ref a ∧ Rd H a (.dK xs) ∧ RepK G H ρ ds xs := by
  unfold W.dq at e
  split at e
  · split at e
    · rename_i n ds' es
      cases e
      cases r with
      | loc er =>
        obtain ⟨xs, h1, h2⟩ := st.obj _ _ _ es er
        exact ⟨_, xs, rfl, .inl h1, h2⟩
    · cases e
  · cases e
    cases r with
    | fdc h1 h2 h3 => exact ⟨_, _, rfl, .inr h1, h3.zipK⟩
  · cases e
    obtain ⟨a, rfl, _, xs, h1, h2⟩ := r
    exact ⟨a, xs, rfl, .inl h1, h2⟩
  · cases e
/-- a new list as an answer -/
theorem tmp_new {ds : List D} {vs : List V} {p : Addr} {Q : VK} (st : StOk G H ρ S) (r : RepL G H ρ ds vs) (hp : H p = none)
    (q : ∀ H' ρ' v, Fr H ρ H' ρ' → StOk G H' ρ' S → RepW G H' ρ' (.tmp (.lst ds)) v → Fresh H (.tmp (.lst ds)) v → Q v H') : Q (.ref p) (upd H p (.lst vs)) :=
  q _ ρ _ (fr_new hp (st.free hp)) (st.new hp) (new_lst st r hp) fun b e => by cases e; exact hp
theorem tup_new {ds : List D} {vs : List V} {p : Addr} {Q : VK} (st : StOk G H ρ S) (r : RepL G H ρ ds vs) (hp : H p = none)
    (q : ∀ H' ρ' v, Fr H ρ H' ρ' → StOk G H' ρ' S → RepW G H' ρ' (.val (.tup ds)) v → Fresh H (.val (.tup ds)) v → Q v H') : Q (.ref p) (upd H p (.tup vs)) :=
  q _ ρ _ (fr_new hp (st.free hp)) (st.new hp) (new_tup st r hp) True.intro

theorem Inv.lstR {X : Cx} {pins : List (Addr × Obj)} {s : Shared} {l : Addr} {xs : List V} (I : Inv X pins σ H s) (hH : Rd H l (.lst xs)) : xs.length ≤ sizeLine ∧ ∃ (its : List Value) (n : Nat), Vals xs its ∧ xs.length = its.length ∧ s.heap.get? l = some { cls := .type "list", data := .seq its.toArray n } := by
  obtain ⟨z, its, n, r, e⟩ := hH.ok I.hok
  exact ⟨z, its, n, r, r.length, e⟩
def rCatR : R2 := fun x y H Q => ∃ l b xs zs, x = .ref l ∧ y = .ref b ∧ Rd H l (.lst xs) ∧ Rd H b (.lst zs) ∧ xs.length + zs.length ≤ sizeLine ∧ ∀ p, H p = none → Q (.ref p) (upd H p (.lst (xs ++ zs)))
theorem op_catR {X : Cx} : OpR X (binaryOp .Add) rCatR := by
  intro pins s σ H x y v u Q I rx ry h
  obtain ⟨l, b, xs, zs, rfl, rfl, hH, hB, hz, q⟩ := h
  cases rx
  cases ry
  obtain ⟨z, its, n, r, hl, e⟩ := Inv.lstR I hH
  obtain ⟨z2, its2, n2, r2, hl2, e2⟩ := Inv.lstR I hB
  refine PySem.P.add_list e e2 ?_ (by rw [List.size_toArray, List.size_toArray]; omega)
  have ea : its.toArray ++ its2.toArray = (its ++ its2).toArray := by simp
  rw [ea]
  exact ⟨.ref _, _, I.lnew (t' := s.toks) (r.append r2) (by rw [List.length_append]; omega), rfl, q _ I.fresh⟩
def rRepR : R2 := fun x y H Q => ∃ l k xs, x = .ref l ∧ y = .int k ∧ Rd H l (.lst xs) ∧ -(2 ^ 63) ≤ k ∧ k < 2 ^ 63 ∧ xs.length * k.toNat ≤ sizeLine ∧
  ∀ p, H p = none → Q (.ref p) (upd H p (.lst (List.replicate k.toNat xs).flatten))
theorem op_repR {X : Cx} : OpR X (binaryOp .Mult) rRepR := by
  intro pins s σ H x y v u Q I rx ry h
  obtain ⟨l, k, xs, rfl, rfl, hH, h1, h2, hz, q⟩ := h
  cases rx
  obtain ⟨t, rfl⟩ := ry
  obtain ⟨z, its, n, r, hl, e⟩ := Inv.lstR I hH
  have hlen : its.toArray.size * k.toNat ≤ sizeLine := by rw [List.size_toArray, ← hl]; exact hz
  have hcap : ¬ its.toArray.size * k.toNat > (2 ^ 63 - 1) / 8 := by
    have : (sizeLine : Nat) ≤ (2 ^ 63 - 1) / 8 := by decide
    omega
  have hfit : ¬ (!Builtin.List.listFitsIndex k) = true := by
    rw [fitsIndex_both h1 h2]
    exact Bool.false_ne_true
  have hlong : ¬ Builtin.List.listTooLong (its.toArray.size * k.toNat) = true := by
    rw [notLongL hlen]
    exact Bool.false_ne_true
  have hnew : List.foldl (fun x1 x2 => x1 ++ x2) #[] (List.replicate (if its.toArray.isEmpty = true then 0 else k.toNat) its.toArray) = (List.replicate k.toNat its).flatten.toArray := by
    have f0 : ∀ m : Nat, List.foldl (fun x1 x2 => x1 ++ x2) #[] (List.replicate m its.toArray) = (List.replicate m its).flatten.toArray := fun m => by
      have := foldl_rep its m []
      rw [List.nil_append] at this
      exact this
    rw [f0]
    cases its with
    | nil => simp
    | cons a r' => rw [if_neg (by simp)]
  refine wpAny_binaryOp_repeat_ref (T := "list") (U := "int") (by decide) ⟨_, e, rfl⟩ (fun s' => typeIs_int s' k t) noFill_list_mul F.fills_int_mul F.slot_int_rmul repeat_list F.slot_int_index.lookup
    (call_meets F.slot_int_rmul (typeIs_int s k t) F.entry_int_rmul (F.args_int_rmul_2 _ _) (int___rmul___int_list k t l its.toArray n)
      ⟨e, rfl, ⟨_, e, rfl⟩, call_meets F.slot_list_mul ⟨_, e, rfl⟩ F.entry_list_mul (F.args_list_mul_2 _ _) (AutoListH.list___mul___list_int_3 l its.toArray n k t hfit hcap hlong) ⟨e, ?_⟩⟩)
  rw [hnew]
  exact ⟨.ref _, _, I.lnew (t' := s.toks) (r.rep k.toNat) (by rw [PyProof.Rows.lm_len_rep_flat, Nat.mul_comm]; exact hz), rfl, q _ I.fresh⟩

theorem ok_add : OpOk (binaryOp .Add) bAdd := fun X G eK hu pins s σ H x y v u Q I rx ry ⟨ρ, S, wx, wy, w, st, r1, r2, e, q⟩ => by
  unfold bAdd at e
  split at e
  · cases e; cases r1; cases r2
    exact op_add pins s σ H _ _ v u Q I rx ry ⟨_, _, rfl, rfl, q H ρ _ (Fr.refl _ _) st (.int _) True.intro⟩
  · split at e
    · rename_i hl
      cases e; cases r1; cases r2
      exact op_add_str pins s σ H _ _ v u Q I rx ry ⟨_, _, rfl, rfl, hl, q H ρ _ (Fr.refl _ _) st (.str _) True.intro⟩
    · cases e
  · split at e
    · rename_i a b hl
      cases e
      cases r1 with
      | tup t1 l1 =>
        cases r2 with
        | tup t2 l2 =>
          refine op_catA pins s σ H _ _ v u Q I rx ry ⟨_, _, _, _, rfl, rfl, by rw [eK]; exact t1.sq, by rw [eK]; exact t2.sq, by rw [← l1.length, ← l2.length]; exact hl, fun hx => ?_, fun hx hy => ?_, fun hx hy p hp => ?_⟩
          · have : a = [] := List.eq_nil_of_length_eq_zero (by rw [l1.length, hx]; rfl)
            subst this
            exact q H ρ _ (Fr.refl _ _) st (.tup t2 l2) True.intro
          · have : b = [] := List.eq_nil_of_length_eq_zero (by rw [l2.length, hy]; rfl)
            subst this
            rw [List.append_nil] at q
            exact q H ρ _ (Fr.refl _ _) st (.tup t1 l1) True.intro
          · exact tup_new st (l1.append l2) hp q
    · cases e
  · split at e
    · rename_i a b e1 e2
      split at e
      · rename_i hl
        cases e
        obtain ⟨p1, xs, rfl, h1, l1⟩ := W.lr_rep e1 st r1
        obtain ⟨p2, ys, rfl, h2, l2⟩ := W.lr_rep e2 st r2
        exact op_catR pins s σ H _ _ v u Q I rx ry ⟨_, _, _, _, rfl, rfl, h1, h2, by rw [← l1.length, ← l2.length]; exact hl, fun p hp => tmp_new st (l1.append l2) hp q⟩
      · cases e
    · cases e
/-- two ints, an int under a condition -/
theorem ok_ints {fn : Value → Value → Sem Value} {f : B2} {C : Int → Int → Prop} {g : Int → Int → V} {gd : Int → Int → D} (hf : ∀ x y S w, f x y S = some w → ∃ i j, x = .val (.int i) ∧ y = .val (.int j) ∧ C i j ∧ w = .val (gd i j))
    (hg : ∀ i j G H ρ, Rep G H ρ (gd i j) (g i j)) (ho : ∀ X, OpR X fn (fun x y H Q => ∃ i j, x = .int i ∧ y = .int j ∧ C i j ∧ Q (g i j) H)) : OpOk fn f := fun X G eK hu pins s σ H x y v u Q I rx ry ⟨ρ, S, wx, wy, w, st, r1, r2, e, q⟩ => by
  obtain ⟨i, j, rfl, rfl, c, rfl⟩ := hf _ _ _ _ e
  cases r1; cases r2
  exact ho X pins s σ H _ _ v u Q I rx ry ⟨i, j, rfl, rfl, c, q H ρ _ (Fr.refl _ _) st (hg i j G H ρ) True.intro⟩

theorem ok_sub : OpOk (binaryOp .Sub) bSub := ok_ints (C := fun _ _ => True) (g := fun i j => .int (i - j)) (gd := fun i j => .int (i - j)) (fun x y S w e => by
  unfold bSub at e
  split at e <;> cases e
  exact ⟨_, _, rfl, rfl, True.intro, rfl⟩) (fun _ _ _ _ _ => .int _) fun X pins s σ H x y v u Q I rx ry ⟨i, j, h1, h2, _, q⟩ => op_sub pins s σ H x y v u Q I rx ry ⟨i, j, h1, h2, q⟩
theorem ok_div : OpOk (binaryOp .FloorDiv) bDiv := ok_ints (C := CDivW) (g := fun i j => .int (i / j)) (gd := fun i j => .int (i / j)) (fun x y S w e => by
  unfold bDiv at e
  split at e
  · split at e <;> cases e
    rename_i h
    exact ⟨_, _, rfl, rfl, h, rfl⟩
  · cases e) (fun _ _ _ _ _ => .int _) fun X => op_fdivW
theorem ok_mod : OpOk (binaryOp .Mod) bMod := ok_ints (C := fun _ j => 0 < j) (g := fun i j => .int (i % j)) (gd := fun i j => .int (i % j)) (fun x y S w e => by
  unfold bMod at e
  split at e
  · split at e <;> cases e
    rename_i h
    exact ⟨_, _, rfl, rfl, h, rfl⟩
  · cases e) (fun _ _ _ _ _ => .int _) fun X => op_mod
theorem ok_pow : OpOk (binaryOp .Pow) bPow := ok_ints (C := CPow) (g := fun i j => .int (i ^ j.toNat)) (gd := fun i j => .int (i ^ j.toNat)) (fun x y S w e => by
  unfold bPow at e
  split at e
  · split at e <;> cases e
    rename_i h
    exact ⟨_, _, rfl, rfl, h, rfl⟩
  · cases e) (fun _ _ _ _ _ => .int _) fun X => op_pow
theorem ok_shl : OpOk (binaryOp .LShift) bShl := ok_ints (C := CPow) (g := fun i j => .int (i * 2 ^ j.toNat)) (gd := fun i j => .int (i * 2 ^ j.toNat)) (fun x y S w e => by
  unfold bShl at e
  split at e
  · split at e <;> cases e
    rename_i h
    exact ⟨_, _, rfl, rfl, h, rfl⟩
  · cases e) (fun _ _ _ _ _ => .int _) fun X => op_shl
theorem ok_shr : OpOk (binaryOp .RShift) bShr := ok_ints (C := fun _ j => 0 ≤ j) (g := fun i j => .int (i / 2 ^ j.toNat)) (gd := fun i j => .int (i / 2 ^ j.toNat)) (fun x y S w e => by
  unfold bShr at e
  split at e
  · split at e <;> cases e
    rename_i h
    exact ⟨_, _, rfl, rfl, h, rfl⟩
  · cases e) (fun _ _ _ _ _ => .int _) fun X => op_shr
theorem ok_and : OpOk (binaryOp .BitAnd) bAnd := ok_ints (C := fun _ _ => True) (g := fun i j => .int (Builtin.bitAnd i j)) (gd := fun i j => .int (Builtin.bitAnd i j)) (fun x y S w e => by
  unfold bAnd at e
  split at e <;> cases e
  exact ⟨_, _, rfl, rfl, True.intro, rfl⟩) (fun _ _ _ _ _ => .int _) fun X pins s σ H x y v u Q I rx ry ⟨i, j, h1, h2, _, q⟩ => op_and pins s σ H x y v u Q I rx ry ⟨i, j, h1, h2, q⟩
theorem ok_or : OpOk (binaryOp .BitOr) bOr := ok_ints (C := fun _ _ => True) (g := fun i j => .int (Builtin.bitOr i j)) (gd := fun i j => .int (Builtin.bitOr i j)) (fun x y S w e => by
  unfold bOr at e
  split at e <;> cases e
  exact ⟨_, _, rfl, rfl, True.intro, rfl⟩) (fun _ _ _ _ _ => .int _) fun X pins s σ H x y v u Q I rx ry ⟨i, j, h1, h2, _, q⟩ => op_or pins s σ H x y v u Q I rx ry ⟨i, j, h1, h2, q⟩
theorem tuple_mulW1 (l : Addr) (items : Array Value) (n : Nat) (dd : Option Addr) (sl : Array (Option Value)) (x : Int) (u : Tok) (c0 : (decide (x < -(2 ^ 63)) || decide (x ≥ 2 ^ 63)) = false) (c1 : (items.isEmpty || x == 1) = true) :
    Meets (Builtin.«tuple.__mul__» ⟨[.ref l, .int x u], []⟩) (fun _ R s => s.heap.get? l = some { cls := .type "tuple", dict := dd, data := .seq items n, slots := sl } ∧
      R (.ok (.ret (Value.ref l))) s) :=
  .of_wp fun prog w A R s h => by
    obtain ⟨hp, g, d, tk, os⟩ := s
    obtain ⟨hl, h⟩ := h
    have f1 := AutoSeq1.idx_int
    wp_walk using wpAny_loadPart' hl
    repeat (first
      | (refine wpAny_ite_false (decide_eq_false (by rw [c0]; exact Bool.false_ne_true)) ?_; wp_walk using wpAny_loadPart' hl)
      | (refine wpAny_ite_true (decide_eq_true c1) ?_; wp_walk using wpAny_loadPart' hl))
    exact ⟨_, rfl, h⟩
/-- t * 1 is t itself -/
def rRepT1 (K : PySem.W.Frag) : R2 := fun x y H Q => ∃ l xs, x = .ref l ∧ y = .int 1 ∧ SqT K H l xs ∧ Q (.ref l) H
theorem op_repT1 {X : Cx} : OpR X (binaryOp .Mult) (rRepT1 X.K) := by
  intro pins s σ H x y v u Q I rx ry h
  obtain ⟨l, xs, rfl, rfl, hT, q⟩ := h
  cases rx
  obtain ⟨t, rfl⟩ := ry
  obtain ⟨its, r, ⟨⟨cls, dd, data, sl⟩, ho, hc, n, hd⟩, hs⟩ := I.tuple hT
  simp only at hc hd
  subst hc hd
  refine wpAny_binaryOp_repeat_ref (T := "tuple") (U := "int") (by decide) ⟨_, ho, rfl⟩ (fun s' => typeIs_int s' 1 t) noFill_tuple_mul F.fills_int_mul F.slot_int_rmul repeat_tuple F.slot_int_index.lookup
    (call_meets F.slot_int_rmul (typeIs_int s 1 t) F.entry_int_rmul (F.args_int_rmul_2 _ _) (int_rmul_tuple 1 t l its.toArray n dd sl)
      ⟨ho, rfl, ⟨_, ho, rfl⟩, call_meets F.slot_tuple_mul ⟨_, ho, rfl⟩ F.entry_tuple_mul (F.args_tuple_mul_2 _ _) (tuple_mulW1 l its.toArray n dd sl 1 t (by decide) (by simp)) ⟨ho, ?_⟩⟩)
  exact ⟨.ref l, H, I, rfl, q⟩
theorem ok_mul : OpOk (binaryOp .Mult) bMul := fun X G eK hu pins s σ H x y v u Q I rx ry ⟨ρ, S, wx, wy, w, st, r1, r2, e, q⟩ => by
  unfold bMul at e
  split at e
  · rename_i i j
    split at e
    · rename_i hs
      cases e; cases r1; cases r2
      refine op_mul pins s σ H _ _ v u Q I rx ry ⟨_, _, rfl, rfl, ?_, q H ρ _ (Fr.refl _ _) st (.int _) True.intro⟩
      rcases Bool.or_eq_true_iff.mp hs with h | h
      · exact .inl (small64_of h)
      · exact .inr (small64_of h)
    · cases e
  · split at e
    · rename_i a k h1
      cases e
      subst h1
      cases r2
      cases r1 with
      | tup t1 l1 => exact op_repT1 pins s σ H _ _ v u Q I rx ry ⟨_, _, rfl, rfl, by rw [eK]; exact t1.sq, q H ρ _ (Fr.refl _ _) st (.tup t1 l1) True.intro⟩
    · split at e
      · rename_i a k h1 h
        cases e
        cases r2
        cases r1 with
        | tup t1 l1 =>
          refine op_repT pins s σ H _ _ v u Q I rx ry ⟨_, _, _, rfl, rfl, by rw [eK]; exact t1.sq, ?_, h.2.1, h.2.2.1, by rw [← l1.length]; exact h.2.2.2, fun p hp => tup_new st (l1.repl _) hp q⟩
          intro z
          have := l1.length
          rw [z] at this
          have h1 := h.1
          rw [this] at h1
          exact absurd h1 (by simp)
      · cases e
  · split at e
    · rename_i a e1
      split at e
      · rename_i hl
        cases e
        cases r2
        obtain ⟨p1, xs, rfl, h1, l1⟩ := W.lr_rep e1 st r1
        exact op_repR pins s σ H _ _ v u Q I rx ry ⟨_, _, _, rfl, rfl, h1, hl.1, hl.2.1, by rw [← l1.length]; exact hl.2.2, fun p hp => tmp_new st (l1.repl _) hp q⟩
      · cases e
    · cases e
  · cases e
/-! ### comparisons -/
/-- a comparison by values: true or false -/
def CmpOk (fn : Value → Value → Sem Value) (f : C2) : Prop := ∀ (X : Cx) (G : Gc), X.K = G.K → X.A.units + 64 < cLine →
  OpR X fn (fun x y H Q => ∃ ρ S wx wy b, StOk G H ρ S ∧ RepW G H ρ wx x ∧ RepW G H ρ wy y ∧ f wx wy S = some b ∧ Q (.bl b) H)
theorem CmpOk.op {fn : Value → Value → Sem Value} {f : C2} (h : CmpOk fn f) : OpOk fn (bC f) := fun X G eK hu pins s σ H x y v u Q I rx ry ⟨ρ, S, wx, wy, w, st, r1, r2, e, q⟩ => by
  unfold bC at e
  split at e
  · rename_i b hb
    cases e
    exact h X G eK hu pins s σ H x y v u Q I rx ry ⟨ρ, S, wx, wy, b, st, r1, r2, hb, q H ρ _ (Fr.refl _ _) st (.bl b) True.intro⟩
  · cases e
theorem sim_cmp {op : CmpOp} {f : C2} {a b : Expr} {ma mb : ME} {pos} (ho : CmpOk (compareOp op) f) (ha : SimE cl I N sc a ma) (hb : SimE cl I N sc b mb) (hm : behindInMarks op b = false := by rfl) : SimE cl I N sc (.Compare a [op] [b] pos) (eBin (bC f) ma mb) := fun G T Wx X hG ok =>
  (pe_cmpR (ho.op X G ok.eK ok.units) (ha G T Wx X hG ok) (hb G T Wx X hG ok) hm).weak fun σ H Q ⟨ρ, δ, S, he, hs, q⟩ => rB_of he hs q
theorem simt_cmp {op : CmpOp} {f : C2} {a b : Expr} {ma mb : ME} {pos} (ho : CmpOk (compareOp op) f) (ha : SimE cl I N sc a ma) (hb : SimE cl I N sc b mb) (hm : behindInMarks op b = false := by rfl) : SimT cl I N sc (.Compare a [op] [b] pos) (tCmp f ma mb) := fun G T Wx X hG ok => by
  refine (pt_cmpR (ho X G ok.eK ok.units) (ha G T Wx X hG ok) (hb G T Wx X hG ok) hm).weak fun σ H Q ⟨ρ, δ, S, he, hs, q⟩ => ?_
  refine ⟨ρ, δ, S, he, hs, (okR.then q).mono fun w S1 H1 ρ1 f1 st1 p v r fs => ?_⟩
  refine ⟨ρ1, δ, S1, he.fr f1, st1, (okR.then p).mono fun w2 S2 H2 ρ2 f2 st2 p2 v2 r2 fs2 => ?_⟩
  split at p2
  · rename_i b e
    exact ⟨ρ2, S2, w, w2, b, st2, r.fr f2, r2, e, b, rfl, p2 H2 ρ2 (Fr.refl _ _) st2⟩
  · exact p2.elim
theorem CmpOk.ints {fn : Value → Value → Sem Value} {f : C2} {g : Int → Int → Bool} (hf : ∀ x y S b, f x y S = some b → ∃ i j, x = .val (.int i) ∧ y = .val (.int j) ∧ b = g i j)
    (ho : ∀ X, OpR X fn (fun x y H Q => ∃ i j, x = .int i ∧ y = .int j ∧ Q (.bl (g i j)) H)) : CmpOk fn f := fun X G eK hu pins s σ H x y v u Q I rx ry ⟨ρ, S, wx, wy, b, st, r1, r2, e, q⟩ => by
  obtain ⟨i, j, rfl, rfl, rfl⟩ := hf _ _ _ _ e
  cases r1; cases r2
  exact ho X pins s σ H _ _ v u Q I rx ry ⟨i, j, rfl, rfl, q⟩
theorem ok_lt : CmpOk (compareOp .Lt) cLt := fun X G eK hu pins s σ H x y v u Q I rx ry ⟨ρ, S, wx, wy, w, st, r1, r2, e, q⟩ => by
  unfold cLt at e
  split at e
  · cases e; cases r1; cases r2
    exact op_lt pins s σ H _ _ v u Q I rx ry ⟨_, _, rfl, rfl, q⟩
  · cases e; cases r1; cases r2
    exact op_lt_str pins s σ H _ _ v u Q I rx ry ⟨_, _, rfl, rfl, q⟩
  · cases e
theorem ok_le : CmpOk (compareOp .LtE) cLe := .ints (g := fun i j => decide (i ≤ j)) (fun x y S w e => by
  unfold cLe at e
  split at e <;> cases e
  exact ⟨_, _, rfl, rfl, rfl⟩) fun X => op_le
theorem ok_gt : CmpOk (compareOp .Gt) cGt := .ints (g := fun i j => decide (j < i)) (fun x y S w e => by
  unfold cGt at e
  split at e <;> cases e
  exact ⟨_, _, rfl, rfl, rfl⟩) fun X => op_gt
theorem ok_ge : CmpOk (compareOp .GtE) cGe := .ints (g := fun i j => decide (j ≤ i)) (fun x y S w e => by
  unfold cGe at e
  split at e <;> cases e
  exact ⟨_, _, rfl, rfl, rfl⟩) fun X => op_ge
/-! ### == -/
mutual
theorem D.enc_rep : ∀ {d : D} {p : PyData} {v : V}, d.enc = some p → Rep G H ρ d v → Dp G.K H v p
  | .non, p, v, e, r => by cases e; cases r; exact .non
  | .bl b, p, v, e, r => by cases e; cases r; exact .bl b
  | .int b, p, v, e, r => by cases e; cases r; exact .int b
  | .str b, p, v, e, r => by cases e; cases r; exact .str b
  | .tup ds, p, v, e, r => by
    unfold D.enc at e
    split at e
    · rename_i es h
      cases e
      cases r with
      | tup t l => exact .tup t.sq (encL_rep h l)
    · cases e
  | .frz ds, p, v, e, r => by cases e
  | .fdc _ _, p, v, e, r => by cases e
  | .scr _, p, v, e, r => by cases e
  | .loc _, p, v, e, r => by cases e
  | .cls _, p, v, e, r => by cases e
  | .ty _, p, v, e, r => by cases e
  | .exn _ _, p, v, e, r => by cases e
theorem encL_rep : ∀ {ds : List D} {ps : List PyData} {vs : List V}, encL ds = some ps → RepL G H ρ ds vs → DpAll G.K H vs ps
  | [], ps, vs, e, r => by cases e; cases r; exact .nil
  | d :: ds, ps, vs, e, r => by
    unfold encL at e
    split at e
    · rename_i p ps' h1 h2
      cases e
      cases r with
      | cons r l => exact .cons (D.enc_rep h1 r) (encL_rep h2 l)
    · cases e
end
theorem W.enc_rep {w : W} {p : PyData} {v : V} (e : w.enc S = some p) (st : StOk G H ρ S) (r : RepW G H ρ w v) : Dp G.K H v p := by
  unfold W.enc at e
  split at e
  · split at e
    · rename_i ds h
      split at e
      · rename_i es h2
        cases e
        obtain ⟨a, xs, rfl, hs, l⟩ := W.lq_rep h st r
        exact .lst hs (encL_rep h2 l)
      · cases e
    · cases e
  · exact D.enc_rep e r
  · split at e
    · rename_i ds h
      split at e
      · rename_i es h2
        cases e
        obtain ⟨a, xs, rfl, hs, l⟩ := W.lq_rep h st r
        exact .lst hs (encL_rep h2 l)
      · cases e
    · cases e
theorem eqW_rep {wx wy : W} {x y : V} {b : Bool} (e : eqW wx wy S = some b) (st : StOk G H ρ S) (r1 : RepW G H ρ wx x) (r2 : RepW G H ρ wy y) :
    (∃ d e, Dp G.K H x d ∧ Dp G.K H y e ∧ SeqAt.shaped d = true ∧ SeqAt.shaped e = true ∧ PyData.eqv d e = b) ∨ (scal x y = true ∧ decide (x = y) = b) := by
  unfold eqW at e
  split at e
  · cases e; cases r1; cases r2
    exact .inr ⟨rfl, by rw [dec_int]; simp [Bool.beq_eq_decide_eq]⟩
  · cases e; cases r1; cases r2
    refine .inr ⟨rfl, ?_⟩
    simp
  · cases e; cases r1; cases r2
    refine .inr ⟨rfl, ?_⟩
    simp
  · split at e
    · rename_i d f h1 h2
      split at e
      · rename_i h
        cases e
        exact .inl ⟨d, f, W.enc_rep h1 st r1, W.enc_rep h2 st r2, h.1, h.2, rfl⟩
      · cases e
    · cases e
theorem ok_eq : CmpOk (compareOp .Eq) eqW := fun X G eK hu pins s σ H x y v u Q I rx ry ⟨ρ, S, wx, wy, b, st, r1, r2, h, q⟩ => by
  rcases eqW_rep h st r1 r2 with ⟨d, f, h1, h2, h3, h4, rfl⟩ | ⟨h1, rfl⟩
  · exact op_eqD hu pins s σ H _ _ v u Q I rx ry ⟨d, f, by rw [eK]; exact h1, by rw [eK]; exact h2, h3, h4, q⟩
  · exact op_eq pins s σ H _ _ v u Q I rx ry ⟨h1, q⟩
theorem not_some {f : C2} {x y : W} {b : Bool} (e : cNot f x y S = some b) : ∃ c, f x y S = some c ∧ b = !c := by
  unfold cNot at e
  split at e
  · cases e; exact ⟨_, by assumption, rfl⟩
  · cases e
theorem ok_ne : CmpOk (compareOp .NotEq) (cNot eqW) := fun X G eK hu pins s σ H x y v u Q I rx ry ⟨ρ, S, wx, wy, b, st, r1, r2, h, q⟩ => by
  obtain ⟨c, h', rfl⟩ := not_some h
  rcases eqW_rep h' st r1 r2 with ⟨d, f, h1, h2, h3, h4, rfl⟩ | ⟨h1, rfl⟩
  · exact op_neD hu pins s σ H _ _ v u Q I rx ry ⟨d, f, by rw [eK]; exact h1, by rw [eK]; exact h2, h3, h4, q⟩
  · exact op_ne pins s σ H _ _ v u Q I rx ry ⟨h1, q⟩
theorem isNone_rep {w : W} {v : V} (r : RepW G H ρ w v) : decide (v = .non) = isNone w := by
  cases w with
  | tmp o => obtain ⟨a, rfl, _⟩ := r; rfl
  | val d => cases r <;> rfl
/-! ### in -/
theorem flat_rep : ∀ {d : D} {v : V}, Rep G H ρ d v → flatV v = d.flat
  | _, _, .non => rfl
  | _, _, .bl _ => rfl
  | _, _, .int _ => rfl
  | _, _, .str _ => rfl
  | _, _, .tup _ _ => rfl
  | _, _, .frz _ _ => rfl
  | _, _, .fdc _ _ _ => rfl
  | _, _, .scr _ _ => rfl
  | _, _, .loc _ => rfl
  | _, _, .cls _ => rfl
  | _, _, .ty _ => rfl
theorem flats_rep : ∀ {ds : List D} {vs : List V}, RepL G H ρ ds vs → vs.all flatV = ds.all D.flat
  | _, _, .nil => rfl
  | _, _, .cons r t => by
    rw [List.all_cons, List.all_cons, flat_rep r, flats_rep t]
theorem eqD_rep {d e : D} {x y : V} (r : Rep G H ρ d x) (q : Rep G H ρ e y) (f : d.flat = true) (g : e.flat = true) : eqV x y = eqD d e := by
  cases r <;> first
    | (exfalso; revert f; simp [D.flat]; done)
    | (cases q <;> first
        | rfl
        | (exfalso; revert g; simp [D.flat]; done))
theorem inD_rep {d : D} {x : V} (r : Rep G H ρ d x) (f : d.flat = true) : ∀ {ds : List D} {vs : List V}, RepL G H ρ ds vs → ds.all D.flat = true → inV x vs = inD d ds
  | _, _, .nil, _ => rfl
  | _, _, .cons (d := e) (ds := es) q t, h => by
    rw [List.all_cons] at h
    have h := Bool.and_eq_true_iff.mp h
    unfold inV inD
    rw [List.any_cons, List.any_cons, eqD_rep q r h.1 f]
    have := inD_rep r f t h.2
    unfold inV inD at this
    rw [this]
theorem key_rep {d : D} {k : Key} {v : V} (e : d.key = some k) (r : Rep G H ρ d v) : v = kV k := by
  cases r <;> cases e <;> rfl
theorem hasK_rep {k : Key} : ∀ {ds : List (Key × D)} {vs : List (Key × V)}, RepK G H ρ ds vs → (valV vs k).isSome = ds.any fun p => decide (p.1 = k)
  | _, _, .nil => rfl
  | _, _, .cons (k := j) (ds := es) (vs := us) r t => by
    have := hasK_rep (k := k) t
    unfold valV at this ⊢
    rw [List.find?_cons, List.any_cons]
    by_cases h : j = k
    · simp [h]
    · simp only [h, decide_false, Bool.false_or]
      exact this
theorem ok_isN : CmpOk (compareOp .Is) cIsN := fun X G eK hu pins s σ H x y v u Q I rx ry ⟨ρ, S, wx, wy, b, st, r1, r2, h, q⟩ => by
  unfold cIsN at h
  split at h
  · cases h; cases r2
    exact op_isN pins s σ H _ _ v u Q I rx ry ⟨rfl, by rw [isNone_rep r1]; exact q⟩
  · cases h
theorem ok_notN : CmpOk (compareOp .IsNot) (cNot cIsN) := fun X G eK hu pins s σ H x y v u Q I rx ry ⟨ρ, S, wx, wy, b, st, r1, r2, h, q⟩ => by
  obtain ⟨c, h', rfl⟩ := not_some h
  unfold cIsN at h'
  split at h'
  · cases h'; cases r2
    exact op_notN pins s σ H _ _ v u Q I rx ry ⟨rfl, by rw [isNone_rep r1]; exact q⟩
  · cases h'
/-- a place in a dict -/
theorem dget_rep {kvs : List (Key × D)} {a : Addr} {xs : List (Key × V)} {d : D} {k : Key} {v : V} (h : Rd H a (.dK xs)) (hk : d.key = some k) (r : Rep G H ρ d v) : DGet H a v (valV xs k) := by
  rw [key_rep hk r]
  exact .inl ⟨_, _, h, rfl, rfl⟩
theorem in_cases {wx wy : W} {x y : V} {b : Bool} (e : inW wx wy S = some b) (st : StOk G H ρ S) (r1 : RepW G H ρ wx x) (r2 : RepW G H ρ wy y) :
    (∃ i j, x = .str i ∧ y = .str j ∧ b = !(Builtin.Str.occurrences j i 0 j.length 1).isEmpty) ∨
    (∃ a o, y = .ref a ∧ DGet H a x o ∧ b = o.isSome) ∨
    (∃ p xs, y = .ref p ∧ (SqL G.K H p xs ∨ SqT G.K H p xs) ∧ flatV x = true ∧ xs.all flatV = true ∧ b = inV x xs) := by
  unfold inW at e
  split at e
  · cases e; cases r1; cases r2
    exact .inl ⟨_, _, rfl, rfl, rfl⟩
  · split at e
    · rename_i kvs hd
      split at e
      · rename_i k hk
        cases e
        obtain ⟨a, xs, rfl, h1, h2⟩ := W.dq_rep hd st r2
        exact .inr (.inl ⟨a, _, rfl, dget_rep (kvs := kvs) h1 hk r1, (hasK_rep h2).symm⟩)
      · cases e
    · split at e
      · rename_i ds hs
        split at e
        · rename_i hf
          cases e
          have hf := Bool.and_eq_true_iff.mp hf
          have any : W.any S _ = some ds := hs
          obtain ⟨a, xs, rfl, h1, h2⟩ := W.any_rep any st r2
          exact .inr (.inr ⟨a, xs, rfl, h1, by rw [flat_rep r1]; exact hf.1, by rw [flats_rep h2]; exact hf.2, (inD_rep r1 hf.1 h2 hf.2).symm⟩)
        · cases e
      · cases e
  · cases e
theorem hu1 {X : Cx} (hu : X.A.units + 64 < cLine) : X.A.units + 1 < cLine := Nat.lt_of_le_of_lt (by omega) hu
theorem ok_in : CmpOk (compareOp .In) inW := fun X G eK hu pins s σ H x y v u Q I rx ry ⟨ρ, S, wx, wy, b, st, r1, r2, h, q⟩ => by
  rcases in_cases h st r1 r2 with ⟨i, j, rfl, rfl, rfl⟩ | ⟨a, o, rfl, g, rfl⟩ | ⟨p, xs, rfl, h1, h2, h3, rfl⟩
  · exact op_in_str pins s σ H _ _ v u Q I rx ry ⟨_, _, rfl, rfl, q⟩
  · cases ry
    exact d_in (hu1 hu) I g rx fun s3 I3 => ⟨.bl o.isSome, H, I3, rfl, q⟩
  · exact op_in_seq pins s σ H _ _ v u Q I rx ry ⟨p, xs, rfl, by rw [eK]; exact h1, h2, h3, q⟩
theorem ok_notIn : CmpOk (compareOp .NotIn) (cNot inW) := fun X G eK hu pins s σ H x y v u Q I rx ry ⟨ρ, S, wx, wy, b, st, r1, r2, h, q⟩ => by
  obtain ⟨c, h', rfl⟩ := not_some h
  rcases in_cases h' st r1 r2 with ⟨i, j, rfl, rfl, rfl⟩ | ⟨a, o, rfl, g, rfl⟩ | ⟨p, xs, rfl, h1, h2, h3, rfl⟩
  · exact op_notin_str pins s σ H _ _ v u Q I rx ry ⟨_, _, rfl, rfl, q⟩
  · cases ry
    exact d_notIn (hu1 hu) I g rx fun s3 I3 => ⟨.bl (!o.isSome), H, I3, rfl, q⟩
  · exact op_notIn_seq pins s σ H _ _ v u Q I rx ry ⟨p, xs, rfl, by rw [eK]; exact h1, h2, h3, q⟩
end
end MM
set_option maxRecDepth 100000
set_option maxHeartbeats 2000000
/-! MM, part E: items, slices, built-ins, tests. -/
namespace MM
open PySem PySem.Spec L2
open PyProof.Rows (subscriptTail)
section
variable {cl : Bool} {I : Info} {N : List Str} {sc : Scope} {G : Gc} {T : FT} {Wx : WX} {H : Hp} {ρ : List Addr} {δ : Env} {S : Sto} {σ : L2.St}
/-! ### items -/
theorem atI_rep {ds : List D} {xs : List V} {i : Int} {d : D} (l : RepL G H ρ ds xs) (e : atI ds i = some d) : ∃ v, atI xs i = some v ∧ Rep G H ρ d v := by
  unfold atI at e ⊢
  rw [← l.length]
  cases h : ixN ds.length i with
  | none => rw [h] at e; cases e
  | some j =>
    rw [h] at e
    exact l.get e
theorem look_rep {k : Key} {d : D} : ∀ {ds : List (Key × D)} {vs : List (Key × V)}, RepK G H ρ ds vs → look k ds = some d → ∃ v, valV vs k = some v ∧ Rep G H ρ d v
  | _, _, .nil, e => by cases e
  | _, _, .cons (k := j) r t, e => by
    unfold look at e
    unfold valV
    rw [List.find?_cons]
    by_cases h : j = k
    · rw [if_pos h] at e
      cases e
      simp only [h, decide_true]
      exact ⟨_, rfl, r⟩
    · rw [if_neg h] at e
      simp only [h, decide_false]
      exact look_rep t e
theorem ix_dict {X : Cx} (hu : X.A.units + 1 < cLine) : IxR X (fun x y H Q => ∃ a v, x = .ref a ∧ DGet H a y (some v) ∧ Q v H) := by
  intro value slice pins s σ H x y o i Q I rx ry ⟨a, z, e, g, q⟩ hs
  subst e
  obtain rfl : o = Value.ref a := rx
  have hT := dict_typeIs I g
  unfold subscriptTail
  refine wpAny_bind ?_
  rw [getitemInPython_of_ne hT.not_modules]
  refine wpAny_bind (wpAny_specialOf hT PySem.F.slot_dict_getitem.lookup ?_)
  have fin : wpAny (model X.prog X.w) X.A (subscripted slice false (.ref a) i) (fun r s₃ => wpAny (model X.prog X.w) X.A (letTemporaryGo value (.ref a) r >>= fun _ => pure r) (EP X pins σ Q) X.xe s₃) X.xe s := by
    rw [hs]
    exact wpAny_operating (d_getItem hu I g ry fun w' s3 I3 rw' => wpAny_bind (wpAny_letTemporaryGo (wpAny_pure ⟨z, H, I3, rw', q⟩)))
  first
    | exact wpAny_pure (wpAny_bind fin)
    | exact wpAny_bind (wpAny_pure (wpAny_bind fin))
    | exact wpAny_bind fin
theorem ix_all {X : Cx} (eK : X.K = G.K) (hu : X.A.units + 64 < cLine) : IxR X (rB G bIx) := by
  intro value slice pins s σ H x y v u Q I rx ry ⟨ρ, S, wx, wy, w, st, r1, r2, e, q⟩ hsl
  unfold bIx at e
  split at e
  · split at e
    · rename_i hl
      obtain ⟨c, h, e⟩ := Option.map_eq_some_iff.mp e
      · cases e
        cases r1; cases r2
        exact ix_str value slice pins s σ H _ _ v u Q I rx ry ⟨_, _, c, rfl, rfl, hl, h, q H ρ _ (Fr.refl _ _) st (.str _) True.intro⟩ hsl
    · cases e
  · obtain ⟨d, h, e⟩ := Option.map_eq_some_iff.mp e
    · cases e
      cases r2
      cases r1 with
      | tup t l =>
        obtain ⟨v', h1, h2⟩ := atI_rep l h
        exact ix_tup value slice pins s σ H _ _ v u Q I rx ry ⟨_, _, _, v', rfl, rfl, by rw [eK]; exact t.sq, h1, q H ρ _ (Fr.refl _ _) st h2 True.intro⟩ hsl
  · split at e
    · rename_i ds hd
      split at e
      · obtain ⟨d, h, e⟩ := Option.map_eq_some_iff.mp e
        · cases e
          cases r2
          obtain ⟨a, xs, rfl, hs, l⟩ := W.lq_rep hd st r1
          obtain ⟨v', h1, h2⟩ := atI_rep l h
          exact ix_list value slice pins s σ H _ _ v u Q I rx ry ⟨_, _, _, v', rfl, rfl, by rw [eK]; exact hs, h1, q H ρ _ (Fr.refl _ _) st h2 True.intro⟩ hsl
      · cases e
    · split at e
      · rename_i kvs k hd hk
        cases h : look k kvs with
        | none => rw [h] at e; cases e
        | some d =>
          rw [h] at e
          cases e
          obtain ⟨a, xs, rfl, h1, l⟩ := W.dq_rep hd st r1
          obtain ⟨v', h2, h3⟩ := look_rep l h
          have g := dget_rep (kvs := kvs) h1 hk r2
          rw [h2] at g
          exact ix_dict (hu1 hu) value slice pins s σ H _ _ v u Q I rx ry ⟨a, v', rfl, g, q H ρ _ (Fr.refl _ _) st h3 True.intro⟩ hsl
      · cases e
  · cases e
theorem sim_ix {a b : Expr} {ma mb : ME} {pos} (ha : SimE cl I N sc a ma) (hb : SimE cl I N sc b mb) (hs : PlainIx b := by exact fun _ _ => rfl) : SimE cl I N sc (.Subscript a b pos) (eBin bIx ma mb) := fun G T Wx X hG ok =>
  (pe_ix (ix_all ok.eK ok.units) (ha G T Wx X hG ok) (hb G T Wx X hG ok) hs).weak fun σ H Q ⟨ρ, δ, S, he, hs, q⟩ => rB_of he hs q

/-! ### slices -/
theorem cut_rep {ds : List D} {xs : List V} (l : RepL G H ρ ds xs) (lo hi : Option Int) : RepL G H ρ (cut ds lo hi) (cutV xs lo hi) := by
  unfold cut cutV
  rw [l.length]
  exact (l.drop _).take _
theorem sl_all {X : Cx} (eK : X.K = G.K) : SlR X (fun x lo hi H Q => ∃ ρ S wx w, StOk G H ρ S ∧ RepW G H ρ wx x ∧ slW wx lo hi S = some w ∧
    ∀ H' ρ' v, Fr H ρ H' ρ' → StOk G H' ρ' S → RepW G H' ρ' w v → Fresh H w v → Q v H') := by
  intro pins s σ H x v vl vu lo hi sl Q I rx hs pl pu ⟨ρ, S, wx, w, st, r1, e, q⟩
  unfold slW at e
  split at e
  · rename_i ds
    cases e
    cases r1 with
    | tup t l =>
      refine sl_tupA pins s σ H _ v vl vu lo hi sl Q I rx hs pl pu ⟨_, _, rfl, by rw [eK]; exact t.sq, fun h => ?_, fun h p hp => tup_new st (cut_rep l lo hi) hp q⟩
      have ec : cut ds lo hi = ds := by
        unfold cut
        rw [l.length, h.1, h.2, List.drop_zero, Nat.sub_zero, ← l.length]
        exact List.take_length
      rw [ec] at q
      exact q H ρ _ (Fr.refl _ _) st (.tup t l) True.intro
  · split at e
    · rename_i hl
      cases e
      cases r1
      exact sl_str pins s σ H _ v vl vu lo hi sl Q I rx hs pl pu ⟨_, rfl, hl, q H ρ _ (Fr.refl _ _) st (.str _) True.intro⟩
    · cases e
  · split at e
    · rename_i ds hd
      cases e
      obtain ⟨a, xs, rfl, h1, l⟩ := W.lq_rep hd st r1
      exact sl_list pins s σ H _ v vl vu lo hi sl Q I rx hs pl pu ⟨_, _, rfl, by rw [eK]; exact h1, fun p hp => tmp_new st (cut_rep l lo hi) hp q⟩
    · cases e
/-- a slice's part -/
def SimO (cl : Bool) (I : Info) (N : List Str) (sc : Scope) (e : Option Expr) (m : Option ME) : Prop := ∀ G T Wx X, GOk I G → XOk0 cl I G T N sc Wx X →
  PO X e (fun σ H Q => ∃ ρ δ S, EnvRep G H ρ δ σ ∧ StOk G H ρ S ∧ okR G H ρ Wx σ (fun l _ H' _ => Q l H') (match m with
    | none => R.ok none S
    | some e => (e T δ S).then fun i S2 => match i with
      | .val (.int i) => .ok (some i) S2
      | _ => .bad))
theorem _root_.L2.PO.weak {X : Cx} {e : Option Expr} {t t' : TO} (h : PO X e t) (f : ∀ σ H Q, t' σ H Q → t σ H Q) : PO X e t' := ⟨fun pins s σ H Q I q => h.run pins s σ H Q I (f σ H Q q)⟩
theorem simo_none : SimO cl I N sc none none := fun G T Wx X hG ok => po_none.weak fun σ H Q ⟨ρ, δ, S, he, hs, q⟩ => q H ρ (Fr.refl _ _) hs
theorem simo_some {e : Expr} {m : ME} (h : SimE cl I N sc e m) : SimO cl I N sc (some e) (some m) := fun G T Wx X hG ok => by
  refine (po_some (h G T Wx X hG ok)).weak fun σ H Q ⟨ρ, δ, S, he, hs, q⟩ => ?_
  refine ⟨ρ, δ, S, he, hs, (okR.then q).mono fun w S1 H1 ρ1 f1 st1 p v r fs => ?_⟩
  split at p
  · cases r
    exact ⟨_, rfl, p H1 ρ1 (Fr.refl _ _) st1⟩
  · exact p.elim
theorem sim_sl {a : Expr} {lo hi : Option Expr} {ma : ME} {ml mh : Option ME} {pos p2} (ha : SimE cl I N sc a ma) (hl : SimO cl I N sc lo ml) (hh : SimO cl I N sc hi mh) : SimE cl I N sc (.Subscript a (.Slice lo hi none p2) pos) (eSl ma ml mh) := fun G T Wx X hG ok => by
  refine (pe_slice (sl_all ok.eK) (ha G T Wx X hG ok) (hl G T Wx X hG ok) (hh G T Wx X hG ok)).weak fun σ H Q ⟨ρ, δ, S, he, hs, q⟩ => ?_
  refine ⟨ρ, δ, S, he, hs, (okR.then q).mono fun w S1 H1 ρ1 f1 st1 p v r fs => ?_⟩
  refine ⟨ρ1, δ, S1, he.fr f1, st1, (okR.then p).mono fun l S2 H2 ρ2 f2 st2 p2 => ?_⟩
  refine ⟨ρ2, δ, S2, he.fr (f1.trans f2), st2, (okR.then p2).mono fun h S3 H3 ρ3 f3 st3 p3 => ?_⟩
  split at p3
  · rename_i w3 e
    exact ⟨ρ3, S3, w, w3, st3, r.fr (f2.trans f3), e, fun H' ρ' v3 f4 st4 r4 fs4 => p3 H' ρ' f4 st4 v3 r4 (Fresh.back (f1.trans (f2.trans f3)) st3 fs4)⟩
  · exact p3.elim

/-! ### built-ins of one argument -/
def rU1 (G : Gc) (f : B1) : List V → Hp → VK → Prop := fun xs H Q => ∃ x ρ S wx w, xs = [x] ∧ StOk G H ρ S ∧ RepW G H ρ wx x ∧ f wx S = some w ∧
  ∀ H' ρ' v, Fr H ρ H' ρ' → StOk G H' ρ' S → RepW G H' ρ' w v → Fresh H w v → Q v H'
def U1Ok (fn : Value) (f : B1) : Prop := ∀ (X : Cx) (G : Gc), X.K = G.K → X.A.units + 64 < cLine → X.calm = true → CallR X fn (rU1 G f)
theorem rU_of {f : B1} {a : ME} {Q : VK} (he : EnvRep G H ρ δ σ) (st : StOk G H ρ S) (q : okR G H ρ Wx σ (fun w _ H' ρ' => ∀ v, RepW G H' ρ' w v → Fresh H w v → Q v H') (eUn f a T δ S)) :
    tCB (rU1 G f) (tCons (rdE G T Wx a) tNil) σ H Q := by
  refine ⟨ρ, δ, S, he, st, (okR.then q).mono fun w S1 H1 ρ1 f1 st1 p v r fs => ?_⟩
  split at p
  · rename_i w3 e
    exact ⟨v, ρ1, S1, w, w3, rfl, st1, r, e, fun H' ρ' v3 f3 st3 r3 fs3 => p H' ρ' f3 st3 v3 r3 (Fresh.back f1 st1 fs3)⟩
  · exact p.elim
theorem sim_b1 {id : String} {x : Str} {f : B1} {a : Expr} {ma : ME} {p pos} (j : Nat) (ho : U1Ok (.builtin id) f) (ha : SimE true I N sc a ma) (hj : I.bins[j]? = some x := by rfl) (hg : glob sc x = true := by rfl) (hv : bootBuiltins x = some (.builtin id) := by decide +kernel)
    (hn : x ≠ "__name__" := by decide) (hdb : (x == ("__debug__" : Str)) = false := by decide) (hs : ∀ env, starEach [a] env = [(false, eval a env)] := by intro _; rfl) :
    SimE true I N sc (.Call (.Name x p) [a] [] pos) (eUn f ma) := fun G T Wx X hG ok =>
  (pe_callB (ho X G ok.eK ok.units ok.calm) (ok.gl hg) (by rw [ok.eM]; exact hG.bin j x hj) hv (pa_cons (ha G T Wx X hG ok) pa_nil (hs X.env)) hn hdb (hs X.env)).weak fun σ H Q ⟨ρ, δ, S, he, hs, q⟩ => rU_of he hs q
theorem sim_t1 {id : String} {x : Str} {f : B1} {a : Expr} {ma : ME} {p pos} (j : Nat) (ho : U1Ok (.type id) f) (ha : SimE true I N sc a ma) (hj : I.bins[j]? = some x := by rfl) (hg : glob sc x = true := by rfl) (hv : bootBuiltins x = some (.type id) := by decide +kernel)
    (hn : x ≠ "__name__" := by decide) (hdb : (x == ("__debug__" : Str)) = false := by decide) (hs : ∀ env, starEach [a] env = [(false, eval a env)] := by intro _; rfl) :
    SimE true I N sc (.Call (.Name x p) [a] [] pos) (eUn f ma) := fun G T Wx X hG ok =>
  (pe_callTy (ho X G ok.eK ok.units ok.calm) (ok.gl hg) (by rw [ok.eM]; exact hG.bin j x hj) hv (pa_cons (ha G T Wx X hG ok) pa_nil (hs X.env)) hn hdb (hs X.env)).weak fun σ H Q ⟨ρ, δ, S, he, hs, q⟩ => rU_of he hs q
theorem W.any_len {w : W} {ds : List D} {v : V} (e : w.any S = some ds) (st : StOk G H ρ S) (r : RepW G H ρ w v) : LenV G.K v H ds.length := by
  obtain ⟨a, xs, rfl, h1, l⟩ := W.any_rep e st r
  rw [l.length]
  rcases h1 with h1 | h1
  · exact .inl ⟨xs, h1, rfl⟩
  · exact .inr ⟨xs, h1, rfl⟩
theorem RepK.length : ∀ {ds : List (Key × D)} {vs : List (Key × V)}, RepK G H ρ ds vs → ds.length = vs.length
  | _, _, .nil => rfl
  | _, _, .cons _ t => by rw [List.length_cons, List.length_cons, RepK.length t]
theorem ok_len : U1Ok (.builtin "len") uLen := fun X G eK hu hc pins s σ H xs us Q I rs ⟨x, ρ, S, wx, w, ex, st, r1, e, q⟩ => by
  subst ex
  unfold uLen at e
  split at e
  · split at e
    · rename_i hl
      cases e; cases r1
      exact call_len pins s σ H _ us Q I rs ⟨_, _, rfl, ⟨hl, rfl⟩, q H ρ _ (Fr.refl _ _) st (.int _) True.intro⟩
    · cases e
  · split at e
    · rename_i ds hd
      cases e
      exact call_len pins s σ H _ us Q I rs ⟨_, _, rfl, by rw [eK]; exact W.any_len hd st r1, q H ρ _ (Fr.refl _ _) st (.int _) True.intro⟩
    · cases h : W.dm S _ with
      | none => rw [h] at e; cases e
      | some kvs =>
        rw [h] at e
        cases e
        obtain ⟨a, kx, rfl, h1, l⟩ := W.dm_rep h st r1
        exact call_lenD pins s σ H _ us Q I rs ⟨a, kx, rfl, h1, by rw [← l.length]; exact q H ρ _ (Fr.refl _ _) st (.int _) True.intro⟩
theorem ok_abs : U1Ok (.builtin "abs") uAbs := fun X G eK hu hc pins s σ H xs us Q I rs ⟨x, ρ, S, wx, w, ex, st, r1, e, q⟩ => by
  subst ex
  unfold uAbs at e
  split at e <;> cases e
  cases r1
  exact call_abs pins s σ H _ us Q I rs ⟨_, rfl, q H ρ _ (Fr.refl _ _) st (.int _) True.intro⟩
theorem ok_int : U1Ok (.type "int") uInt := fun X G eK hu hc pins s σ H xs us Q I rs ⟨x, ρ, S, wx, w, ex, st, r1, e, q⟩ => by
  subst ex
  unfold uInt at e
  split at e <;> cases e <;> cases r1
  · exact call_int1 pins s σ H _ us Q I rs (.inl ⟨_, rfl, q H ρ _ (Fr.refl _ _) st (.int _) True.intro⟩)
  · exact call_int1 pins s σ H _ us Q I rs (.inr ⟨_, rfl, q H ρ _ (Fr.refl _ _) st (.int _) True.intro⟩)
theorem ok_str : U1Ok (.type "str") uStr := fun X G eK hu hc pins s σ H xs us Q I rs ⟨x, ρ, S, wx, w, ex, st, r1, e, q⟩ => by
  subst ex
  unfold uStr at e
  split at e
  · split at e
    · rename_i hl
      cases e; cases r1
      exact call_str_int pins s σ H _ us Q I rs ⟨_, rfl, hl, q H ρ _ (Fr.refl _ _) st (.str _) True.intro⟩
    · cases e
  · cases e; cases r1
    exact SkE.call_str_str pins s σ H _ us Q I rs ⟨_, rfl, q H ρ _ (Fr.refl _ _) st (.str _) True.intro⟩
  · cases e
theorem ok_tuple : U1Ok (.type "tuple") uTuple := fun X G eK hu hc pins s σ H xs us Q I rs ⟨x, ρ, S, wx, w, ex, st, r1, e, q⟩ => by
  subst ex
  unfold uTuple at e
  cases h : W.any S wx with
  | none => rw [h] at e; cases e
  | some ds =>
    rw [h] at e
    cases e
    unfold W.any at h
    split at h
    · rename_i ds' e'
      cases h
      obtain ⟨a, ys, rfl, h1, l⟩ := W.tq_rep e' r1
      exact call_tupleT pins s σ H _ us Q I rs ⟨_, _, rfl, by rw [eK]; exact h1.sq, q H ρ _ (Fr.refl _ _) st (.tup h1 l) True.intro⟩
    · obtain ⟨a, ys, rfl, h1, l⟩ := W.lq_rep h st r1
      exact call_tuple_of pins s σ H _ us Q I rs ⟨_, _, rfl, .inl ⟨by rw [eK]; exact h1, fun p hp => tup_new st l hp q⟩⟩
theorem ok_list : U1Ok (.type "list") uList := fun X G eK hu hc pins s σ H xs us Q I rs ⟨x, ρ, S, wx, w, ex, st, r1, e, q⟩ => by
  subst ex
  unfold uList at e
  cases h : W.any S wx with
  | none => rw [h] at e; cases e
  | some ds =>
    rw [h] at e
    cases e
    obtain ⟨a, ys, rfl, h1, l⟩ := W.any_rep h st r1
    exact call_list_of pins s σ H _ us Q I rs ⟨_, _, rfl, by rw [eK]; exact h1, fun p hp => tmp_new st l hp q⟩
theorem allInts_rep : ∀ {ds : List D} {vs : List V} {ns : List Int}, allInts ds = some ns → RepL G H ρ ds vs → vs = ns.map V.int
  | [], _, _, e, r => by cases e; cases r; rfl
  | d :: ds, _, ns, e, r => by
    cases r with
    | cons r t =>
      unfold allInts at e
      split at e
      · rename_i h; cases h
      · rename_i i r' h
        cases h
        cases r
        cases h2 : allInts ds with
        | none => rw [h2] at e; cases e
        | some ms =>
          rw [h2] at e
          cases e
          rw [allInts_rep h2 t]; rfl
      · cases e
theorem allBools_rep : ∀ {ds : List D} {vs : List V} {ns : List Bool}, allBools ds = some ns → RepL G H ρ ds vs → vs = ns.map V.bl
  | [], _, _, e, r => by cases e; cases r; rfl
  | d :: ds, _, ns, e, r => by
    cases r with
    | cons r t =>
      unfold allBools at e
      split at e
      · rename_i h; cases h
      · rename_i i r' h
        cases h
        cases r
        cases h2 : allBools ds with
        | none => rw [h2] at e; cases e
        | some ms =>
          rw [h2] at e
          cases e
          rw [allBools_rep h2 t]; rfl
      · cases e
theorem allStrs_rep : ∀ {ds : List D} {vs : List V} {ns : List Str}, allStrs ds = some ns → RepL G H ρ ds vs → vs = ns.map V.str
  | [], _, _, e, r => by cases e; cases r; rfl
  | d :: ds, _, ns, e, r => by
    cases r with
    | cons r t =>
      unfold allStrs at e
      split at e
      · rename_i h; cases h
      · rename_i i r' h
        cases h
        cases r
        cases h2 : allStrs ds with
        | none => rw [h2] at e; cases e
        | some ms =>
          rw [h2] at e
          cases e
          rw [allStrs_rep h2 t]; rfl
      · cases e
theorem ok_sum : U1Ok (.builtin "sum") uSum := fun X G eK hu hc pins s σ H xs us Q I rs ⟨x, ρ, S, wx, w, ex, st, r1, e, q⟩ => by
  subst ex
  unfold uSum at e
  split at e
  · rename_i ds h
    cases h2 : allInts ds with
    | none => rw [h2] at e; cases e
    | some ns =>
      rw [h2] at e
      cases e
      obtain ⟨a, ys, rfl, h1, l⟩ := W.lq_rep h st r1
      exact cr_sum hc pins s σ H _ us Q I rs ⟨_, ns, rfl, by rw [eK, ← allInts_rep h2 l]; exact h1, q H ρ _ (Fr.refl _ _) st (.int _) True.intro⟩
  · cases e
theorem maxI_ok : ∀ {ns : List Int} {m : Int}, maxI ns = some m → m ∈ ns ∧ ∀ y ∈ ns, y ≤ m
  | [], _, e => by cases e
  | [i], m, e => by cases e; simp
  | i :: j :: r, m, e => by
    unfold maxI at e
    cases h : maxI (j :: r) with
    | none => rw [h] at e; cases e
    | some k =>
      rw [h] at e
      have ih := maxI_ok h
      simp only [Option.map_some, Option.some.injEq] at e
      constructor
      · split at e
        · subst e; exact List.mem_cons_of_mem _ ih.1
        · subst e; exact List.mem_cons_self
      · intro y hy
        rcases List.mem_cons.mp hy with z | z
        · split at e <;> omega
        · have := ih.2 y z
          split at e <;> omega
theorem minI_ok : ∀ {ns : List Int} {m : Int}, minI ns = some m → m ∈ ns ∧ ∀ y ∈ ns, m ≤ y
  | [], _, e => by cases e
  | [i], m, e => by cases e; simp
  | i :: j :: r, m, e => by
    unfold minI at e
    cases h : minI (j :: r) with
    | none => rw [h] at e; cases e
    | some k =>
      rw [h] at e
      have ih := minI_ok h
      simp only [Option.map_some, Option.some.injEq] at e
      constructor
      · split at e
        · subst e; exact List.mem_cons_of_mem _ ih.1
        · subst e; exact List.mem_cons_self
      · intro y hy
        rcases List.mem_cons.mp hy with z | z
        · split at e <;> omega
        · have := ih.2 y z
          split at e <;> omega
theorem ok_max : U1Ok (.builtin "max") uMax := fun X G eK hu hc pins s σ H xs us Q I rs ⟨x, ρ, S, wx, w, ex, st, r1, e, q⟩ => by
  subst ex
  unfold uMax at e
  split at e
  · rename_i ds h
    split at e
    · rename_i ns h2
      cases h3 : maxI ns with
      | none => rw [h3] at e; cases e
      | some m =>
        rw [h3] at e
        cases e
        obtain ⟨a, ys, rfl, h1, l⟩ := W.lq_rep h st r1
        have mm := maxI_ok h3
        refine cr_max hc pins s σ H _ us Q I rs ⟨_, ns, rfl, by rw [eK, ← allInts_rep h2 l]; exact h1, List.length_pos_of_mem mm.1, fun k hk hle => ?_⟩
        have : k = m := Int.le_antisymm (mm.2 k hk) (hle m mm.1)
        subst this
        exact q H ρ _ (Fr.refl _ _) st (.int _) True.intro
    · cases e
  · cases e
theorem ok_min : U1Ok (.builtin "min") uMin := fun X G eK hu hc pins s σ H xs us Q I rs ⟨x, ρ, S, wx, w, ex, st, r1, e, q⟩ => by
  subst ex
  unfold uMin at e
  split at e
  · rename_i ds h
    split at e
    · rename_i ns h2
      cases h3 : minI ns with
      | none => rw [h3] at e; cases e
      | some m =>
        rw [h3] at e
        cases e
        obtain ⟨a, ys, rfl, h1, l⟩ := W.lq_rep h st r1
        have mm := minI_ok h3
        refine cr_min hc pins s σ H _ us Q I rs ⟨_, ns, rfl, by rw [eK, ← allInts_rep h2 l]; exact h1, List.length_pos_of_mem mm.1, fun k hk hle => ?_⟩
        have : k = m := Int.le_antisymm (hle m mm.1) (mm.2 k hk)
        subst this
        exact q H ρ _ (Fr.refl _ _) st (.int _) True.intro
    · cases e
  · cases e
theorem sim_neg {a : Expr} {ma : ME} {pos} (ha : SimE cl I N sc a ma) : SimE cl I N sc (.UnaryOp .USub a pos) (eUn uNeg ma) := fun G T Wx X hG ok => by
  refine (pe_un un_neg (ha G T Wx X hG ok)).weak fun σ H Q ⟨ρ, δ, S, he, hs, q⟩ => ?_
  refine ⟨ρ, δ, S, he, hs, (okR.then q).mono fun w S1 H1 ρ1 f1 st1 p v r fs => ?_⟩
  split at p
  · rename_i w3 e
    unfold uNeg at e
    split at e <;> cases e
    cases r
    exact ⟨_, rfl, p H1 ρ1 (Fr.refl _ _) st1 _ (.int _) True.intro⟩
  · exact p.elim
end
end MM
set_option maxRecDepth 100000
set_option maxHeartbeats 2000000
/-! MM, part F: tests, calls, fields. -/
namespace MM
open PySem PySem.Spec L2
section
variable {cl : Bool} {I : Info} {N : List Str} {sc : Scope} {G : Gc} {T : FT} {Wx : WX} {H : Hp} {ρ : List Addr} {δ : Env} {S : Sto} {σ : L2.St}
/-! ### truth -/
theorem truth_rep {w : W} {v : V} {b : Bool} (e : w.truth S = some b) (st : StOk G H ρ S) (r : RepW G H ρ w v) : TruV G.K v H b := by
  unfold W.truth at e
  split at e
  · cases e; cases r; rfl
  · cases e; cases r; rfl
  · cases e; cases r; rfl
  · split at e
    · rename_i h
      cases e; cases r
      refine ⟨h, ?_⟩
      rename_i s _
      rw [Bool.eq_iff_iff]
      simp
    · cases e
  · split at e
    · rename_i ds hd
      cases e
      obtain ⟨a, xs, rfl, h1, l⟩ := W.any_rep hd st r
      have ee : ds.isEmpty = xs.isEmpty := by
        cases l <;> rfl
      rw [ee]
      rcases h1 with h1 | h1
      · exact .inl ⟨xs, h1, rfl⟩
      · exact .inr (.inl ⟨xs, h1, rfl⟩)
    · obtain ⟨kvs, h, e⟩ := Option.map_eq_some_iff.mp e
      cases e
      obtain ⟨a, xs, rfl, h1, l⟩ := W.dm_rep h st r
      refine .inr (.inr ⟨xs, h1, ?_⟩)
      cases l <;> rfl
theorem simt_E {a : Expr} {ma : ME} (ha : SimE cl I N sc a ma) (he : ∀ env whole, isTrue a env whole = (do let v ← whole; standAt a.pos; holding [v] (truthy v)) := by intro _ _; rfl) : SimT cl I N sc a (tE ma) := fun G T Wx X hG ok => by
  refine (pt_truth (ha G T Wx X hG ok) (he X.env)).weak fun σ H Q ⟨ρ, δ, S, he, hs, q⟩ => ?_
  refine ⟨ρ, δ, S, he, hs, (okR.then q).mono fun w S1 H1 ρ1 f1 st1 p v r fs => ?_⟩
  split at p
  · rename_i b e
    exact ⟨b, by rw [ok.eK]; exact truth_rep e st1 r, p H1 ρ1 (Fr.refl _ _) st1⟩
  · exact p.elim
theorem simt_not {a : Expr} {ma : MT} {pos} (ha : SimT cl I N sc a ma) : SimT cl I N sc (.UnaryOp .Not a pos) (tNot ma) := fun G T Wx X hG ok => by
  refine (pt_not (ha G T Wx X hG ok)).weak fun σ H Q ⟨ρ, δ, S, he, hs, q⟩ => ?_
  exact ⟨ρ, δ, S, he, hs, (okR.then q).mono fun w S1 H1 ρ1 f1 st1 p => p H1 ρ1 (Fr.refl _ _) st1⟩
/-- a test in a chain of and, or -/
def SimW (cl : Bool) (I : Info) (N : List Str) (sc : Scope) (e : Expr) (m : MT) : Prop := ∀ G T Wx X, GOk I G → XOk0 cl I G T N sc Wx X → PW X e (rdT G T Wx m)
theorem _root_.L2.PW.weak {X : Cx} {e : Expr} {t t' : TT} (h : PW X e t) (f : ∀ σ H Q, t' σ H Q → t σ H Q) : PW X e t' := ⟨fun whole pins s σ H Q I q => h.run whole pins s σ H Q I (f σ H Q q)⟩
theorem simw_and1 {a : Expr} {ma : MT} {pos} (ha : SimT cl I N sc a ma) : SimW cl I N sc (.BoolOp .And [a] pos) ma := fun G T Wx X hG ok => pw_and1 (ha G T Wx X hG ok)
theorem simw_or1 {a : Expr} {ma : MT} {pos} (ha : SimT cl I N sc a ma) : SimW cl I N sc (.BoolOp .Or [a] pos) ma := fun G T Wx X hG ok => pw_or1 (ha G T Wx X hG ok)
theorem simw_and {a b : Expr} {rest} {ma mb : MT} {pos} (ha : SimT cl I N sc a ma) (hb : SimW cl I N sc (.BoolOp .And (b :: rest) pos) mb) : SimW cl I N sc (.BoolOp .And (a :: b :: rest) pos) (tAnd ma mb) := fun G T Wx X hG ok => by
  refine (pw_and (ha G T Wx X hG ok) (hb G T Wx X hG ok)).weak fun σ H Q ⟨ρ, δ, S, he, hs, q⟩ => ?_
  refine ⟨ρ, δ, S, he, hs, (okR.then q).mono fun c S1 H1 ρ1 f1 st1 p => ?_⟩
  cases c with
  | true => exact iteT ⟨ρ1, δ, S1, he.fr f1, st1, p⟩
  | false => exact iteF (p H1 ρ1 (Fr.refl _ _) st1)
theorem simw_or {a b : Expr} {rest} {ma mb : MT} {pos} (ha : SimT cl I N sc a ma) (hb : SimW cl I N sc (.BoolOp .Or (b :: rest) pos) mb) : SimW cl I N sc (.BoolOp .Or (a :: b :: rest) pos) (tOr ma mb) := fun G T Wx X hG ok => by
  refine (pw_or (ha G T Wx X hG ok) (hb G T Wx X hG ok)).weak fun σ H Q ⟨ρ, δ, S, he, hs, q⟩ => ?_
  refine ⟨ρ, δ, S, he, hs, (okR.then q).mono fun c S1 H1 ρ1 f1 st1 p => ?_⟩
  cases c with
  | true => exact iteT (p H1 ρ1 (Fr.refl _ _) st1)
  | false => exact iteF ⟨ρ1, δ, S1, he.fr f1, st1, p⟩
theorem simt_W {a : Expr} {ma : MT} (ha : SimW cl I N sc a ma) : SimT cl I N sc a ma := fun G T Wx X hG ok => (ha G T Wx X hG ok).pt
theorem sim_if {c a b : Expr} {mc : MT} {ma mb : ME} {pos} (hc : SimT cl I N sc c mc) (ha : SimE cl I N sc a ma) (hb : SimE cl I N sc b mb) : SimE cl I N sc (.IfExp c a b pos) (eIf mc ma mb) := fun G T Wx X hG ok => by
  refine (pe_ifExp (hc G T Wx X hG ok) (ha G T Wx X hG ok) (hb G T Wx X hG ok)).weak fun σ H Q ⟨ρ, δ, S, he, hs, q⟩ => ?_
  refine ⟨ρ, δ, S, he, hs, (okR.then q).mono fun c S1 H1 ρ1 f1 st1 p => ?_⟩
  have p' : ∀ m : ME, okR G H1 ρ1 Wx σ (fun w _ H' ρ' => ∀ v, RepW G H' ρ' w v → Fresh H w v → Q v H') (m T δ S1) → rdE G T Wx m σ H1 Q := fun m p =>
    ⟨ρ1, δ, S1, he.fr f1, st1, p.mono fun w S2 H2 ρ2 f2 st2 p2 v r fs => p2 v r (Fresh.back f1 st1 fs)⟩
  cases c with
  | true => exact iteT (p' ma p)
  | false => exact iteF (p' mb p)
/-- not x, as a value -/
theorem sim_not {a : Expr} {ma : ME} {pos} (ha : SimE cl I N sc a ma) : SimE cl I N sc (.UnaryOp .Not a pos) (eT (tNot (tE ma))) := fun G T Wx X hG ok => by
  refine (pe_notT (ha G T Wx X hG ok)).weak fun σ H Q ⟨ρ, δ, S, he, hs, q⟩ => ?_
  refine ⟨ρ, δ, S, he, hs, (okR.then (okR.then (okR.then q))).mono fun w S1 H1 ρ1 f1 st1 p v r fs => ?_⟩
  split at p
  · rename_i b e
    have p := p H1 ρ1 (Fr.refl _ _) st1 H1 ρ1 (Fr.refl _ _) st1 H1 ρ1 (Fr.refl _ _) st1
    exact ⟨b, by rw [ok.eK]; exact truth_rep e st1 r, p _ (.bl _) True.intro⟩
  · exact p.elim
/-- x and y, x or y, as values -/
theorem sim_one {op} {a : Expr} {ma : ME} {pos} (ha : SimE cl I N sc a ma) : SimE cl I N sc (.BoolOp op [a] pos) ma := fun G T Wx X hG ok => pe_one (ha G T Wx X hG ok)
theorem sim_and {a b : Expr} {rest} {ma mb : ME} {pos} (ha : SimE cl I N sc a ma) (hb : SimE cl I N sc (.BoolOp .And (b :: rest) pos) mb) : SimE cl I N sc (.BoolOp .And (a :: b :: rest) pos) (eAnd ma mb) := fun G T Wx X hG ok => by
  refine (pe_andT (ha G T Wx X hG ok) (hb G T Wx X hG ok)).weak fun σ H Q ⟨ρ, δ, S, he, hs, q⟩ => ?_
  refine ⟨ρ, δ, S, he, hs, (bnd_ok (okR.then q)).mono fun w S1 H1 ρ1 f1 st1 p v r fs => ?_⟩
  obtain ⟨d, S2, ρ2, rd, st2, f2, p⟩ := p v r fs
  split at p
  · rename_i e
    exact ⟨true, by rw [ok.eK]; exact truth_rep (w := .val d) e st2 rd, iteT ⟨ρ2, δ, S2, he.fr f2, st2, p.mono fun w S3 H3 ρ3 f3 st3 p3 v r fs => p3 v r (Fresh.back f2 st2 fs)⟩⟩
  · rename_i e
    exact ⟨false, by rw [ok.eK]; exact truth_rep (w := .val d) e st2 rd, iteF (p H1 ρ2 (Fr.refl _ _) st2 v rd True.intro)⟩
  · exact p.elim
theorem sim_or {a b : Expr} {rest} {ma mb : ME} {pos} (ha : SimE cl I N sc a ma) (hb : SimE cl I N sc (.BoolOp .Or (b :: rest) pos) mb) : SimE cl I N sc (.BoolOp .Or (a :: b :: rest) pos) (eOr ma mb) := fun G T Wx X hG ok => by
  refine (pe_orT (ha G T Wx X hG ok) (hb G T Wx X hG ok)).weak fun σ H Q ⟨ρ, δ, S, he, hs, q⟩ => ?_
  refine ⟨ρ, δ, S, he, hs, (bnd_ok (okR.then q)).mono fun w S1 H1 ρ1 f1 st1 p v r fs => ?_⟩
  obtain ⟨d, S2, ρ2, rd, st2, f2, p⟩ := p v r fs
  split at p
  · rename_i e
    exact ⟨true, by rw [ok.eK]; exact truth_rep (w := .val d) e st2 rd, iteT (p H1 ρ2 (Fr.refl _ _) st2 v rd True.intro)⟩
  · rename_i e
    exact ⟨false, by rw [ok.eK]; exact truth_rep (w := .val d) e st2 rd, iteF ⟨ρ2, δ, S2, he.fr f2, st2, p.mono fun w S3 H3 ρ3 f3 st3 p3 v r fs => p3 v r (Fresh.back f2 st2 fs)⟩⟩
  · exact p.elim
/-- a < b < c -/
theorem simt_chain {op op' : CmpOp} {f g : C2} {a b c : Expr} {ma mb mc : ME} {pos} (ho : CmpOk (compareOp op) f) (ho' : CmpOk (compareOp op') g) (ha : SimE cl I N sc a ma) (hb : SimE cl I N sc b mb) (hc : SimE cl I N sc c mc)
    (hm : lastMarks [op, op'] [b, c] = false := by with_unfolding_all rfl) : SimT cl I N sc (.Compare a [op, op'] [b, c] pos) (tChain f g ma mb mc) := fun G T Wx X hG ok => by
  refine (pt_chain (ho X G ok.eK ok.units) (ho' X G ok.eK ok.units) (ha G T Wx X hG ok) (hb G T Wx X hG ok) (hc G T Wx X hG ok) hm).weak fun σ H Q ⟨ρ, δ, S, he, hs, q⟩ => ?_
  refine ⟨ρ, δ, S, he, hs, (okR.then q).mono fun w S1 H1 ρ1 f1 st1 p v r fs => ?_⟩
  refine ⟨ρ1, δ, S1, he.fr f1, st1, (okR.then p).mono fun w2 S2 H2 ρ2 f2 st2 p2 v2 r2 fs2 => ?_⟩
  split at p2
  · rename_i e
    refine ⟨ρ2, S2, w, w2, true, st2, r.fr f2, r2, e, true, rfl, iteT ?_⟩
    refine ⟨ρ2, δ, S2, he.fr (f1.trans f2), st2, (okR.then p2).mono fun w3 S3 H3 ρ3 f3 st3 p3 v3 r3 fs3 => ?_⟩
    split at p3
    · rename_i b3 e3
      exact ⟨ρ3, S3, w2, w3, b3, st3, r2.fr f3, r3, e3, b3, rfl, p3 H3 ρ3 (Fr.refl _ _) st3⟩
    · exact p3.elim
  · rename_i e
    exact ⟨ρ2, S2, w, w2, false, st2, r.fr f2, r2, e, false, rfl, iteF ⟨false, rfl, p2 H2 ρ2 (Fr.refl _ _) st2⟩⟩
  · exact p2.elim
theorem sim_chain {op op' : CmpOp} {f g : C2} {a b c : Expr} {ma mb mc : ME} {pos} (ho : CmpOk (compareOp op) f) (ho' : CmpOk (compareOp op') g) (ha : SimE cl I N sc a ma) (hb : SimE cl I N sc b mb) (hc : SimE cl I N sc c mc)
    (hm : lastMarks [op, op'] [b, c] = false := by with_unfolding_all rfl) : SimE cl I N sc (.Compare a [op, op'] [b, c] pos) (eT (tChain f g ma mb mc)) := fun G T Wx X hG ok => by
  refine (pe_chain (ho X G ok.eK ok.units) (ho' X G ok.eK ok.units) (ha G T Wx X hG ok) (hb G T Wx X hG ok) (hc G T Wx X hG ok) hm).weak fun σ H Q ⟨ρ, δ, S, he, hs, q⟩ => ?_
  have q := okR.then q
  refine ⟨ρ, δ, S, he, hs, (okR.then q).mono fun w S1 H1 ρ1 f1 st1 p v r fs => ?_⟩
  refine ⟨ρ1, δ, S1, he.fr f1, st1, (okR.then p).mono fun w2 S2 H2 ρ2 f2 st2 p2 v2 r2 fs2 => ?_⟩
  split at p2
  · rename_i e
    refine ⟨ρ2, S2, w, w2, true, st2, r.fr f2, r2, e, true, rfl, iteT ?_⟩
    refine ⟨ρ2, δ, S2, he.fr (f1.trans f2), st2, (okR.then p2).mono fun w3 S3 H3 ρ3 f3 st3 p3 v3 r3 fs3 => ?_⟩
    split at p3
    · rename_i b3 e3
      exact ⟨ρ3, S3, w2, w3, b3, st3, r2.fr f3, r3, e3, p3 H3 ρ3 (Fr.refl _ _) st3 H3 ρ3 (Fr.refl _ _) st3 _ (.bl _) True.intro⟩
    · exact p3.elim
  · rename_i e
    exact ⟨ρ2, S2, w, w2, false, st2, r.fr f2, r2, e, false, rfl, iteF (p2 H2 ρ2 (Fr.refl _ _) st2 H2 ρ2 (Fr.refl _ _) st2 _ (.bl _) True.intro)⟩
  · exact p2.elim

/-! ### the returning of a call -/
theorem take_pre {ρ' : List Addr} (p : ∀ (n : Nat) a, ρ[n]? = some a → ρ'[n]? = some a) : ρ'.take ρ.length = ρ := by
  apply List.ext_getElem?
  intro n
  rw [List.getElem?_take]
  by_cases h : n < ρ.length
  · rw [if_pos h, List.getElem?_eq_getElem h]
    exact p n _ (List.getElem?_eq_getElem h)
  · rw [if_neg h, List.getElem?_eq_none (by omega)]
theorem gc_state {H' : Hp} {ρ' : List Addr} {S' : Sto} (st : StOk G H ρ S) (f : Fr H ρ H' ρ') (st' : StOk G H' ρ' S') (e : Kept S S') : Fr H ρ H' ρ ∧ StOk G H' ρ (S'.take S.length) := by
  refine ⟨⟨fun _ _ h => h, f.tup, f.frz, f.out0, fun _ m n => absurd m n⟩, by rw [List.length_take, Nat.min_eq_left e.1]; exact st.len, st.nd, fun n o a h1 h2 => ?_, st'.tab⟩
  have hn : n < S.length := by rw [← st.len]; exact (List.getElem?_eq_some_iff.mp h2).1
  rw [List.getElem?_take, if_pos hn] at h1
  have c : o.clean ρ.length = true := by
    rcases e.2 n hn with z | ⟨o', z, zc⟩
    · rw [z] at h1
      exact (st.obj n o a h1 h2).clean
    · rw [z] at h1
      cases h1
      rw [st.len]; exact zc
  have d := (st'.obj n o a h1 (f.pre n a h2)).down c
  rw [take_pre f.pre] at d
  exact d
theorem gc_ok {Q : VK} {r : R W} (st : StOk G H ρ S) (q : okR G H ρ Wx σ (fun w _ H' ρ' => ∀ v, RepW G H' ρ' w v → Fresh H w v → Q v H') (gc S r)) :
    okR G H ρ Wx σ (fun w _ H' ρ' => ∀ v, RepW G H' ρ' w v → Fresh H w v → Q v H') r := by
  cases r with
  | bad => exact q
  | exc c ds S' =>
    unfold gc at q
    split at q
    · cases ‹R.exc c ds S' = R.ok _ _›
    · rename_i c' ds' S2 ee
      cases ee
      split at q
      · rename_i h
        intro H' ρ' cls d f st' ⟨x1, vs, dd, fs, x2, x3, x4, x5, x6⟩
        obtain ⟨f2, st2⟩ := gc_state st f st' h.1
        have x2' := x2.down (L := ρ.length) (by rw [st.len]; exact h.2)
        rw [take_pre f.pre] at x2'
        exact q H' ρ cls d f2 st2 ⟨x1, vs, dd, fs, x2', x3, x4, x5, x6⟩
      · exact q
    · cases ‹R.exc c ds S' = R.bad›
  | ok w S' =>
    unfold gc at q
    split at q
    · rename_i w' S2 ee
      cases ee
      split at q
      · rename_i hS
        split at q
        · rename_i d
          split at q
          · rename_i hc
            intro H' ρ' f st' v r fs
            obtain ⟨f2, st2⟩ := gc_state st f st' hS
            have r' := Rep.down (L := ρ.length) r (by rw [st.len]; exact hc)
            rw [take_pre f.pre] at r'
            exact q H' ρ f2 st2 v r' True.intro
          · rename_i hc
            split at q
            · rename_i n
              split at q
              · rename_i o ho
                split at q
                · rename_i hco
                  intro H' ρ' f st' v r fs
                  obtain ⟨f2, st2⟩ := gc_state st f st' hS
                  cases r with
                  | loc e =>
                    rename_i a
                    have hn : ¬ n < S.length := by simpa [D.clean] using hc
                    have na : a ∉ ρ := fun m => by
                      obtain ⟨k, hk, ek⟩ := List.getElem_of_mem m
                      have h1 := f.pre k a (by rw [List.getElem?_eq_getElem hk, ek])
                      have i1 := (List.getElem?_eq_some_iff.mp e)
                      have i2 := (List.getElem?_eq_some_iff.mp h1)
                      have : n = k := (List.getElem_inj st'.nd).mp (i1.2.trans i2.2.symm)
                      rw [st.len] at hk
                      omega
                    have ob := (st'.obj n o a ho e).down (L := ρ.length) (by rw [st.len]; exact hco)
                    rw [take_pre f.pre] at ob
                    exact q H' ρ f2 st2 _ ⟨a, rfl, na, ob⟩ fun b eb => by
                      cases eb
                      exact f.new a (mem_of_get e) na
                · exact q
              · exact q
            · exact q
        · split at q
          · rename_i o hc
            intro H' ρ' f st' v r fs
            obtain ⟨f2, st2⟩ := gc_state st f st' hS
            obtain ⟨a, rfl, na, ob⟩ := r
            have ob := ob.down (L := ρ.length) (by rw [st.len]; exact hc)
            rw [take_pre f.pre] at ob
            refine q H' ρ f2 st2 _ ⟨a, rfl, fun m => na ?_, ob⟩ fs
            obtain ⟨k, hk, ek⟩ := List.getElem_of_mem m
            exact mem_of_get (f.pre k a (by rw [List.getElem?_eq_getElem hk, ek]))
          · exact q
      · exact q
    · cases ‹R.ok w S' = R.exc _ _ _›
    · cases ‹R.ok w S' = R.bad›
end
end MM
set_option maxRecDepth 100000
set_option maxHeartbeats 2000000
/-! MM, part G: calls of the program's own defs, methods, classes; fields. -/
namespace MM
open PySem PySem.Spec L2
section
variable {cl : Bool} {I : Info} {N : List Str} {sc : Scope} {G : Gc} {T : FT} {Wx : WX} {H : Hp} {ρ : List Addr} {δ : Env} {S : Sto} {σ : L2.St}
/-- a callee's promise from what is asked here -/
theorem sp_of {f : List D → Sto → R W} {ds : List D} {vs : List V} {Q : VK} (r : RepL G H ρ ds vs) (st : StOk G H ρ S)
    (q : okR G H ρ Wx σ (fun w _ H' ρ' => ∀ v, RepW G H' ρ' w v → Fresh H w v → Q v H') (f ds S)) : spOf G f vs H Q (WE Wx σ) := by
  refine ⟨ρ, ds, S, r, st, ?_⟩
  cases e : f ds S with
  | ok w S' => rw [e] at q; exact q
  | exc c es S' => rw [e] at q; exact q
  | bad => rw [e] at q; exact q
theorem sp_later {f : List D → Sto → R W} {ds : List D} {vs : List V} {Q : VK} {H0 : Hp} {ρ0 : List Addr} (fr : Fr H0 ρ0 H ρ) (r : RepL G H ρ ds vs) (st : StOk G H ρ S)
    (q : okR G H ρ Wx σ (fun w _ H' ρ' => ∀ v, RepW G H' ρ' w v → Fresh H0 w v → Q v H') (f ds S)) : spOf G f vs H Q (WE Wx σ) :=
  sp_of r st (q.mono fun w S' H' ρ' _ _ p v rv fs => p v rv (Fresh.back fr st fs))
theorem XOk0.room {X : Cx} (ok : XOk0 true I G T N sc Wx X) : ∃ k, Room k X.A ∧ ∀ (i : Nat) d, I.defs[i]? = some d → FnOk X.prog X.w X.K X.mg X.base (L2.CX X.prog X.w) k (G.fa i) (G.fd i) d.ps (spOf G (T i)) := by
  obtain ⟨k, hr, h⟩ := ok.calls
  exact ⟨k, hr.mono (Nat.le_succ k), h⟩
theorem sim_call {x : Str} {e : Expr} {es : List Expr} {ml : ML} {p pos} (i : Nat) {d : DI} (hi : I.defs[i]? = some d) (hx : d.name = x) (hgl : d.glob = true) (ha : SimL true I N sc (e :: es) ml) (hg : glob sc x = true := by rfl)
    (hdb : (x == ("__debug__" : Str)) = false := by decide) (he : ∀ env, starEach (e :: es) env = (false, eval e env) :: starEach es env := by intro _; rfl) (hpl : ∀ env, (backTo pos (starEach es env)).any (·.1) = false := by intro _; rfl) :
    SimE true I N sc (.Call (.Name x p) (e :: es) [] pos) (eCall i ml) := fun G T Wx X hG ok => by
  obtain ⟨F, b, gl⟩ := hG.fn i d hi
  obtain ⟨k, hr, h⟩ := ok.room
  subst hx
  refine (pe_callSD (E := WE Wx) (h i d hi) hr (ok.gl hg) (by rw [ok.eM]; exact gl hgl) (by rw [ok.eK]; exact F.kp) (by rw [ok.eK]; exact b) .nil (fun σ => passAt ok.tk σ) (ha G T Wx X hG ok) hdb (he X.env) (hpl X.env)).weak fun σ H Q ⟨ρ, δ, S, he, hs, q⟩ => ?_
  refine ⟨ρ, δ, S, he, hs, (okR.then (gc_ok hs q)).mono fun ds S1 H1 ρ1 f1 st1 p vs r => ?_⟩
  show spOf G (T i) (vs ++ []) H1 Q _
  rw [List.append_nil]
  exact sp_later f1 r st1 p
theorem sim_call0 {x : Str} {p pos} (i : Nat) {d : DI} (hi : I.defs[i]? = some d) (hx : d.name = x) (hgl : d.glob = true) (hg : glob sc x = true := by rfl)
    (hdb : (x == ("__debug__" : Str)) = false := by decide) : SimE true I N sc (.Call (.Name x p) [] [] pos) (eCall i lNil) := fun G T Wx X hG ok => by
  obtain ⟨F, b, gl⟩ := hG.fn i d hi
  obtain ⟨k, hr, h⟩ := ok.room
  subst hx
  refine ⟨fun pins s σ H Q J ⟨ρ, δ, S, he, hs, q⟩ => ?_⟩
  refine wpAny_Call_Name_kw (ld_glob J (ok.gl hg) (by rw [ok.eM]; exact gl hgl) ?_ hdb)
  refine PySem.W.callWith_K0 J.kIn (by rw [ok.eK]; exact F.kp) ?_
  refine run_fnSD (us := []) (vs := []) (E := WE Wx) (h i d hi) hr (by rw [ok.eK]; exact b) .nil (passAt ok.tk σ) J .nil ?_
  exact sp_later (Fr.refl _ _) .nil hs (gc_ok hs q)
/-- which def a method is -/
def methsOk (I : Info) (m : Str) (ms : List (Nat × Nat)) : Bool := ms.all fun p => match I.clss[p.1]? with
  | some c => (c.meths.any fun q => decide (q.1 = m) && q.2 == p.2) && (I.defs[p.2]?).isSome
  | none => false
theorem meths_at {m : Str} {ms : List (Nat × Nat)} {c f : Nat} (h : methsOk I m ms = true) (l : ms.lookup c = some f) : ∃ C d, I.clss[c]? = some C ∧ (m, f) ∈ C.meths ∧ I.defs[f]? = some d := by
  have hm : (c, f) ∈ ms := by
    revert l
    induction ms with
    | nil => intro l; cases l
    | cons p r ih =>
      intro l
      rw [List.lookup_cons] at l
      unfold methsOk at h
      rw [List.all_cons] at h
      split at l
      · rename_i e
        have e : c = p.1 := by simpa using e
        cases l
        rw [e]; exact List.mem_cons_self
      · exact List.mem_cons_of_mem _ (ih (Bool.and_eq_true_iff.mp h).2 l)
  have q := List.all_eq_true.mp h _ hm
  dsimp only at q
  split at q
  · rename_i C e
    have q := Bool.and_eq_true_iff.mp q
    obtain ⟨y, hy, e2⟩ := List.any_eq_true.mp q.1
    have e2 := Bool.and_eq_true_iff.mp e2
    have e3 : y.1 = m := of_decide_eq_true e2.1
    have e4 : y.2 = f := by simpa using e2.2
    obtain ⟨d, hd⟩ := Option.isSome_iff_exists.mp q.2
    exact ⟨C, d, e, by rw [← e3, ← e4]; exact hy, hd⟩
  · cases q
theorem lookF_rep {f : Str} : ∀ {fs : List (Str × D)} {gs : List (Str × V)}, RepF G H ρ fs gs → (lookF f fs = none → gs.lookup f = none) ∧ ∀ d, lookF f fs = some d → ∃ v, gs.lookup f = some v ∧ Rep G H ρ d v
  | _, _, .nil => ⟨fun _ => rfl, (fun _ e => by cases e)⟩
  | _, _, .cons (k := k) (ds := fs) (vs := gs) r t => by
    have ih := lookF_rep (f := f) t
    unfold lookF
    by_cases h : k = f
    · rw [if_pos h]
      refine ⟨(fun e => by cases e), fun d e => ?_⟩
      cases e
      refine ⟨_, ?_, r⟩
      rw [List.lookup_cons, h]
      simp
    · rw [if_neg h]
      have h' : (f == k) = false := by
        rw [beq_eq_false_iff_ne]
        exact fun e => h e.symm
      rw [List.lookup_cons, h']
      exact ih
theorem sim_meth {m : Str} {o e : Expr} {es : List Expr} {mo : ME} {ml : ML} {apos pos} {pl : PySem.Env → Sem Bool} (ms : List (Nat × Nat)) (ho : SimE true I N sc o mo) (ha : SimL true I N sc (e :: es) ml) (hms : methsOk I m ms = true := by decide +kernel)
    (hst : ∀ env, starEach (e :: es) env = (false, eval e env) :: starEach es env := by intro _; rfl) (hpl : ∀ env, (backTo pos (starEach es env)).any (·.1) = false := by intro _; rfl)
    (ht : ∀ env, eval (.Call (.Attribute o m apos) (e :: es) [] pos) env = (do
      let ov ← eval o env
      standAt apos.atName
      let (f, first) ← holding [ov] (getMethod ov m (pl env))
      callWith pos f first (backTo pos (starEach (e :: es) env)) (backToKw pos (keywordEach [] env))) := by intro _; rfl) :
    SimE true I N sc (.Call (.Attribute o m apos) (e :: es) [] pos) (eMeth m ms mo ml) := fun G T Wx X hG ok => by
  obtain ⟨k, hr, h⟩ := ok.room
  refine ⟨fun pins s σ H Q J ⟨ρ, δ, S, he, hs, q⟩ => ?_⟩
  have q := bnd_ok (okR.then (gc_ok hs q))
  refine PySem.W.methodCall_KW (pl := pl X.env) (thn ((ho G T Wx X hG ok).run pins s σ H (fun v H1 => ∃ d S2 ρ2, Rep G H1 ρ2 d v ∧ StOk G H1 ρ2 S2 ∧ Fr H ρ H1 ρ2 ∧ _) J ⟨ρ, δ, S, he, hs, q.mono fun w S1 H1 ρ1 f st p v r fs => p v r fs⟩) fun u s1 ⟨x, H1, I1, rx, d, S2, ρ2, rd, st2, f2, p⟩ => ?_) (ht X.env)
  split at p
  · rename_i n
    split at p
    · rename_i c fs hc
      split at p
      · rename_i f hf hn
        cases rd with
        | loc er =>
          rename_i a
          obtain rfl : u = Value.ref a := rx
          obtain ⟨hlt, dx, gs, ea, rf⟩ := st2.obj _ _ _ hc er
          obtain ⟨C, d, hC, hm, hd⟩ := meths_at hms hf
          obtain ⟨F, b, _⟩ := hG.fn f d hd
          obtain ⟨cl, _, _, mt⟩ := hG.cls c C hC
          refine getmeth_ok I1 ea (by rw [ok.eK]; exact cl) (by rw [ok.eK]; exact mt _ hm) ((lookF_rep rf).1 hn) ?_
          refine PySem.W.callWith_K (first := [.ref a]) (h₀ := X.base) I1.ok.mod.kin (by rw [ok.eK]; exact F.kp) (thn ((ha G T Wx X hG ok).run pos pins s1 σ H1 (fun vs H3 => spOf G (T f) (.ref a :: vs) H3 Q (WE Wx σ)) I1 ⟨ρ2, δ, S2, he.fr f2, st2, (okR.then p).mono fun ds S3 H3 ρ3 f3 st3 p3 vs r => ?_⟩) fun us s2 ⟨vs, H2, I2, r, q2⟩ => ⟨I2.kIn, ?_⟩) (hst X.env) (hpl X.env)
          · exact sp_later (f2.trans f3) (.cons (.loc (f3.pre _ _ er)) r) st3 p3
          · exact run_fnSD (us := .ref a :: us) (vs := .ref a :: vs) (dvs := []) (E := WE Wx) (h f d hd) hr (by rw [ok.eK]; exact b) .nil (passAt ok.tk σ) I2 (.cons rfl r) (by rw [List.append_nil]; exact q2)
      · exact p.elim
    · exact p.elim
  · exact p.elim
theorem sim_meth0 {m : Str} {o : Expr} {mo : ME} {apos pos} {pl : PySem.Env → Sem Bool} (ms : List (Nat × Nat)) (ho : SimE true I N sc o mo) (hms : methsOk I m ms = true := by decide +kernel)
    (ht : ∀ env, eval (.Call (.Attribute o m apos) [] [] pos) env = (do
      let ov ← eval o env
      standAt apos.atName
      let (f, first) ← holding [ov] (getMethod ov m (pl env))
      callWith pos f first (backTo pos (starEach [] env)) (backToKw pos (keywordEach [] env))) := by intro _; rfl) :
    SimE true I N sc (.Call (.Attribute o m apos) [] [] pos) (eMeth m ms mo lNil) := fun G T Wx X hG ok => by
  obtain ⟨k, hr, h⟩ := ok.room
  refine ⟨fun pins s σ H Q J ⟨ρ, δ, S, he, hs, q⟩ => ?_⟩
  have q := bnd_ok (okR.then (gc_ok hs q))
  refine PySem.W.methodCall_KW (pl := pl X.env) (thn ((ho G T Wx X hG ok).run pins s σ H (fun v H1 => ∃ d S2 ρ2, Rep G H1 ρ2 d v ∧ StOk G H1 ρ2 S2 ∧ Fr H ρ H1 ρ2 ∧ _) J ⟨ρ, δ, S, he, hs, q.mono fun w S1 H1 ρ1 f st p v r fs => p v r fs⟩) fun u s1 ⟨x, H1, I1, rx, d, S2, ρ2, rd, st2, f2, p⟩ => ?_) (ht X.env)
  split at p
  · rename_i n
    split at p
    · rename_i c fs hc
      split at p
      · rename_i f hf hn
        cases rd with
        | loc er =>
          rename_i a
          obtain rfl : u = Value.ref a := rx
          obtain ⟨hlt, dx, gs, ea, rf⟩ := st2.obj _ _ _ hc er
          obtain ⟨C, d, hC, hm, hd⟩ := meths_at hms hf
          obtain ⟨F, b, _⟩ := hG.fn f d hd
          obtain ⟨cl, _, _, mt⟩ := hG.cls c C hC
          refine getmeth_ok I1 ea (by rw [ok.eK]; exact cl) (by rw [ok.eK]; exact mt _ hm) ((lookF_rep rf).1 hn) ?_
          refine PySem.W.callWith_K0 (first := [.ref a]) I1.kIn (by rw [ok.eK]; exact F.kp) ?_
          exact run_fnSD (us := [.ref a]) (vs := [.ref a]) (dvs := []) (E := WE Wx) (h f d hd) hr (by rw [ok.eK]; exact b) .nil (passAt ok.tk σ) I1 (.cons rfl .nil) (sp_later f2 (.cons (.loc er) .nil) st2 p)
      · exact p.elim
    · exact p.elim
  · exact p.elim
/-! ### a new instance -/
theorem new_ins {c : Nat} {x dx : Addr} (st : StOk G H ρ S) (hx : H x = none) (hd : H dx = none) (ne : dx ≠ x) (hc : c < G.nc) :
    StOk G (upd (upd H dx (.own x)) x (.ins (G.ca c) dx [])) (ρ ++ [x]) (S ++ [.ins c []]) ∧ Fr H ρ (upd (upd H dx (.own x)) x (.ins (G.ca c) dx [])) (ρ ++ [x]) := by
  have st1 : StOk G (upd H dx (.own x)) ρ S := st.new hd
  have hx1 : upd H dx (.own x) x = none := by rw [upd_ne (Ne.symm ne)]; exact hx
  have st2 : StOk G (upd (upd H dx (.own x)) x (.ins (G.ca c) dx [])) ρ S := st1.new hx1
  have f1 := fr_new (o := .own x) hd (st.free hd)
  have f2 := fr_new (o := .ins (G.ca c) dx []) hx1 (st1.free hx1)
  exact ⟨st2.bind (st.free hx) ⟨hc, dx, [], upd_same, .nil⟩, (f1.trans f2).bind st2 hx⟩
theorem okR.nox {α : Type} {P : α → Sto → Hp → List Addr → Prop} {r : R α} {Wx' : WX} {σ' : L2.St} (q : okR G H ρ Wx σ P r.nox) : okR G H ρ Wx' σ' P r := by
  cases r with
  | ok a S => exact q
  | exc c ds S => exact q.elim
  | bad => exact q
theorem sim_new {x : Str} {e : Expr} {es : List Expr} {ml : ML} {p pos} (c : Nat) {C : CI} {f : Nat} (hc : I.clss[c]? = some C) (hx : C.name = x) (hf : C.init = f) {d : DI} (hi : I.defs[C.init]? = some d) (ha : SimL true I N sc (e :: es) ml) (hg : glob sc x = true := by rfl)
    (hdb : (x == ("__debug__" : Str)) = false := by decide) (he : ∀ env, starEach (e :: es) env = (false, eval e env) :: starEach es env := by intro _; rfl) (hpl : ∀ env, (backTo pos (starEach es env)).any (·.1) = false := by intro _; rfl) :
    SimE true I N sc (.Call (.Name x p) (e :: es) [] pos) (eNew c f ml) := fun G T Wx X hG ok => by
  subst hf
  obtain ⟨F, b, gl⟩ := hG.fn _ d hi
  obtain ⟨_, mk, gc, _⟩ := hG.cls c C hc
  obtain ⟨k, hr, h⟩ := ok.calls
  subst hx
  refine (pe_make (by rw [ok.eK]; exact mk) (h _ d hi) hr (ok.gl hg) (by rw [ok.eM]; exact gc) (by rw [ok.eK]; exact b) .nil passL (ha G T Wx X hG ok) hdb (he X.env) (hpl X.env)).weak fun σ H Q ⟨ρ, δ, S, he, hs, q⟩ => ?_
  refine ⟨ρ, δ, S, he, hs, (okR.then q).mono fun ds S1 H1 ρ1 f1 st1 p vs r x dx hx hd ne => ?_⟩
  have hn : c < G.nc := by rw [hG.nc]; exact (List.getElem?_eq_some_iff.mp hc).1
  obtain ⟨st2, f2⟩ := new_ins st1 hx hd ne hn
  refine ⟨ρ1 ++ [x], .loc S1.length :: ds, S1 ++ [.ins c []], ?_, st2, ?_⟩
  · show RepL G _ _ _ (.ref x :: (vs ++ []))
    rw [List.append_nil]
    exact .cons (.loc (by rw [← st1.len]; exact get_last)) (r.fr f2)
  · have p := (okR.later p f2)
    refine (okR.nox (okR.then p)).mono fun w S3 H3 ρ3 f3 st3 p3 v rv fs => ?_
    split at p3
    · cases rv
      exact ⟨rfl, p3 H3 ρ3 (Fr.refl _ _) st3 _ (.loc (f3.pre _ _ (by rw [← st1.len]; exact get_last))) True.intro⟩
    · exact p3.elim
theorem sim_new0 {x : Str} {p pos} (c : Nat) {C : CI} {f : Nat} (hc : I.clss[c]? = some C) (hx : C.name = x) (hf : C.init = f) {d : DI} (hi : I.defs[C.init]? = some d) (hg : glob sc x = true := by rfl) (hdb : (x == ("__debug__" : Str)) = false := by decide) :
    SimE true I N sc (.Call (.Name x p) [] [] pos) (eNew c f lNil) := fun G T Wx X hG ok => by
  subst hf
  obtain ⟨F, b, gl⟩ := hG.fn _ d hi
  obtain ⟨_, mk, gc, _⟩ := hG.cls c C hc
  obtain ⟨k, hr, h⟩ := ok.calls
  subst hx
  refine (pe_make0 (by rw [ok.eK]; exact mk) (h _ d hi) hr (ok.gl hg) (by rw [ok.eM]; exact gc) (by rw [ok.eK]; exact b) .nil passL hdb).weak fun σ H Q ⟨ρ, δ, S, he, hs, q⟩ => ?_
  intro x dx hx hd ne
  have hn : c < G.nc := by rw [hG.nc]; exact (List.getElem?_eq_some_iff.mp hc).1
  obtain ⟨st2, f2⟩ := new_ins hs hx hd ne hn
  refine ⟨ρ ++ [x], [.loc S.length], S ++ [.ins c []], ?_, st2, ?_⟩
  · exact .cons (.loc (by rw [← hs.len]; exact get_last)) .nil
  · have p := (okR.later q f2)
    refine (okR.nox (okR.then p)).mono fun w S3 H3 ρ3 f3 st3 p3 v rv fs => ?_
    split at p3
    · cases rv
      exact ⟨rfl, p3 H3 ρ3 (Fr.refl _ _) st3 _ (.loc (f3.pre _ _ (by rw [← hs.len]; exact get_last))) True.intro⟩
    · exact p3.elim
/-! ### fields -/
theorem sim_fld {o : Expr} {mo : ME} {f : Str} {pos} (ho : SimE cl I N sc o mo) (hf : (I.flds.any fun g => decide (g = f)) = true := by decide +kernel) (hb : ∀ env, attributeBase o f env (eval o env) = eval o env := by intro _; rfl) :
    SimE cl I N sc (.Attribute o f pos) (eFld f mo) := fun G T Wx X hG ok => by
  refine (pe_fld (ho G T Wx X hG ok) (hb X.env)).weak fun σ H Q ⟨ρ, δ, S, he, hs, q⟩ => ?_
  refine ⟨ρ, δ, S, he, hs, (okR.then q).mono fun w S1 H1 ρ1 f1 st1 p v r fs => ?_⟩
  split at p
  · split at p
    · rename_i c fs hc
      split at p
      · rename_i d hd
        cases r with
        | loc er =>
          obtain ⟨hlt, dx, gs, ea, rf⟩ := st1.obj _ _ _ hc er
          obtain ⟨z, h1, h2⟩ := (lookF_rep rf).2 d hd
          have hcl : c < I.clss.length := by rw [← hG.nc]; exact hlt
          have hC := List.getElem?_eq_getElem hcl
          obtain ⟨g, hg, e⟩ := List.any_eq_true.mp hf
          have e : g = f := of_decide_eq_true e
          subst e
          exact ⟨_, _, dx, gs, z, rfl, ea, by rw [ok.eK]; exact (hG.cls c _ hC).1, by rw [ok.eK]; exact hG.fld c _ _ hC hg, h1, p H1 ρ1 (Fr.refl _ _) st1 z h2 True.intro⟩
      · exact p.elim
    · exact p.elim
  · exact p.elim
theorem putF_rep {f : Str} {d : D} {v : V} (r : Rep G H ρ d v) : ∀ {fs : List (Str × D)} {gs : List (Str × V)}, RepF G H ρ fs gs → RepF G H ρ (putF f d fs) (L2.putF f v gs)
  | _, _, .nil => .cons r .nil
  | _, _, .cons (k := k) q t => by
    unfold putF L2.putF
    by_cases h : k = f
    · rw [if_pos h, if_pos h, h]
      exact .cons r t
    · rw [if_neg h, if_neg h]
      exact .cons q (putF_rep r t)
theorem RepF.length : ∀ {ds : List (Str × D)} {vs : List (Str × V)}, RepF G H ρ ds vs → ds.length = vs.length
  | _, _, .nil => rfl
  | _, _, .cons _ t => by rw [List.length_cons, List.length_cons, RepF.length t]
theorem sims_fld {o e : Expr} {mo me : ME} {f : Str} {pos pos'} (ho : SimE true I N sc o mo) (hv : SimE true I N sc e me) (hf : (I.flds.any fun g => decide (g = f)) = true := by decide +kernel)
    (hs : ∀ env, swapsWith e (some (.Attribute o f pos')) pos.line env = pure false := by intro _; rfl) : SimS I N sc (.Assign [.Attribute o f pos'] e pos) (sFld f mo me) := fun G T Wx X hG ok => by
  refine (ps_fld (ho G T Wx X hG ok.toXOk0) (hv G T Wx X hG ok.toXOk0) (hs X.env)).weak fun D σ H ⟨ρ, δ, S, he, st0, q⟩ => ?_
  refine ⟨ρ, δ, S, he, st0, (bnd_ok (okF.thenS he q)).mono fun w S1 H1 ρ1 f1 st1 p v r fs => ?_⟩
  obtain ⟨d, S2, ρ2, rd, st2, f2, p⟩ := p v r fs
  refine ⟨ρ2, δ, S2, he.fr f2, st2, (okF.thenS (he.fr f2) p).mono fun w3 S3 H3 ρ3 f3 st3 p3 v3 r3 fs3 => ?_⟩
  split at p3
  · rename_i n
    split at p3
    · rename_i c fs hc
      split at p3
      · rename_i hl
        cases r3 with
        | loc er =>
          rename_i a
          obtain ⟨hlt, dx, gs, ea, rf⟩ := st3.obj _ _ _ hc er
          have hcl : c < I.clss.length := by rw [← hG.nc]; exact hlt
          have hC := List.getElem?_eq_getElem hcl
          obtain ⟨g, hg, e⟩ := List.any_eq_true.mp hf
          have e : g = f := of_decide_eq_true e
          subst e
          refine ⟨_, _, dx, gs, rfl, ea, by rw [ok.eK]; exact (hG.cls c _ hC).1, by rw [ok.eK]; exact hG.fld c _ _ hC hg, by rw [← rf.length]; omega, ?_⟩
          obtain ⟨st4, f4⟩ := st3.put (u := .ins (G.ca c) dx (L2.putF g v gs)) (o := .ins c (putF g d fs)) er fun sb => ⟨hlt, dx, _, upd_same, putF_rep ((rd.fr f3).sub sb) (rf.sub sb)⟩
          exact p3 σ _ ρ3 f4 st4 (he.fr (f2.trans (f3.trans f4)))
      · exact p3.elim
    · exact p3.elim
  · exact p3.elim
end
end MM
set_option maxRecDepth 100000
set_option maxHeartbeats 2000000
/-! MM, part H: methods of built-in types. -/
namespace MM
open PySem PySem.Spec L2
section
variable {cl : Bool} {I : Info} {N : List Str} {sc : Scope} {G : Gc} {T : FT} {Wx : WX} {H : Hp} {ρ : List Addr} {δ : MM.Env} {S : Sto} {σ : L2.St}
def rE1 (G : Gc) (f : E1) : V → List V → Hp → VK → Prop := fun x xs H Q => ∃ ρ S wx w S' H0 ρ0, xs = [] ∧ StOk G H ρ S ∧ Fr H0 ρ0 H ρ ∧ RepW G H ρ wx x ∧ f wx S = some (w, S') ∧
  ∀ H' ρ' v, Fr H0 ρ0 H' ρ' → StOk G H' ρ' S' → RepW G H' ρ' w v → Fresh H0 w v → Q v H'
def rE2 (G : Gc) (f : E2) : V → List V → Hp → VK → Prop := fun x xs H Q => ∃ y ρ S wx wy w S' H0 ρ0, xs = [y] ∧ StOk G H ρ S ∧ Fr H0 ρ0 H ρ ∧ RepW G H ρ wx x ∧ RepW G H ρ wy y ∧ Fresh H0 wy y ∧ f wx wy S = some (w, S') ∧
  ∀ H' ρ' v, Fr H0 ρ0 H' ρ' → StOk G H' ρ' S' → RepW G H' ρ' w v → Fresh H0 w v → Q v H'
def E1Ok (id : String) (f : E1) : Prop := ∀ (X : Cx) (G : Gc), X.K = G.K → X.A.units + 64 < cLine → X.calm = true → MtR X id (rE1 G f)
def E2Ok (id : String) (f : E2) : Prop := ∀ (X : Cx) (G : Gc), X.K = G.K → X.A.units + 64 < cLine → X.calm = true → MtR X id (rE2 G f)
def TyOk (ty : String) (chk : W → Sto → Bool) : Prop := ∀ G H ρ S w v, chk w S = true → StOk G H ρ S → RepW G H ρ w v → tyV G.K ty v H
theorem ty_L : TyOk "list" isL := fun G H ρ S w v h st r => by
  obtain ⟨ds, e⟩ := Option.isSome_iff_exists.mp h
  obtain ⟨a, xs, rfl, h1, l⟩ := W.lm_rep e st r
  exact .inl ⟨rfl, xs, SqL.of h1⟩
theorem ty_D : TyOk "dict" isD := fun G H ρ S w v h st r => by
  obtain ⟨ds, e⟩ := Option.isSome_iff_exists.mp h
  obtain ⟨a, xs, rfl, h1, l⟩ := W.dm_rep e st r
  exact .inr (.inr (.inl ⟨rfl, .inl ⟨xs, h1⟩⟩))
theorem ty_S : TyOk "str" isS := fun G H ρ S w v h st r => by
  unfold isS at h
  split at h
  · cases r; rfl
  · cases h
theorem sim_m0 {T' id : String} {name : Str} {chk : W → Sto → Bool} {f : E1} {o : Expr} {mo : ME} {apos cpos} (pa : PlainAttrs T') (slot : Slot T' name id) (hty : typeOf (.builtin id) = pure (.type "method_descriptor")) (ty : TyOk T' chk) (hm : E1Ok id f)
    (hck : ∀ w S r, f w S = some r → chk w S = true) (ho : SimE true I N sc o mo)
    (hbase : ∀ env, attributeBase o name env (eval o env) = eval o env := by intro _; rfl) (hline : (apos.endLine == cpos.line) = true := by rfl) : SimE true I N sc (.Call (.Attribute o name apos) [] [] cpos) (eEff1 f mo) := fun G T Wx X hG ok => by
  refine (pe_bm0 pa slot hty (hm X G ok.eK ok.units ok.calm) (ho G T Wx X hG ok) (hbase X.env) hline).weak fun σ H Q ⟨ρ, δ, S, he, hs, q⟩ => ?_
  refine ⟨ρ, δ, S, he, hs, (okR.then q).mono fun w S1 H1 ρ1 f1 st1 p v r fs => ?_⟩
  split at p
  · rename_i w2 S2 e
    refine ⟨by rw [ok.eK]; exact ty G H1 ρ1 S1 w v (hck _ _ _ e) st1 r, ρ1, S1, w, w2, S2, H1, ρ1, rfl, st1, Fr.refl _ _, r, e, fun H' ρ' v3 f3 st3 r3 fs3 => p H' ρ' f3 st3 v3 r3 (Fresh.back f1 st1 fs3)⟩
  · exact p.elim
theorem sim_m1 {T' id : String} {name : Str} {chk : W → Sto → Bool} {f : E2} {o a : Expr} {mo ma : ME} {apos cpos} (pa : PlainAttrs T') (slot : Slot T' name id) (hty : typeOf (.builtin id) = pure (.type "method_descriptor")) (ty : TyOk T' chk) (hm : E2Ok id f)
    (ho : SimE true I N sc o mo) (ha : SimE true I N sc a ma) (hbase : ∀ env, attributeBase o name env (eval o env) = eval o env := by intro _; rfl)
    (hfew : ∀ env, ((backTo cpos (starEach [a] env)).all (fun x => !x.1) && (backToKw cpos (keywordEach [] env)).all (fun x => x.1.isSome)
      && decide (([a] : List Expr).length + ([] : List Keyword).length + (if ([] : List Keyword).isEmpty then 0 else 1) < 30)) = true := by intro _; rfl)
    (hline : (apos.endLine == cpos.line) = true := by rfl) (hst : ∀ env, starEach [a] env = (false, eval a env) :: starEach [] env := by intro _; rfl) : SimE true I N sc (.Call (.Attribute o name apos) [a] [] cpos) (eEff2 chk f mo ma) := fun G T Wx X hG ok => by
  refine (pe_bm pa slot hty (hm X G ok.eK ok.units ok.calm) (ho G T Wx X hG ok) (pa_cons (ha G T Wx X hG ok) pa_nil (hst X.env)) (hbase X.env) (hfew X.env) hline (hst X.env) rfl).weak fun σ H Q ⟨ρ, δ, S, he, hs, q⟩ => ?_
  refine ⟨ρ, δ, S, he, hs, (okR.then q).mono fun w S1 H1 ρ1 f1 st1 p v r fs => ?_⟩
  split at p
  · rename_i hck
    refine ⟨by rw [ok.eK]; exact ty G H1 ρ1 S1 w v hck st1 r, ρ1, δ, S1, he.fr f1, st1, (okR.thenO p).mono fun w2 S2 H2 ρ2 f2 st2 p2 v2 r2 fs2 => ?_⟩
    split at p2
    · rename_i w3 S3 e
      exact ⟨v2, ρ2, S2, w, w2, w3, S3, H1, ρ1, rfl, st2, f2, r.fr f2, r2, fs2, e, fun H' ρ' v3 f3 st3 r3 fs3 => p2 H' ρ' f3 st3 v3 r3 (Fresh.back f1 st1 fs3)⟩
    · exact p2.elim
  · exact p.elim
theorem ok_append : E2Ok "list.append" fAppend := fun X G eK hu hc pins s σ H x xs v us Q I rx rs ⟨y, ρ, S, wx, wy, w, S', H0, ρ0, ex, st, f0, r1, r2, fs, e, q⟩ => by
  subst ex
  unfold fAppend at e
  split at e
  · rename_i n
    obtain ⟨ρ2, rd, st2, f2, pre⟩ := bindW_ok f0 st r2 fs
    cases r1 with
    | loc er =>
      have er2 := pre _ _ er
      split at e
      · rename_i ds hd
        split at e
        · rename_i hl
          cases e
          obtain ⟨zs, h1, l⟩ := st2.obj _ _ _ hd er2
          obtain ⟨st4, f4⟩ := st2.put (u := .lst (zs ++ [y])) (o := .lst (ds ++ [(bindW wy S).1])) er2 fun sb => ⟨_, upd_same, (l.sub sb).append (.cons (rd.sub sb) .nil)⟩
          exact mt_append pins s σ H _ _ v us Q I rx rs ⟨_, zs, y, rfl, rfl, h1, by rw [← l.length]; exact hl, q _ ρ2 .non (f2.trans f4) st4 .non True.intro⟩
        · cases e
      · cases e
  · cases e
def rExtendR : V → List V → Hp → VK → Prop := fun x vs H Q => ∃ l b xs zs, x = .ref l ∧ vs = [.ref b] ∧ H l = some (.lst xs) ∧ Rd H b (.lst zs) ∧ xs.length + zs.length ≤ sizeLine ∧ Q .non (upd H l (.lst (xs ++ zs)))
theorem mt_extendR {X : Cx} : MtR X "list.extend" rExtendR := by
  intro pins s σ H x vs v us Q I rx rv h
  obtain ⟨l, b, xs, zs, rfl, rfl, hH, hB, hz, q⟩ := h
  cases rx
  obtain ⟨u, rfl, ru⟩ := rv.one
  cases ru
  obtain ⟨z, its, n, r, hl, e⟩ := I.lstM hH
  obtain ⟨z2, its2, n2, r2, hl2, e2⟩ := Inv.lstR I hB
  have hsz : its.toArray.size + its2.toArray.size ≤ sizeLine := by rw [List.size_toArray, List.size_toArray]; omega
  have hlong : ¬ (!its.toArray.isEmpty && Builtin.List.listTooLong (its.toArray.size + its2.toArray.size)) = true := by
    rw [notLongL hsz, Bool.and_false]
    exact Bool.false_ne_true
  refine call_meets F.slot_list_extend ⟨_, e, rfl⟩ F.entry_list_extend (F.args_list_extend_2 _ _)
    (AutoSeq1.list_extend_list_list_0 l its.toArray n b its2.toArray n2 hlong (by rw [List.size_toArray]; omega) (by omega)) ⟨e, e2, ?_⟩
  refine ⟨.non, _, I.lset (its' := its ++ its2) hH e (by simp) (r.append r2) ?_, rfl, q⟩
  rw [List.length_append]
  omega
theorem ok_extend : E2Ok "list.extend" fExtend := fun X G eK hu hc pins s σ H x xs v us Q I rx rs ⟨y, ρ, S, wx, wy, w, S', H0, ρ0, ex, st, f0, r1, r2, fs, e, q⟩ => by
  subst ex
  unfold fExtend at e
  split at e
  · split at e
    · rename_i ds es hd he
      split at e
      · rename_i hl
        cases e
        cases r1 with
        | loc er =>
          obtain ⟨zs, h1, l⟩ := st.obj _ _ _ hd er
          obtain ⟨b, ys, rfl, h2, l2⟩ := W.lr_rep he st r2
          obtain ⟨st4, f4⟩ := st.put (u := .lst (zs ++ ys)) (o := .lst (ds ++ es)) er fun sb => ⟨_, upd_same, (l.sub sb).append (l2.sub sb)⟩
          exact mt_extendR pins s σ H _ _ v us Q I rx rs ⟨_, b, zs, ys, rfl, rfl, h1, h2, by rw [← l.length, ← l2.length]; exact hl, q _ ρ .non (f0.trans f4) st4 .non True.intro⟩
      · cases e
    · cases e
  · cases e
theorem ok_pop : E1Ok "list.pop" fPop := fun X G eK hu hc pins s σ H x xs v us Q I rx rs ⟨ρ, S, wx, w, S', H0, ρ0, ex, st, f0, r1, e, q⟩ => by
  subst ex
  unfold fPop at e
  split at e
  · split at e
    · rename_i ds hd
      obtain ⟨d, h, e⟩ := Option.map_eq_some_iff.mp e
      cases e
      cases r1 with
      | loc er =>
        obtain ⟨zs, h1, l⟩ := st.obj _ _ _ hd er
        obtain ⟨z, h2, h3⟩ := l.get h
        obtain ⟨st4, f4⟩ := st.put (u := .lst zs.dropLast) (o := .lst ds.dropLast) er fun sb => ⟨_, upd_same, (l.sub sb).dropLast⟩
        exact mt_pop pins s σ H _ _ v us Q I rx rs ⟨_, zs, z, rfl, rfl, h1, by rw [← l.length]; exact h2, q _ ρ z (f0.trans f4) st4 (h3.fr f4) True.intro⟩
    · cases e
  · cases e
theorem ok_popAt : E2Ok "list.pop" fPopAt := fun X G eK hu hc pins s σ H x xs v us Q I rx rs ⟨y, ρ, S, wx, wy, w, S', H0, ρ0, ex, st, f0, r1, r2, fs, e, q⟩ => by
  subst ex
  unfold fPopAt at e
  split at e
  · split at e
    · rename_i ds hd
      split at e
      · rename_i hb
        split at e
        · rename_i k hk
          obtain ⟨d, h, e⟩ := Option.map_eq_some_iff.mp e
          cases e
          cases r2
          cases r1 with
          | loc er =>
            obtain ⟨zs, h1, l⟩ := st.obj _ _ _ hd er
            obtain ⟨z, h2, h3⟩ := l.get h
            obtain ⟨st4, f4⟩ := st.put (u := .lst (zs.eraseIdx k)) (o := .lst (ds.eraseIdx k)) er fun sb => ⟨_, upd_same, (l.sub sb).erase k⟩
            exact mt_popAt pins s σ H _ _ v us Q I rx rs ⟨_, zs, _, k, z, rfl, rfl, h1, hb.1, hb.2, by rw [← l.length]; exact (ixN_seq hk).1, h2, q _ ρ z (f0.trans f4) st4 (h3.fr f4) True.intro⟩
        · cases e
      · cases e
    · cases e
  · cases e
theorem ok_reverse : E1Ok "list.reverse" fReverse := fun X G eK hu hc pins s σ H x xs v us Q I rx rs ⟨ρ, S, wx, w, S', H0, ρ0, ex, st, f0, r1, e, q⟩ => by
  subst ex
  unfold fReverse at e
  split at e
  · split at e
    · rename_i ds hd
      cases e
      cases r1 with
      | loc er =>
        obtain ⟨zs, h1, l⟩ := st.obj _ _ _ hd er
        obtain ⟨st4, f4⟩ := st.put (u := .lst zs.reverse) (o := .lst ds.reverse) er fun sb => ⟨_, upd_same, (l.sub sb).reverse⟩
        exact mt_reverse pins s σ H _ _ v us Q I rx rs ⟨_, zs, rfl, rfl, h1, q _ ρ .non (f0.trans f4) st4 .non True.intro⟩
    · cases e
  · cases e
theorem ok_join : E2Ok "str.join" (ofB2 bJoin) := fun X G eK hu hc pins s σ H x xs v us Q I rx rs ⟨y, ρ, S, wx, wy, w, S', H0, ρ0, ex, st, f0, r1, r2, fs, e, q⟩ => by
  subst ex
  obtain ⟨w', e', h⟩ := Option.map_eq_some_iff.mp e
  cases h
  unfold bJoin at e'
  split at e'
  · rename_i ds hd
    split at e'
    · rename_i ts ht
      split at e'
      · rename_i hl
        cases e'
        cases r1
        obtain ⟨a, ys, rfl, h1, l⟩ := W.any_rep hd st r2
        rw [allStrs_rep ht l] at h1
        exact mt_join pins s σ H _ _ v us Q I rx rs ⟨_, a, ts, rfl, rfl, by rw [eK]; exact h1, hl, q H ρ _ f0 st (.str _) True.intro⟩
      · cases e'
    · cases e'
  · cases e'
theorem chk_pop : ∀ w S r, fPop w S = some r → isL w S = true := fun w S r h => by
  unfold fPop at h
  split at h
  · split at h
    · rename_i e
      unfold isL W.lm
      dsimp only
      rw [e]; rfl
    · cases h
  · cases h
theorem chk_reverse : ∀ w S r, fReverse w S = some r → isL w S = true := fun w S r h => by
  unfold fReverse at h
  split at h
  · split at h
    · rename_i e
      unfold isL W.lm
      dsimp only
      rw [e]; rfl
    · cases h
  · cases h
end
end MM
set_option maxRecDepth 100000
set_option maxHeartbeats 2000000
/-! MM, part I: loops. -/
namespace MM
open PySem PySem.Spec L2
def Src.at (i : Nat) (S : Sto) : Src → Option (Option D)
  | .items ds => some ds[i]?
  | .live n en => liveAt n en i S
/-- an iterator that walks what src says -/
def SrcRep (G : Gc) (H : Hp) (ρ : List Addr) (J : It) (src : Src) : Prop := ∀ H' ρ' S', Fr H ρ H' ρ' → StOk G H' ρ' S' → ∀ i : Nat,
  (∀ d, src.at i S' = some (some d) → J.go i H' ∧ ∀ x H'', J.yld i H' x H'' → Fr H' ρ' H'' ρ' ∧ StOk G H'' ρ' S' ∧ Rep G H'' ρ' d x) ∧ (src.at i S' = some none → J.stop i H')
section
variable {cl : Bool} {I : Info} {N : List Str} {sc : Scope} {G : Gc} {T : FT} {Wx : WX} {H : Hp} {ρ : List Addr} {δ : MM.Env} {S : Sto} {σ : L2.St}
theorem SrcRep.fr {J : It} {src : Src} {H1 : Hp} {ρ1 : List Addr} (h : SrcRep G H ρ J src) (f : Fr H ρ H1 ρ1) : SrcRep G H1 ρ1 J src := fun H' ρ' S' f' st => h H' ρ' S' (f.trans f') st
def rdI (G : Gc) (T : FT) (Wx : WX) (m : MI) : TI := fun σ H R => ∃ ρ δ S, EnvRep G H ρ δ σ ∧ StOk G H ρ S ∧ okR G H ρ Wx σ (fun src _ H' ρ' => ∀ J, SrcRep G H' ρ' J src → R J H') (m T δ S)
def SimI (cl : Bool) (I : Info) (N : List Str) (sc : Scope) (tg iter : Expr) (m : MI) : Prop := ∀ G T Wx X, GOk I G → XOk0 cl I G T N sc Wx X → PI X tg iter (rdI G T Wx m)
theorem _root_.L2.PI.weak {X : Cx} {tg e : Expr} {t t' : TI} (h : PI X tg e t) (f : ∀ σ H Q, t' σ H Q → t σ H Q) : PI X tg e t' := ⟨fun pins s σ H Q I q => h.run pins s σ H Q I (f σ H Q q)⟩
/-- a tuple -/
theorem src_tup {a : Addr} {xs : List V} {ds : List D} (t : TupAt G.K H a xs) (l : RepL G H ρ ds xs) : SrcRep G H ρ (Itt G.K a) (.items ds) := fun H' ρ' S' f st i => by
  have t' : SqT G.K H' a xs := (t.fr f.tup).sq
  have l' := l.fr f
  refine ⟨fun d e => ?_, fun e => ⟨xs, t', ?_⟩⟩
  · have e : ds[i]? = some d := Option.some.inj e
    obtain ⟨v, h1, h2⟩ := l'.get e
    refine ⟨⟨xs, v, t', h1⟩, fun x H'' y => ?_⟩
    obtain ⟨rfl, y⟩ := y
    have := y xs t'
    rw [h1] at this
    cases this
    exact ⟨Fr.refl _ _, st, h2⟩
  · have e : ds[i]? = none := Option.some.inj e
    rw [← l.length]
    exact List.getElem?_eq_none_iff.mp e
/-- a list that stays as it is -/
theorem src_lst {a : Addr} {xs : List V} {ds : List D} (t : ∀ H' ρ', Fr H ρ H' ρ' → SqL G.K H' a xs) (l : RepL G H ρ ds xs) : SrcRep G H ρ (Itl G.K a) (.items ds) := fun H' ρ' S' f st i => by
  have t' : SqL G.K H' a xs := t H' ρ' f
  have l' := l.fr f
  refine ⟨fun d e => ?_, fun e => ⟨xs, t', ?_⟩⟩
  · have e : ds[i]? = some d := Option.some.inj e
    obtain ⟨v, h1, h2⟩ := l'.get e
    refine ⟨⟨xs, v, t', h1⟩, fun x H'' y => ?_⟩
    obtain ⟨rfl, y⟩ := y
    have := y xs t'
    rw [h1] at this
    cases this
    exact ⟨Fr.refl _ _, st, h2⟩
  · have e : ds[i]? = none := Option.some.inj e
    rw [← l.length]
    exact List.getElem?_eq_none_iff.mp e
theorem tmp_stays {a : Addr} {xs : List V} (h : H a = some (.lst xs)) (n : a ∉ ρ) : ∀ H' ρ', Fr H ρ H' ρ' → SqL G.K H' a xs := fun H' ρ' f => SqL.of (f.out a _ h n (by simp))
/-- a list of the store -/
theorem src_live {a : Addr} {n : Nat} (e : ρ[n]? = some a) : SrcRep G H ρ (Itl G.K a) (.live n none) := fun H' ρ' S' f st i => by
  have e' := f.pre _ _ e
  show (∀ d, liveAt n none i S' = some (some d) → _) ∧ (liveAt n none i S' = some none → _)
  unfold liveAt
  split
  · rename_i ds hd
    obtain ⟨xs, h1, l⟩ := st.obj _ _ _ hd e'
    refine ⟨fun d q => ?_, fun q => ⟨xs, SqL.of h1, ?_⟩⟩
    · have q : ds[i]? = some d := by simpa using q
      obtain ⟨v, h2, h3⟩ := l.get q
      refine ⟨⟨xs, v, SqL.of h1, h2⟩, fun x H'' y => ?_⟩
      obtain ⟨rfl, y⟩ := y
      have := y xs (SqL.of h1)
      rw [h2] at this
      cases this
      exact ⟨Fr.refl _ _, st, h3⟩
    · have q : ds[i]? = none := by simpa using q
      rw [← l.length]
      exact List.getElem?_eq_none_iff.mp q
  · exact ⟨(fun _ q => by cases q), (fun q => by cases q)⟩
theorem src_range {lo : Int} {n : Nat} : SrcRep G H ρ (Itr lo n) (.items (span lo n)) := fun H' ρ' S' f st i => by
  have g : (span lo n)[i]? = if i < n then some (.int (lo + i)) else none := by
    unfold span
    rw [List.getElem?_map]
    by_cases h : i < n
    · rw [List.getElem?_range h, if_pos h]; rfl
    · rw [if_neg h, List.getElem?_eq_none (by simpa using h)]; rfl
  refine ⟨fun d e => ?_, fun e => ?_⟩
  · have e : (span lo n)[i]? = some d := Option.some.inj e
    rw [g] at e
    split at e
    · rename_i h
      cases e
      refine ⟨h, fun x H'' y => ?_⟩
      obtain ⟨rfl, rfl⟩ := y
      exact ⟨Fr.refl _ _, st, .int _⟩
    · cases e
  · have e : (span lo n)[i]? = none := Option.some.inj e
    rw [g] at e
    split at e
    · cases e
    · rename_i h
      exact Nat.le_of_not_lt h
theorem src_str {x : Str} : SrcRep G H ρ (Its x) (.items (signs x)) := fun H' ρ' S' f st i => by
  have g : (signs x)[i]? = (x.cps[i]?).map fun c => D.str ⟨#[c]⟩ := by
    unfold signs
    rw [List.getElem?_map, Array.getElem?_toList]
  refine ⟨fun d e => ?_, fun e => ?_⟩
  · have e : (signs x)[i]? = some d := Option.some.inj e
    rw [g] at e
    obtain ⟨c, h, e⟩ := Option.map_eq_some_iff.mp e
    subst e
    refine ⟨(Array.getElem?_eq_some_iff.mp h).1, fun v H'' y => ?_⟩
    obtain ⟨rfl, c', h', rfl⟩ := y
    rw [h] at h'
    cases h'
    exact ⟨Fr.refl _ _, st, .str _⟩
  · have e : (signs x)[i]? = none := Option.some.inj e
    rw [g, Option.map_eq_none_iff] at e
    exact Array.getElem?_eq_none_iff.mp e
section
open PyProof.Rows hiding St
variable {X : Cx} {pins : List (Addr × Obj)} {s1 : Shared} {H1 : Hp} {R : It → Hp → Prop} {tg : Expr}
theorem iter_list {a : Addr} {xs : List V} (I1 : Inv X pins σ H1 s1) (hq : SqL X.K H1 a xs) (q : R (Itl X.K a) H1) : wpAny (model X.prog X.w) X.A (pyIter (.ref a)) (PIE X pins σ tg R) X.xe s1 := by
  obtain ⟨its, rv, p, hz⟩ := I1.list hq
  refine wpAny_pyIter_list p.isList ?_
  refine ⟨s1.heap.objs.size, [s1.heap.objs.size], _, _, H1, rfl, I1.kept (t' := s1.toks) fun b o e => Heap.get?_push_of_some _ e, turn_list a _, ⟨_, Heap.get?_push_size _ rfl, rfl, rfl⟩, fun b hb => ?_, q⟩
  have e : b = s1.heap.objs.size := by simpa using hb
  subst e
  exact I1.fpOk (Nat.le_refl _) (I1.hok.fresh (Nat.le_refl _))
theorem iter_tup {a : Addr} {xs : List V} (I1 : Inv X pins σ H1 s1) (hq : SqT X.K H1 a xs) (q : R (Itt X.K a) H1) : wpAny (model X.prog X.w) X.A (pyIter (.ref a)) (PIE X pins σ tg R) X.xe s1 := by
  obtain ⟨its, rv, p, hz⟩ := I1.tuple hq
  refine wpAny_pyIter_tuple (show s1.heap.IsTuple a its.toArray from p) ?_
  refine ⟨s1.heap.objs.size, [s1.heap.objs.size], _, _, H1, rfl, I1.kept (t' := s1.toks) fun b o e => Heap.get?_push_of_some _ e, turn_tuple a _, ⟨_, Heap.get?_push_size _ rfl, rfl, rfl⟩, fun b hb => ?_, q⟩
  have e : b = s1.heap.objs.size := by simpa using hb
  subst e
  exact I1.fpOk (Nat.le_refl _) (I1.hok.fresh (Nat.le_refl _))
theorem iter_str {x : Str} {t : Tok} (I1 : Inv X pins σ H1 s1) (q : R (Its x) H1) : wpAny (model X.prog X.w) X.A (pyIter (.str x t)) (PIE X pins σ tg R) X.xe s1 := by
  cases ha : x.cps.all (· < 128)
  · exact wpAny_pyIter_wide ha (pi_one (tk := s1.toks) I1 _ (turn_str _ x t "str_iterator" (.inr rfl)) ⟨_, Heap.get?_push_size _ rfl, rfl, rfl⟩ q)
  · exact wpAny_pyIter_ascii ha (pi_one (tk := s1.toks) I1 _ (turn_str _ x t "str_ascii_iterator" (.inl rfl)) ⟨_, Heap.get?_push_size _ rfl, rfl, rfl⟩ q)
end
/-- what is walked is a value: which iterator it has is seen when it has come -/
theorem simi_E {tg e : Expr} {m : ME} (h : SimE cl I N sc e m) : SimI cl I N sc tg e (iE m) := fun G T Wx X hG ok => by
  refine ⟨fun pins s σ H R J ⟨ρ, δ, S, he, hs, q⟩ => ?_⟩
  refine thn ((h G T Wx X hG ok).run pins s σ H (fun x H1 => (∃ a, x = .ref a ∧ (∃ xs, SqT G.K H1 a xs) ∧ R (Itt G.K a) H1) ∨ (∃ a, x = .ref a ∧ (∃ xs, SqL G.K H1 a xs) ∧ R (Itl G.K a) H1) ∨ (∃ z, x = .str z ∧ R (Its z) H1)) J ⟨ρ, δ, S, he, hs, (okR.then q).mono fun w S1 H1 ρ1 f1 st1 p v r fs => ?_⟩) fun v s1 ⟨x, H1, I1, r1, q1⟩ => ?_
  · split at p
    · cases r with
      | tup t l => exact .inl ⟨_, rfl, ⟨_, t.sq⟩, p H1 ρ1 (Fr.refl _ _) st1 _ (src_tup t l)⟩
    · cases r with
      | frz t l => exact .inr (.inl ⟨_, rfl, ⟨_, t.sq⟩, p H1 ρ1 (Fr.refl _ _) st1 _ (src_lst (fun H' ρ' f => (t.fr f.frz).sq) l)⟩)
    · cases r with
      | scr t l => exact .inr (.inl ⟨_, rfl, ⟨_, t.sq⟩, p H1 ρ1 (Fr.refl _ _) st1 _ (src_lst (fun H' ρ' f => (t.fr f.frz).sq) l)⟩)
    · cases r
      exact .inr (.inr ⟨_, rfl, p H1 ρ1 (Fr.refl _ _) st1 _ src_str⟩)
    · obtain ⟨a, rfl, n, xs, h1, l⟩ := r
      exact .inr (.inl ⟨a, rfl, ⟨xs, SqL.of h1⟩, p H1 ρ1 (Fr.refl _ _) st1 _ (src_lst (tmp_stays h1 n) l)⟩)
    · split at p
      · rename_i ds hd
        cases r with
        | loc er =>
          obtain ⟨xs, h1, l⟩ := st1.obj _ _ _ hd er
          exact .inr (.inl ⟨_, rfl, ⟨xs, SqL.of h1⟩, p H1 ρ1 (Fr.refl _ _) st1 _ (src_live er)⟩)
      · exact p.elim
    · exact p.elim
  · rcases q1 with ⟨a, ex, ⟨xs, hq⟩, q1⟩ | ⟨a, ex, ⟨xs, hq⟩, q1⟩ | ⟨z, ex, q1⟩
    · subst ex
      obtain rfl : v = Value.ref a := r1
      exact iter_tup I1 (by rw [ok.eK]; exact hq) (by rw [ok.eK]; exact q1)
    · subst ex
      obtain rfl : v = Value.ref a := r1
      exact iter_list I1 (by rw [ok.eK]; exact hq) (by rw [ok.eK]; exact q1)
    · subst ex
      obtain ⟨t, rfl⟩ := r1
      exact iter_str I1 q1
theorem simi_range1 {tg a : Expr} {m : ME} {p pos} (j : Nat) (h : SimE cl I N sc a m) (hj : I.bins[j]? = some "range" := by rfl) (hg : glob sc "range" = true := by rfl) (hs : ∀ env, starEach [a] env = [(false, eval a env)] := by intro _; rfl) :
    SimI cl I N sc tg (.Call (.Name "range" p) [a] [] pos) (iRange1 m) := fun G T Wx X hG ok => by
  refine (pi_range1 (ok.gl hg) (by rw [ok.eM]; exact hG.bin j _ hj) (pa_cons (h G T Wx X hG ok) pa_nil (hs X.env)) (hs X.env)).weak fun σ H R ⟨ρ, δ, S, he, hs, q⟩ => ?_
  refine ⟨ρ, δ, S, he, hs, (okR.then q).mono fun w S1 H1 ρ1 f1 st1 p v r fs => ?_⟩
  split at p
  · split at p
    · rename_i hb
      cases r
      have hb := small62_of hb
      exact ⟨_, rfl, hb.1, hb.2, p H1 ρ1 (Fr.refl _ _) st1 _ src_range⟩
    · exact p.elim
  · exact p.elim
theorem simi_range2 {tg a b : Expr} {m n : ME} {p pos} (j : Nat) (h : SimE cl I N sc a m) (h2 : SimE cl I N sc b n) (hj : I.bins[j]? = some "range" := by rfl) (hg : glob sc "range" = true := by rfl)
    (hs : ∀ env, starEach [a, b] env = [(false, eval a env), (false, eval b env)] := by intro _; rfl) (hs2 : ∀ env, starEach [b] env = [(false, eval b env)] := by intro _; rfl) :
    SimI cl I N sc tg (.Call (.Name "range" p) [a, b] [] pos) (iRange m n) := fun G T Wx X hG ok => by
  refine (pi_range2 (ok.gl hg) (by rw [ok.eM]; exact hG.bin j _ hj) (pa_cons (h G T Wx X hG ok) (pa_cons (h2 G T Wx X hG ok) pa_nil (hs2 X.env)) (by rw [hs, hs2])) (hs X.env) (hs2 X.env)).weak fun σ H R ⟨ρ, δ, S, he, hs, q⟩ => ?_
  refine ⟨ρ, δ, S, he, hs, (okR.then q).mono fun w S1 H1 ρ1 f1 st1 p v r fs => ?_⟩
  refine ⟨ρ1, δ, S1, he.fr f1, st1, (okR.then p).mono fun w2 S2 H2 ρ2 f2 st2 p2 v2 r2 fs2 => ?_⟩
  split at p2
  · split at p2
    · rename_i hb
      cases r
      cases r2
      have hb := Bool.and_eq_true_iff.mp hb
      have hb1 := small62_of hb.1
      have hb2 := small62_of hb.2
      exact ⟨_, _, rfl, ⟨hb1.1, hb1.2, hb2.1, hb2.2⟩, p2 H2 ρ2 (Fr.refl _ _) st2 _ src_range⟩
    · exact p2.elim
  · exact p2.elim

/-! ### targets -/
/-- but for the slots at is the same -/
def Agree (is : List Nat) (σ σ' : L2.St) : Prop := σ'.length = σ.length ∧ ∀ j : Nat, j ∉ is → σ'[j]? = σ[j]?
theorem Agree.refl (is : List Nat) (σ : L2.St) : Agree is σ σ := ⟨rfl, fun _ _ => rfl⟩
theorem wipe_in {σ : L2.St} {i : Nat} : ∀ {vs : List Nat}, i ∈ vs → i < σ.length → (L2.wipe σ vs)[i]? = some none
  | [], h, _ => by cases h
  | v :: vs, h, hl => by
    unfold L2.wipe
    by_cases e : v = i
    · subst e
      exact List.getElem?_set_self (by rw [L2.wipe_length]; exact hl)
    · rw [List.getElem?_set_ne e]
      rcases List.mem_cons.mp h with z | z
      · exact absurd z.symm e
      · exact wipe_in z hl
theorem Agree.wipe {is vs : List Nat} {σ σ' : L2.St} (a : Agree is σ σ') (h : ∀ i ∈ is, i ∈ vs) : L2.wipe σ' vs = L2.wipe σ vs := by
  apply List.ext_getElem?
  intro j
  by_cases hj : j ∈ vs
  · by_cases hl : j < σ.length
    · rw [wipe_in hj hl, wipe_in hj (by rw [a.1]; exact hl)]
    · rw [List.getElem?_eq_none (l := L2.wipe σ' vs) (by rw [L2.wipe_length, a.1]; omega), List.getElem?_eq_none (l := L2.wipe σ vs) (by rw [L2.wipe_length]; omega)]
  · rw [L2.wipe_out hj, L2.wipe_out hj]
    exact a.2 j fun m => hj (h j m)
def rdG (G : Gc) (g : Tg) (is : List Nat) : TG := fun v σ H Q => ∃ ρ δ d, EnvRep G H ρ δ σ ∧ Rep G H ρ d v ∧ match g d δ with
  | some δ' => ∀ σ', EnvRep G H ρ δ' σ' → Agree is σ σ' → Q σ' H
  | none => False
def rdGs (G : Gc) (is : List Nat) : TGs := fun vs σ H Q => ∃ ρ δ ds, EnvRep G H ρ δ σ ∧ RepL G H ρ ds vs ∧ match setAll is ds δ with
  | some δ' => ∀ σ', EnvRep G H ρ δ' σ' → Agree is σ σ' → Q σ' H
  | none => False
def SimG (I : Info) (N : List Str) (sc : Scope) (tg : Expr) (g : Tg) (is : List Nat) : Prop := ∀ G T Wx X, GOk I G → XOk I G T N sc Wx X → PG X tg (rdG G g is)
/-- a target of a comprehension -/
def SimG0 (cl : Bool) (I : Info) (N : List Str) (sc : Scope) (tg : Expr) (g : Tg) (is : List Nat) : Prop := ∀ G T Wx X, GOk I G → XOk0 cl I G T N sc Wx X → PG X tg (rdG G g is)
def SimGs (I : Info) (N : List Str) (sc : Scope) (tgs : List Expr) (is : List Nat) : Prop := ∀ G T Wx X, GOk I G → XOk I G T N sc Wx X → PGs X tgs (rdGs G is)
theorem _root_.L2.PG.weak {X : Cx} {tg : Expr} {t t' : TG} (h : PG X tg t) (f : ∀ v σ H Q, t' v σ H Q → t v σ H Q) : PG X tg t' := ⟨fun pins s σ H v u Q I r q => h.run pins s σ H v u Q I r (f v σ H Q q)⟩
theorem _root_.L2.PGs.weak {X : Cx} {tg : List Expr} {t t' : TGs} (h : PGs X tg t) (f : ∀ v σ H Q, t' v σ H Q → t v σ H Q) : PGs X tg t' := ⟨fun pins s σ H v u Q I r q => h.run pins s σ H v u Q I r (f v σ H Q q)⟩
def kindL (sc : Scope) (x : Str) : Bool := match sc.names.lookup x with
  | some .local => true
  | some .cell => true
  | _ => false
theorem loc_of {sc : Scope} {x : Str} (h : kindL sc x = true) : L2.Loc sc x := by
  unfold kindL at h
  unfold L2.Loc
  split at h <;> simp_all
theorem XOk.st {X : Cx} (ok : XOk I G T N sc Wx X) {x : Str} (h : kindL sc x = true) : X.fn x = true ∨ X.env.scope.names.lookup x = some .local := by
  rcases loc_of h with h | h
  · exact .inr (by rw [ok.eS]; exact h)
  · exact .inl (ok.fn x h)
theorem simg_N0 {x : Str} {pos} (i : Nat) (hN : N[i]? = some x := by rfl) (hk : sc.names.lookup x = some .local := by rfl) : SimG0 cl I N sc (.Name x pos) (gN i) [i] := fun G T Wx X hG ok => by
  refine (pg_name (i := i) (by rw [ok.eN]; exact ok.nd) (by rw [ok.eN]; exact hN) (by rw [ok.eS]; exact .inl hk) (.inr (by rw [ok.eS]; exact hk))).weak fun v σ H Q ⟨ρ, δ, d, he, r, q⟩ => ?_
  unfold gN at q
  split at q
  · rename_i e
    split at e
    · cases e
      exact q _ (he.set r) ⟨List.length_set, fun j hj => List.getElem?_set_ne fun z => hj (by simp [z])⟩
    · cases e
  · exact q.elim
theorem simg_N {x : Str} {pos} (i : Nat) (hN : N[i]? = some x := by rfl) (hk : kindL sc x = true := by rfl) : SimG I N sc (.Name x pos) (gN i) [i] := fun G T Wx X hG ok => by
  refine (pg_name (i := i) (by rw [ok.eN]; exact ok.nd) (by rw [ok.eN]; exact hN) (by rw [ok.eS]; exact loc_of hk) (ok.st hk)).weak fun v σ H Q ⟨ρ, δ, d, he, r, q⟩ => ?_
  unfold gN at q
  split at q
  · rename_i e
    split at e
    · cases e
      exact q _ (he.set r) ⟨List.length_set, fun j hj => List.getElem?_set_ne fun z => hj (by simp [z])⟩
    · cases e
  · exact q.elim
/-- the targets within a tuple: g says which slots -/
theorem gs_nil {X : Cx} : PGs X [] (rdGs G []) := pgs_nil.weak fun v σ H Q ⟨ρ, δ, ds, he, r, q⟩ => by
  cases r with
  | nil => exact ⟨rfl, q σ he (Agree.refl _ _)⟩
  | cons _ _ => exact q.elim
theorem gs_cons {X : Cx} {e : Expr} {es : List Expr} {i : Nat} {is : List Nat} (h : PG X e (rdG G (gN i) [i])) (hs : PGs X es (rdGs G is)) (ha : (assignEach (e :: es) X.env).map (·.2) = assign e X.env :: (assignEach es X.env).map (·.2)) :
    PGs X (e :: es) (rdGs G (i :: is)) := (pgs_cons h hs ha).weak fun v σ H Q ⟨ρ, δ, ds, he, r, q⟩ => by
  cases r with
  | nil => exact q.elim
  | cons r l =>
    refine ⟨_, _, rfl, ρ, δ, _, he, r, ?_⟩
    unfold setAll at q
    unfold gN
    by_cases h : i < δ.length
    · rw [if_pos h] at q ⊢
      refine fun σ' he' ag => ⟨ρ, _, _, he', l, ?_⟩
      split at q
      · refine fun σ2 he2 ag2 => q σ2 he2 ⟨ag2.1.trans ag.1, fun j hj => ?_⟩
        rw [List.mem_cons, not_or] at hj
        exact (ag2.2 j hj.2).trans (ag.2 j (by simpa using hj.1))
      · exact q.elim
    · rw [if_neg h] at q
      exact q.elim
theorem setAll_len : ∀ {is : List Nat} {ds : List D} {δ δ' : MM.Env}, setAll is ds δ = some δ' → is.length = ds.length
  | [], [], _, _, _ => rfl
  | i :: is, d :: ds, δ, δ', e => by
    unfold setAll at e
    split at e
    · rw [List.length_cons, List.length_cons, setAll_len e]
    · cases e
theorem g_T {X : Cx} {es : List Expr} {is : List Nat} {k pos} (eK : X.K = G.K) (hc : X.calm = true) (h : PGs X es (rdGs G is)) (hn : (assignEach es X.env).length = is.length) (hst : (assignEach es X.env).findIdx? (·.1) = none) : PG X (.Tuple es k pos) (rdG G (gT is) is) := by
  refine (pg_tup (n := is.length) hc h hn hst).weak fun v σ H Q ⟨ρ, δ, d, he, r, q⟩ => ?_
  unfold gT at q
  split at q
  · rename_i δ' e
    split at e
    · cases r with
      | tup t l =>
        refine ⟨_, _, rfl, by rw [eK]; exact t.sq, by rw [← l.length, setAll_len e], ρ, δ, _, he, l, ?_⟩
        rw [e]
        exact q
    · cases e
  · exact q.elim
def SimGs0 (cl : Bool) (I : Info) (N : List Str) (sc : Scope) (tgs : List Expr) (is : List Nat) : Prop := ∀ G T Wx X, GOk I G → XOk0 cl I G T N sc Wx X → PGs X tgs (rdGs G is)
theorem simgs_nil : SimGs I N sc [] [] := fun G T Wx X hG ok => gs_nil
theorem simgs_nil0 : SimGs0 cl I N sc [] [] := fun G T Wx X hG ok => gs_nil
theorem simgs_cons {e : Expr} {es : List Expr} {i : Nat} {is : List Nat} (h : SimG I N sc e (gN i) [i]) (hs : SimGs I N sc es is) (ha : ∀ env, (assignEach (e :: es) env).map (·.2) = assign e env :: (assignEach es env).map (·.2) := by intro _; rfl) :
    SimGs I N sc (e :: es) (i :: is) := fun G T Wx X hG ok => gs_cons (h G T Wx X hG ok) (hs G T Wx X hG ok) (ha X.env)
theorem simgs_cons0 {e : Expr} {es : List Expr} {i : Nat} {is : List Nat} (h : SimG0 cl I N sc e (gN i) [i]) (hs : SimGs0 cl I N sc es is) (ha : ∀ env, (assignEach (e :: es) env).map (·.2) = assign e env :: (assignEach es env).map (·.2) := by intro _; rfl) :
    SimGs0 cl I N sc (e :: es) (i :: is) := fun G T Wx X hG ok => gs_cons (h G T Wx X hG ok) (hs G T Wx X hG ok) (ha X.env)
theorem simg_T {es : List Expr} {is : List Nat} {k pos} (h : SimGs I N sc es is) (hn : ∀ env, (assignEach es env).length = is.length := by intro _; rfl) (hst : ∀ env, (assignEach es env).findIdx? (·.1) = none := by intro _; rfl) :
    SimG I N sc (.Tuple es k pos) (gT is) is := fun G T Wx X hG ok => g_T ok.eK ok.calm (h G T Wx X hG ok) (hn X.env) (hst X.env)
theorem simg_T0 {es : List Expr} {is : List Nat} {k pos} (h : SimGs0 true I N sc es is) (hn : ∀ env, (assignEach es env).length = is.length := by intro _; rfl) (hst : ∀ env, (assignEach es env).findIdx? (·.1) = none := by intro _; rfl) :
    SimG0 true I N sc (.Tuple es k pos) (gT is) is := fun G T Wx X hG ok => g_T ok.eK ok.calm (h G T Wx X hG ok) (hn X.env) (hst X.env)

/-! ### for -/
/-- the loops' turns: what a body's end is asked -/
theorem turn_ok {D : Ends} {f : Fl} {k : MM.Env → Sto → Fl} {Nx : L2.St → Hp → Prop}
    (q : okF G H ρ Wx D (match f with
      | .nx δ2 S2 => k δ2 S2
      | .ct δ2 S2 => k δ2 S2
      | .bk δ2 S2 => .nx δ2 S2
      | f => f))
    (hN : ∀ δ2 S2 σ' H' ρ', Fr H ρ H' ρ' → StOk G H' ρ' S2 → EnvRep G H' ρ' δ2 σ' → okF G H' ρ' Wx D (k δ2 S2) → Nx σ' H') : okF G H ρ Wx { D with nx := Nx, ct := Nx, bk := D.nx } f := by
  cases f with
  | nx δ2 S2 => exact fun σ' H' ρ' fr st he => hN δ2 S2 σ' H' ρ' fr st he (okF.later q fr st)
  | ct δ2 S2 => exact fun σ' H' ρ' fr st he => hN δ2 S2 σ' H' ρ' fr st he (okF.later q fr st)
  | bk δ2 S2 => exact q
  | rt w S2 => exact q
  | exc c ds δ2 S2 => exact q
  | bad => exact q
theorem sims_for {tg iter : Expr} {body : List Stmt} {mi : MI} {g : Tg} {mb : MS} {pos} (hi : SimI true I N sc tg iter mi) {is : List Nat} (hg : SimG I N sc tg g is) (hb : SimB I N sc body mb)
    (hf : ∀ env x, foldedSetIterable iter env x = pure x := by intro _ _; rfl) : SimS I N sc (.For tg iter body [] pos) (sFor mi g mb) := fun G T Wx X hG ok => by
  refine (ps_for ok.po ok.calm (hi G T Wx X hG ok.toXOk0) (hg G T Wx X hG ok) (hb G T Wx X hG ok) (hf X.env)).weak fun D σ H ⟨ρ, δ, S, he, hs, q⟩ => ?_
  refine ⟨ρ, δ, S, he, hs, (okF.thenS he q).mono fun src S1 H1 ρ1 f1 st1 p J hJ => ?_⟩
  cases src with
  | items ds =>
    refine ⟨fun i m σ' H' => ∃ ρ' δ' S', m = ds.length - i ∧ Fr H1 ρ1 H' ρ' ∧ EnvRep G H' ρ' δ' σ' ∧ StOk G H' ρ' S' ∧ okF G H' ρ' Wx D (loopI g (mb T) (ds.drop i) δ' S'), ⟨ds.length, ρ1, δ, S1, rfl, Fr.refl _ _, he.fr f1, st1, p⟩, ?_⟩
    rintro i m σ' H' ⟨ρ', δ', S', rfl, f', he', st', p'⟩
    obtain ⟨j1, j2⟩ := hJ H' ρ' S' f' st' i
    by_cases hlt : i < ds.length
    · refine .inr ?_
      obtain ⟨go, yl⟩ := j1 ds[i] (congrArg some (List.getElem?_eq_getElem hlt))
      rw [List.drop_eq_getElem_cons hlt] at p'
      refine ⟨go, fun σ'' H'' => ∃ m', m' < ds.length - i ∧ ∃ ρ' δ' S', m' = ds.length - (i + 1) ∧ Fr H1 ρ1 H'' ρ' ∧ EnvRep G H'' ρ' δ' σ'' ∧ StOk G H'' ρ' S' ∧ okF G H'' ρ' Wx D (loopI g (mb T) (ds.drop (i + 1)) δ' S'), fun σ'' H'' h => h, fun x H'' y => ?_⟩
      obtain ⟨f2, st2, rx⟩ := yl x H'' y
      unfold loopI at p'
      refine ⟨ρ', δ', ds[i], he'.fr f2, rx, ?_⟩
      split at p'
      · rename_i δ1 eg
        try rw [eg]
        refine fun σ2 he2 _ => ⟨ρ', δ1, S', he2, st2, turn_ok (okF.later p' f2 st2) fun δ3 S3 σ3 H3 ρ3 f3 st3 he3 p3 => ?_⟩
        exact ⟨_, by omega, ρ3, δ3, S3, rfl, f'.trans (f2.trans f3), he3, st3, p3⟩
      · exact p'.elim
    · refine .inl ⟨j2 (congrArg some (List.getElem?_eq_none (by omega))), ?_⟩
      rw [List.drop_eq_nil_of_le (by omega)] at p'
      exact p' σ' H' ρ' (Fr.refl _ _) st' he'
  | live n en =>
    refine ⟨fun i m σ' H' => ∃ ρ' δ' S', Fr H1 ρ1 H' ρ' ∧ EnvRep G H' ρ' δ' σ' ∧ StOk G H' ρ' S' ∧ okF G H' ρ' Wx D (loopL g (mb T) n en m i δ' S'), ⟨lenAt n S1, ρ1, δ, S1, Fr.refl _ _, he.fr f1, st1, p⟩, ?_⟩
    rintro i m σ' H' ⟨ρ', δ', S', f', he', st', p'⟩
    obtain ⟨j1, j2⟩ := hJ H' ρ' S' f' st' i
    unfold loopL at p'
    split at p'
    · exact p'.elim
    · rename_i e
      exact .inl ⟨j2 e, p' σ' H' ρ' (Fr.refl _ _) st' he'⟩
    · rename_i d e
      refine .inr ?_
      obtain ⟨go, yl⟩ := j1 d e
      split at p'
      · exact p'.elim
      · rename_i fuel
        refine ⟨go, fun σ'' H'' => ∃ m', m' < fuel + 1 ∧ ∃ ρ' δ' S', Fr H1 ρ1 H'' ρ' ∧ EnvRep G H'' ρ' δ' σ'' ∧ StOk G H'' ρ' S' ∧ okF G H'' ρ' Wx D (loopL g (mb T) n en m' (i + 1) δ' S'), fun σ'' H'' h => h, fun x H'' y => ?_⟩
        obtain ⟨f2, st2, rx⟩ := yl x H'' y
        refine ⟨ρ', δ', d, he'.fr f2, rx, ?_⟩
        split at p'
        · rename_i δ1 eg
          try rw [eg]
          refine fun σ2 he2 _ => ⟨ρ', δ1, S', he2, st2, turn_ok (okF.later p' f2 st2) fun δ3 S3 σ3 H3 ρ3 f3 st3 he3 p3 => ?_⟩
          exact ⟨fuel, Nat.lt_succ_self _, ρ3, δ3, S3, f'.trans (f2.trans f3), he3, st3, p3⟩
        · exact p'.elim
theorem sims_while {c : Expr} {body : List Stmt} {mc : MT} {mb : MS} {pos} (fuel : Nat) (hc : SimT true I N sc c mc) (hb : SimB I N sc body mb) : SimS I N sc (.While c body [] pos) (sWhile fuel mc mb) := fun G T Wx X hG ok => by
  refine (ps_while ok.po (hc G T Wx X hG ok.toXOk0) (hb G T Wx X hG ok)).weak fun D σ H ⟨ρ, δ, S, he, hs, q⟩ => ?_
  refine ⟨fun m σ' H' => ∃ ρ' δ' S', EnvRep G H' ρ' δ' σ' ∧ StOk G H' ρ' S' ∧ okF G H' ρ' Wx D (loopW (mc T) (mb T) m δ' S'), ⟨fuel, ρ, δ, S, he, hs, q⟩, ?_⟩
  rintro m σ' H' ⟨ρ', δ', S', he', st', p'⟩
  unfold loopW at p'
  split at p'
  · exact p'.elim
  · rename_i fuel
    refine ⟨ρ', δ', S', he', st', (okF.thenS he' p').mono fun b S1 H1 ρ1 f1 st1 p => ?_⟩
    cases b with
    | true =>
      refine iteT ⟨fun σ'' H'' => ∃ m', m' < fuel + 1 ∧ ∃ ρ' δ' S', EnvRep G H'' ρ' δ' σ'' ∧ StOk G H'' ρ' S' ∧ okF G H'' ρ' Wx D (loopW (mc T) (mb T) m' δ' S'), fun σ'' H'' h => h, ?_⟩
      exact ⟨ρ1, δ', S1, he'.fr f1, st1, turn_ok p fun δ3 S3 σ3 H3 ρ3 f3 st3 he3 p3 => ⟨fuel, Nat.lt_succ_self _, ρ3, δ3, S3, he3, st3, p3⟩⟩
    | false => exact iteF (p σ' H1 ρ1 (Fr.refl _ _) st1 (he'.fr f1))
end
end MM
set_option maxRecDepth 100000
set_option maxHeartbeats 2000000
/-! MM, part J: comprehensions, statements, a def's own promise. -/
namespace MM
open PySem PySem.Spec L2
section
variable {cl : Bool} {I : Info} {N : List Str} {sc : Scope} {G : Gc} {T : FT} {Wx : WX} {H : Hp} {ρ : List Addr} {δ : MM.Env} {S : Sto} {σ : L2.St}
/-- a comprehension's block -/
theorem XOk0.blk {X : Cx} (ok : XOk0 true I G T N sc Wx X) {scope : Scope} {s : Shared} {H : Hp} {C : Addr} {cl : List (Str × Addr)} {fp : List Addr} : XOk0 true I G T N (relS scope sc) (fun _ _ _ _ => False) (X.blk s H scope (compEnvC scope cl C X.env) fp) where
  eK := ok.eK
  eM := ok.eM
  eN := ok.eN
  eS := by rw [← ok.eS]; rfl
  nd := ok.nd
  units := ok.units
  tk := takes0
  kd := ok.kd
  gen' := ok.gen'
  calm' := fun _ => ok.calm
  calls' := fun _ => ok.calls' rfl
def SimTs (cl : Bool) (I : Info) (N : List Str) (sc : Scope) (ifs : List Expr) (m : MT) : Prop := ∀ G T Wx X, GOk I G → XOk0 cl I G T N sc Wx X → PTs X ifs (rdT G T Wx m)
theorem _root_.L2.PTs.weak {X : Cx} {e : List Expr} {t t' : TT} (h : PTs X e t) (f : ∀ σ H Q, t' σ H Q → t σ H Q) : PTs X e t' := ⟨fun pins s σ H Q I q => h.run pins s σ H Q I (f σ H Q q)⟩
theorem simts_nil : SimTs cl I N sc [] tYes := fun G T Wx X hG ok => pts_nil.weak fun σ H Q ⟨ρ, δ, S, he, hs, q⟩ => q H ρ (Fr.refl _ _) hs
theorem simts_one {c : Expr} {m : MT} (h : SimT cl I N sc c m) : SimTs cl I N sc [c] m := fun G T Wx X hG ok => pts_one (h G T Wx X hG ok)
/-- the new list grows; nothing else has changed -/
theorem Fr.grow {H1 H' : Hp} {ρ1 ρ' : List Addr} {D : Addr} {xs ys : List V} (f : Fr H1 ρ1 H' ρ') (hD : H1 D = none) (h : H' D = some (.lst xs)) : Fr H1 ρ1 (upd H' D (.lst ys)) ρ' where
  pre := f.pre
  tup := fun a zs e => by rw [upd_ne (ne_of_none e hD)]; exact f.tup a zs e
  frz := fun a o u e => by rw [upd_ne (ne_of_none e hD)]; exact f.frz a o u e
  out0 := fun a o e n => by rw [upd_ne (ne_of_none e hD)]; exact f.out0 a o e n
  new := f.new
theorem StOk.grow {D : Addr} {xs ys : List V} (st : StOk G H ρ S) (n : D ∉ ρ) (h : H D = some (.lst xs)) : Sub H ρ (upd H D (.lst ys)) ρ ∧ StOk G (upd H D (.lst ys)) ρ S := by
  have sb : Sub H ρ (upd H D (.lst ys)) ρ := ⟨fun _ _ e => e, fun a zs e => by rw [upd_ne (fun z => by rw [z, h] at e; cases e)]; exact e, fun a o u e => by rw [upd_ne (fun z => by rw [z, h] at e; cases e)]; exact e⟩
  exact ⟨sb, st.sub sb (fun a m => upd_ne fun z => n (z ▸ m)) fun q ps e => by rw [upd_ne (fun z => by rw [z, h] at e; cases e)]; exact e⟩
theorem Fr.notin {H' : Hp} {ρ' : List Addr} {D : Addr} {o : HO} (f : Fr H ρ H' ρ') (h : H D = some o) (n : D ∉ ρ) (hn : ∀ ps, o ≠ .tbl ps := by simp) : D ∉ ρ' ∧ H' D = some o :=
  ⟨(fun m => by have := f.new D m n; rw [h] at this; cases this), f.out D o h n hn⟩
/-- what is asked of the list that a comprehension has made -/
def Goal (G : Gc) (H : Hp) (Q : VK) (acc : List D) : List D → Sto → Hp → List Addr → Prop := fun ys _ H2 ρ2 => ∀ v, RepW G H2 ρ2 (.tmp (.lst (acc ++ ys))) v → Fresh H (.tmp (.lst (acc ++ ys))) v → Q v H2
/-- one turn of a comprehension -/
theorem comp_turn {tt : TT} {te : TE} {g : TG} {mt : MT} {me : ME} {gD : Tg} {d : D} {x : V} {vs is : List Nat} {k : Sto → R (List D)} {Q : VK} {H0 H1 : Hp} {ρ1 : List Addr} {L : Addr} {acc : List D} {xs : List V} {Nx : Hp → Prop} {Wo : WX} {σo : L2.St} {δ0 : MM.Env}
    (hg : g = rdG G gD is) (htt : tt = rdT G T (fun _ _ _ _ => False) mt) (hte : te = rdE G T (fun _ _ _ _ => False) me) (hsub : ∀ i ∈ is, i ∈ vs) (he : EnvRep G H ρ δ0 (wipe σ vs)) (st : StOk G H ρ S) (f : Fr H1 ρ1 H ρ) (rx : Rep G H ρ d x)
    (hL1 : H1 L = none) (hL : H L = some (.lst xs)) (nL : L ∉ ρ) (ra : RepL G H ρ acc xs) (hz : acc.length < sizeLine)
    (p : match gD d δ0 with
      | some δ1 => okR G H1 ρ1 Wo σo (Goal G H0 Q acc) ((mt T δ1 S).nox.then fun b S1 => if b = true then (bnd me T δ1 S1).nox.then fun y S2 => (k S2).then fun ys S3 => .ok (y :: ys) S3 else k S1)
      | none => False)
    (hN : ∀ (acc' : List D) (xs' : List V) S' H' ρ', acc'.length ≤ acc.length + 1 → Fr H1 ρ1 H' ρ' → StOk G H' ρ' S' → H' L = some (.lst xs') → L ∉ ρ' → RepL G H' ρ' acc' xs' → okR G H1 ρ1 Wo σo (Goal G H0 Q acc') (k S') → Nx H') :
    g x (wipe σ vs) H fun σ2 H2 => wipe σ2 vs = wipe σ vs ∧ tt σ2 H2 fun b H3 =>
      if b = true then te σ2 H3 fun y H4 => ∃ acc, H4 L = some (.lst acc) ∧ acc.length < sizeLine ∧ Nx (upd H4 L (.lst (acc ++ [y]))) else Nx H3 := by
  subst hg htt hte
  refine ⟨ρ, δ0, d, he, rx, ?_⟩
  split at p
  · rename_i δ1 eg
    try rw [eg]
    refine fun σ2 he2 ag => ⟨?_, ?_⟩
    · have := ag.wipe hsub
      have w2 : wipe (wipe σ vs) vs = wipe σ vs := by
        have a : Agree vs σ (wipe σ vs) := ⟨L2.wipe_length _ _, fun j hj => L2.wipe_out hj⟩
        exact a.wipe fun _ h => h
      rw [this, w2]
    · refine ⟨ρ, δ1, S, he2, st, ((okR.nox (okR.thenO p)).later f).mono fun b S1 H3 ρ3 f3 st3 p3 => ?_⟩
      obtain ⟨nL3, hL3⟩ := f3.notin hL nL
      cases b with
      | false => exact iteF (hN acc xs S1 H3 ρ3 (by omega) (f.trans f3) st3 hL3 nL3 (ra.fr f3) p3)
      | true =>
        refine iteT ⟨ρ3, δ1, S1, he2.fr f3, st3, (bnd_ok ((okR.nox (okR.thenO (f := fun y S2 => (k S2).then fun ys S3 => .ok (y :: ys) S3) p3)).later (f.trans f3))).mono fun w S2 H4 ρ4 f4 st4 p4 v r fs => ?_⟩
        obtain ⟨y, S5, ρ5, ry, st5, f5, p5⟩ := p4 v r fs
        obtain ⟨nL5, hL5⟩ := f5.notin hL3 nL3
        refine ⟨xs, hL5, by rw [← ra.length]; exact hz, ?_⟩
        obtain ⟨sb, st6⟩ := st5.grow (ys := xs ++ [v]) nL5 hL5
        refine hN (acc ++ [y]) (xs ++ [v]) S5 _ ρ5 (by simp) (Fr.grow (f.trans (f3.trans f5)) hL1 hL5) st6 upd_same nL5 (((ra.fr (f3.trans f5)).sub sb).append (.cons (ry.sub sb) .nil)) ?_
        refine (okR.thenO p5).mono fun ys S7 H7 ρ7 f7 st7 p7 u ru fu => ?_
        have ea : acc ++ [y] ++ ys = acc ++ y :: ys := by simp
        rw [ea] at ru fu
        exact p7 H7 ρ7 f7 st7 u ru fu
  · exact p.elim
/-- what a comprehension's rule asks -/
theorem lc_read {mi : MI} {gD : Tg} {is vs : List Nat} {mt : MT} {me : ME} {Q : VK} (hsub : ∀ i ∈ is, i ∈ vs) (hq : rdE G T Wx (eLc mi vs gD mt me) σ H Q) :
    tLc (rdI G T Wx mi) (rdG G gD is) (rdT G T (fun _ _ _ _ => False) mt) (rdE G T (fun _ _ _ _ => False) me) vs σ H Q := by
  obtain ⟨ρ, δ, S, he, hs, q⟩ := hq
  refine ⟨ρ, δ, S, he, hs, (okR.then q).mono fun src S1 H1 ρ1 f1 st1 p J hJ L hL => ?_⟩
  have nL1 := st1.free hL
  have fL := fr_new (o := .lst []) hL nL1
  have fin : ∀ {acc : List D} {xs : List V} {S' : Sto} {H' : Hp} {ρ' : List Addr}, Fr H1 ρ1 H' ρ' → StOk G H' ρ' S' → H' L = some (.lst xs) → L ∉ ρ' → RepL G H' ρ' acc xs → okR G H1 ρ1 Wx σ (Goal G H Q acc) (R.ok [] S') → Q (.ref L) H' :=
    fun {acc xs S' H' ρ'} f st h n r p => by
      refine p H' ρ' f st (.ref L) ⟨L, rfl, n, xs, h, by rw [List.append_nil]; exact r⟩ fun b e => ?_
      cases e
      exact f1.noneAt st1 hL
  cases src with
  | items ds =>
    have q' : okR G H1 ρ1 Wx σ (Goal G H Q []) (if ds.length ≤ sizeLine then compI gD (mt T) (bnd me T) (wipeD δ vs) ds S1 else .bad) :=
      (okR.thenO p).mono fun ys S2 H2 ρ2 f2 st2 p2 v r fs => p2 H2 ρ2 f2 st2 v r fs
    by_cases hz : ds.length ≤ sizeLine
    · rw [if_pos hz] at q'
      refine ⟨fun i m H' => ∃ ρ' S' acc xs, m = ds.length - i ∧ acc.length ≤ i ∧ Fr H1 ρ1 H' ρ' ∧ StOk G H' ρ' S' ∧ H' L = some (.lst xs) ∧ L ∉ ρ' ∧ RepL G H' ρ' acc xs ∧ okR G H1 ρ1 Wx σ (Goal G H Q acc) (compI gD (mt T) (bnd me T) (wipeD δ vs) (ds.drop i) S'),
        ⟨ds.length, ρ1, S1, [], [], (Nat.sub_zero _).symm, Nat.le_refl _, fL, st1.new hL, upd_same, nL1, .nil, q'⟩, ?_⟩
      rintro i m H' ⟨ρ', S', acc, xs, rfl, hl, f', st', hL', nL', ra, p'⟩
      obtain ⟨j1, j2⟩ := hJ H' ρ' S' f' st' i
      by_cases hlt : i < ds.length
      · refine .inr ?_
        obtain ⟨go, yl⟩ := j1 ds[i] (congrArg some (List.getElem?_eq_getElem hlt))
        rw [List.drop_eq_getElem_cons hlt] at p'
        refine ⟨go, fun H'' => ∃ m', m' < ds.length - i ∧ ∃ ρ' S' acc xs, m' = ds.length - (i + 1) ∧ acc.length ≤ i + 1 ∧ Fr H1 ρ1 H'' ρ' ∧ StOk G H'' ρ' S' ∧ H'' L = some (.lst xs) ∧ L ∉ ρ' ∧ RepL G H'' ρ' acc xs ∧ okR G H1 ρ1 Wx σ (Goal G H Q acc) (compI gD (mt T) (bnd me T) (wipeD δ vs) (ds.drop (i + 1)) S'), fun H'' h => h, fun x H'' y => ?_⟩
        obtain ⟨f2, st2, rx⟩ := yl x H'' y
        obtain ⟨nL2, hL2⟩ := f2.notin hL' nL'
        unfold compI at p'
        refine comp_turn rfl rfl rfl hsub ((he.fr (f1.trans (f'.trans f2))).wipe _) st2 (f'.trans f2) rx hL hL2 nL2 (ra.fr f2) (Nat.lt_of_lt_of_le (Nat.lt_of_le_of_lt hl hlt) hz) (k := fun S => compI gD (mt T) (bnd me T) (wipeD δ vs) (ds.drop (i + 1)) S) ?_ fun acc' xs' S3 H3 ρ3 hl3 f3 st3 hL3 nL3 ra3 p3 => ⟨_, by omega, ρ3, S3, acc', xs', rfl, by omega, f3, st3, hL3, nL3, ra3, p3⟩
        split at p'
        · rename_i e
          try rw [e]
          exact p'
        · exact p'.elim
      · refine .inl ⟨j2 (congrArg some (List.getElem?_eq_none (by omega))), ?_⟩
        rw [List.drop_eq_nil_of_le (by omega)] at p'
        exact fin f' st' hL' nL' ra p'
    · rw [if_neg hz] at q'
      exact q'.elim
  | live n en =>
    have q' : okR G H1 ρ1 Wx σ (Goal G H Q []) (if lenAt n S1 ≤ sizeLine then compL gD (mt T) (bnd me T) (wipeD δ vs) n en (lenAt n S1) 0 S1 else .bad) :=
      (okR.thenO p).mono fun ys S2 H2 ρ2 f2 st2 p2 v r fs => p2 H2 ρ2 f2 st2 v r fs
    by_cases hz : lenAt n S1 ≤ sizeLine
    · rw [if_pos hz] at q'
      refine ⟨fun i m H' => ∃ ρ' S' acc xs, m + i = lenAt n S1 ∧ acc.length ≤ i ∧ Fr H1 ρ1 H' ρ' ∧ StOk G H' ρ' S' ∧ H' L = some (.lst xs) ∧ L ∉ ρ' ∧ RepL G H' ρ' acc xs ∧ okR G H1 ρ1 Wx σ (Goal G H Q acc) (compL gD (mt T) (bnd me T) (wipeD δ vs) n en m i S'),
        ⟨lenAt n S1, ρ1, S1, [], [], rfl, Nat.le_refl _, fL, st1.new hL, upd_same, nL1, .nil, q'⟩, ?_⟩
      rintro i m H' ⟨ρ', S', acc, xs, hm, hl, f', st', hL', nL', ra, p'⟩
      obtain ⟨j1, j2⟩ := hJ H' ρ' S' f' st' i
      unfold compL at p'
      split at p'
      · exact p'.elim
      · rename_i e
        exact .inl ⟨j2 e, fin f' st' hL' nL' ra p'⟩
      · rename_i d e
        refine .inr ?_
        obtain ⟨go, yl⟩ := j1 d e
        split at p'
        · exact p'.elim
        · rename_i fuel
          refine ⟨go, fun H'' => ∃ m', m' < fuel + 1 ∧ ∃ ρ' S' acc xs, m' + (i + 1) = lenAt n S1 ∧ acc.length ≤ i + 1 ∧ Fr H1 ρ1 H'' ρ' ∧ StOk G H'' ρ' S' ∧ H'' L = some (.lst xs) ∧ L ∉ ρ' ∧ RepL G H'' ρ' acc xs ∧ okR G H1 ρ1 Wx σ (Goal G H Q acc) (compL gD (mt T) (bnd me T) (wipeD δ vs) n en m' (i + 1) S'), fun H'' h => h, fun x H'' y => ?_⟩
          obtain ⟨f2, st2, rx⟩ := yl x H'' y
          obtain ⟨nL2, hL2⟩ := f2.notin hL' nL'
          refine comp_turn rfl rfl rfl hsub ((he.fr (f1.trans (f'.trans f2))).wipe _) st2 (f'.trans f2) rx hL hL2 nL2 (ra.fr f2) (by omega) (k := fun S => compL gD (mt T) (bnd me T) (wipeD δ vs) n en fuel (i + 1) S) ?_ fun acc' xs' S3 H3 ρ3 hl3 f3 st3 hL3 nL3 ra3 p3 => ⟨fuel, Nat.lt_succ_self _, ρ3, S3, acc', xs', by omega, by omega, f3, st3, hL3, nL3, ra3, p3⟩
          split at p'
          · rename_i e
            try rw [e]
            exact p'
          · exact p'.elim
    · rw [if_neg hz] at q'
      exact q'.elim
theorem sim_lc {elt tg iter : Expr} {ifs : List Expr} {scope : Scope} {own : List (Str × Nat)} {pos} {mi : MI} {gD : Tg} {is : List Nat} {mt : MT} {me : ME} (hi : SimI true I N sc tg iter mi) (hg : SimG0 true I N (relS scope sc) tg gD is) (ht : SimTs true I N (relS scope sc) ifs mt) (he : SimE true I N (relS scope sc) elt me)
    (hb : blkC N sc scope own = true := by decide +kernel) (his : (is.all fun i => (own.map (·.2)).contains i) = true := by decide +kernel) (hf : ∀ env x, foldedSetIterable iter env x = pure x := by intro _ _; rfl) :
    SimE true I N sc (.ListComp elt [⟨tg, iter, ifs, 0⟩] scope pos) (eLc mi (own.map (·.2)) gD mt me) := fun G T Wx X hG ok => by
  have hsub : ∀ i ∈ is, i ∈ own.map (·.2) := fun i hi => by simpa using List.all_eq_true.mp his i hi
  exact (pe_lc (own := own) ok.calm (by rw [ok.eN]; exact ok.nd) (hi G T Wx X hG ok) (by rw [ok.eN, ok.eS]; exact blkOk_by hb) (fun s H C cl fp => hg G T _ _ hG ok.blk) (fun s H C cl fp => ht G T _ _ hG ok.blk) (fun s H C cl fp => he G T _ _ hG ok.blk) (hf X.env)).weak fun σ H Q q => lc_read hsub q
end
end MM
set_option maxRecDepth 100000
set_option maxHeartbeats 2000000
/-! MM, part K: statements; a def's own promise. -/
namespace MM
open PySem PySem.Spec PyProof.Rows L2
section
variable {cl : Bool} {I : Info} {N : List Str} {sc : Scope} {G : Gc} {T : FT} {Wx : WX} {H : Hp} {ρ : List Addr} {δ : MM.Env} {S : Sto} {σ : L2.St}
theorem sims_pass {pos} : SimS I N sc (.Pass pos) sNil := fun G T Wx X hG ok => ps_pass.weak fun D σ H ⟨ρ, δ, S, he, hs, q⟩ => q σ H ρ (Fr.refl _ _) hs he
theorem sims_break {pos} : SimS I N sc (.Break pos) sBreak := fun G T Wx X hG ok => ps_break.weak fun D σ H ⟨ρ, δ, S, he, hs, q⟩ => q σ H ρ (Fr.refl _ _) hs he
theorem sims_cont {pos} : SimS I N sc (.Continue pos) sCont := fun G T Wx X hG ok => ps_continue.weak fun D σ H ⟨ρ, δ, S, he, hs, q⟩ => q σ H ρ (Fr.refl _ _) hs he
theorem sims_expr {e : Expr} {m : ME} {pos : Pos} (h : SimE true I N sc e m) (hs : ∀ env, swapsWith e none pos.line env = pure false := by intro _; rfl) : SimS I N sc (.Expr e pos) (sE m) := fun G T Wx X hG ok => by
  refine (ps_expr (h G T Wx X hG ok.toXOk0) (hs X.env)).weak fun D σ H ⟨ρ, δ, S, he, hs, q⟩ => ?_
  exact ⟨ρ, δ, S, he, hs, (okF.thenS he q).mono fun w S1 H1 ρ1 f1 st1 p v r fs => p σ H1 ρ1 (Fr.refl _ _) st1 (he.fr f1)⟩
theorem sims_ret {e : Expr} {m : ME} {pos : Pos} (h : SimE true I N sc e m) : SimS I N sc (.Return (some e) pos) (sRet m) := fun G T Wx X hG ok => by
  refine (ps_ret (h G T Wx X hG ok.toXOk0)).weak fun D σ H ⟨ρ, δ, S, he, hs, q⟩ => ?_
  exact ⟨ρ, δ, S, he, hs, (okF.thenO he q).mono fun w S1 H1 ρ1 f1 st1 p v r fs => p H1 ρ1 v f1 st1 r fs⟩
theorem sims_retN {pos : Pos} : SimS I N sc (.Return none pos) sRetN := fun G T Wx X hG ok => ps_retN.weak fun D σ H ⟨ρ, δ, S, he, hs, q⟩ => q H ρ .non (Fr.refl _ _) hs .non True.intro
theorem sims_if {c : Expr} {a b : List Stmt} {mc : MT} {ma mb : MS} {pos} (hc : SimT true I N sc c mc) (ha : SimB I N sc a ma) (hb : SimB I N sc b mb) : SimS I N sc (.If c a b pos) (sIf mc ma mb) := fun G T Wx X hG ok => by
  refine (ps_if (hc G T Wx X hG ok.toXOk0) (ha G T Wx X hG ok) (hb G T Wx X hG ok)).weak fun D σ H ⟨ρ, δ, S, he, hs, q⟩ => ?_
  refine ⟨ρ, δ, S, he, hs, (okF.thenS he q).mono fun c S1 H1 ρ1 f1 st1 p => ?_⟩
  cases c with
  | true => exact iteT ⟨ρ1, δ, S1, he.fr f1, st1, p⟩
  | false => exact iteF ⟨ρ1, δ, S1, he.fr f1, st1, p⟩
theorem simb_nil : SimB I N sc [] sNil := fun G T Wx X hG ok => pss_nil.weak fun D σ H ⟨ρ, δ, S, he, hs, q⟩ => q σ H ρ (Fr.refl _ _) hs he
theorem simb_one {s : Stmt} {m : MS} (h : SimS I N sc s m) : SimB I N sc [s] m := fun G T Wx X hG ok => pss_one (h G T Wx X hG ok)
theorem simb_cons {s : Stmt} {ss : List Stmt} {m n : MS} (h : SimS I N sc s m) (hs : SimB I N sc ss n) : SimB I N sc (s :: ss) (sSeq m n) := fun G T Wx X hG ok => by
  refine (pss_cons (h G T Wx X hG ok) (hs G T Wx X hG ok)).weak fun D σ H ⟨ρ, δ, S, he, hs, q⟩ => ?_
  refine ⟨ρ, δ, S, he, hs, ?_⟩
  unfold sSeq at q
  cases e : m T δ S with
  | nx δ1 S1 =>
    rw [e] at q
    exact fun σ' H' ρ' f st he' => ⟨ρ', δ1, S1, he', st, okF.later q f st⟩
  | bk δ1 S1 => rw [e] at q; exact q
  | ct δ1 S1 => rw [e] at q; exact q
  | rt w S1 => rw [e] at q; exact q
  | exc c ds δ1 S1 => rw [e] at q; exact q
  | bad => rw [e] at q; exact q
/-! ### assignments -/
/-- x = e: what its rule asks -/
theorem set_read {i : Nat} {m : ME} {D : Ends} (he : EnvRep G H ρ δ σ) (hs : StOk G H ρ S) (q : okF G H ρ Wx D (sAsg i m T δ S)) : rdE G T Wx m σ H (fun x H1 => gName i x σ H1 D.nx) := by
  refine ⟨ρ, δ, S, he, hs, (bnd_ok (okF.thenS he q)).mono fun w S1 H1 ρ1 f1 st1 p v r fs => ?_⟩
  obtain ⟨d, S2, ρ2, rd, st2, f2, p⟩ := p v r fs
  split at p
  · exact p _ H1 ρ2 (Fr.refl _ _) st2 ((he.fr f2).set rd)
  · exact p.elim
theorem sims_set {x : Str} {e : Expr} {m : ME} {pos pos' : Pos} (i : Nat) (h : SimE true I N sc e m) (hN : N[i]? = some x := by rfl) (hk : kindL sc x = true := by rfl) (hs : ∀ env, swapsWith e (some (.Name x pos')) pos.line env = pure false := by intro _; rfl) :
    SimS I N sc (.Assign [.Name x pos'] e pos) (sAsg i m) := fun G T Wx X hG ok =>
  (ps_set (i := i) (by rw [ok.eN]; exact ok.nd) (by rw [ok.eN]; exact hN) (by rw [ok.eS]; exact loc_of hk) (h G T Wx X hG ok.toXOk0) (hs X.env) (ok.st hk)).weak fun D σ H ⟨ρ, δ, S, he, hs, q⟩ => set_read he hs q
theorem sims_setLc {x : Str} {elt tg iter : Expr} {ifs : List Expr} {scope : Scope} {own : List (Str × Nat)} {pos spos pos' : Pos} {mi : MI} {gD : Tg} {is : List Nat} {mt : MT} {me : ME} (i : Nat) (hi : SimI true I N sc tg iter mi) (hg : SimG0 true I N (relS scope sc) tg gD is)
    (ht : SimTs true I N (relS scope sc) ifs mt) (he : SimE true I N (relS scope sc) elt me) (hN : N[i]? = some x := by rfl) (hk : sc.names.lookup x = some .local := by rfl) (hf : sc.kind = .function := by rfl) (hl : (pos'.line == pos.line) = true := by rfl) (hl2 : spos.line = pos'.line := by rfl)
    (ha : (scope.names.any fun (n, k) => n == x && (k == .local || k == .cell)) = false := by decide +kernel)
    (hb : blkC N sc scope own = true := by decide +kernel) (his : (is.all fun i => (own.map (·.2)).contains i) = true := by decide +kernel) (hfo : ∀ env x, foldedSetIterable iter env x = pure x := by intro _ _; rfl) :
    SimS I N sc (.Assign [.Name x pos'] (.ListComp elt [⟨tg, iter, ifs, 0⟩] scope pos) spos) (sAsg i (eLc mi (own.map (·.2)) gD mt me)) := fun G T Wx X hG ok => by
  have hsub : ∀ i ∈ is, i ∈ own.map (·.2) := fun i hi => by simpa using List.all_eq_true.mp his i hi
  refine (ps_setLc (own := own) (i := i) ok.calm (by rw [ok.eN]; exact ok.nd) (by rw [ok.eN]; exact hN) (by rw [ok.eS]; exact hk) (sw_true (by rw [ok.eS]; exact hf) (by rw [ok.eS]; exact hk) (by first | exact hl | (rw [hl2]; exact hl)) ha) (hi G T Wx X hG ok.toXOk0) (by rw [ok.eN, ok.eS]; exact blkOk_by hb)
    (fun s H C cl fp => hg G T _ _ hG ok.toXOk0.blk) (fun s H C cl fp => ht G T _ _ hG ok.toXOk0.blk) (fun s H C cl fp => he G T _ _ hG ok.toXOk0.blk) (hfo X.env)).weak fun D σ H ⟨ρ, δ, S, he, hs, q⟩ => ?_
  exact lc_read hsub (set_read he hs q)
/-- a, b = e -/
theorem pg_any {X : Cx} {es : List Expr} {k : Nat} {t : TGs} {n : Nat} {pos} (hc : X.calm = true) (h : PGs X es t) (hn : (assignEach es X.env).length = n) (hst : (assignEach es X.env).findIdx? (·.1) = none) :
    PG X (.Tuple es k pos) (fun v σ H Q => ∃ a xs, v = .ref a ∧ (SqL X.K H a xs ∨ SqT X.K H a xs) ∧ xs.length = n ∧ t xs σ H Q) := ⟨fun pins s σ H v u Q I r ⟨a, xs, e, hq, hl, hw⟩ => by
  rcases hq with hq | hq
  · exact (pg_lst hc h hn hst).run pins s σ H v u Q I r ⟨a, xs, e, hq, hl, hw⟩
  · exact (pg_tup hc h hn hst).run pins s σ H v u Q I r ⟨a, xs, e, hq, hl, hw⟩⟩
theorem sims_setT {es : List Expr} {is : List Nat} {e : Expr} {m : ME} {k : Nat} {pos pos' : Pos} (h : SimE true I N sc e m) (hg : SimGs I N sc es is) (hn : ∀ env, (assignEach es env).length = is.length := by intro _; rfl) (hst : ∀ env, (assignEach es env).findIdx? (·.1) = none := by intro _; rfl)
    (hs : ∀ env, swapsWithSole [.Tuple es k pos'] e pos.line env = pure false := by intro _; rfl) (hw : ∀ env, env.scope = sc → swappedStores [.Tuple es k pos'] e env = pure none := by intro env h; cases env; cases h; rfl) :
    SimS I N sc (.Assign [.Tuple es k pos'] e pos) (sAsgT is m) := fun G T Wx X hG ok => by
  refine (ps_asg (h G T Wx X hG ok.toXOk0) (pg_any (n := is.length) ok.calm (hg G T Wx X hG ok) (hn X.env) (hst X.env)) (hs X.env) (hw X.env ok.eS)).weak fun D σ H ⟨ρ, δ, S, he, hs, q⟩ => ?_
  refine ⟨ρ, δ, S, he, hs, (okF.thenS he q).mono fun w S1 H1 ρ1 f1 st1 p v r fs => ?_⟩
  split at p
  · rename_i ds hd
    obtain ⟨a, xs, rfl, h1, l⟩ := W.any_rep hd st1 r
    split at p
    · rename_i δ1 e
      refine ⟨a, xs, rfl, by rw [ok.eK]; exact h1, by rw [← l.length, setAll_len e], ρ1, δ, ds, he.fr f1, l, ?_⟩
      rw [e]
      exact fun σ' he' _ => p σ' H1 ρ1 (Fr.refl _ _) st1 he'
    · exact p.elim
  · exact p.elim
theorem sims_par2 {x y : Str} {a b : Expr} {ml : ML} {px py pt : Pos} {kt k2 pt2 pos} (i j : Nat) (ha : SimL true I N sc [a, b] ml) (hi : N[i]? = some x := by rfl) (hj : N[j]? = some y := by rfl) (hij : i ≠ j := by decide) (hx : sc.names.lookup x = some .local := by rfl) (hy : sc.names.lookup y = some .local := by rfl)
    (hw : ∀ env, env.scope = sc → swappedStores [.Tuple [.Name x px, .Name y py] kt pt] (.Tuple [a, b] k2 pt2) env = pure (some [x, y]) := by intro env h; cases env; cases h; rfl) (hs : ∀ env, swapsWithSole [.Tuple [.Name x px, .Name y py] kt pt] (.Tuple [a, b] k2 pt2) pos.line env = pure false := by intro _; rfl) :
    SimS I N sc (.Assign [.Tuple [.Name x px, .Name y py] kt pt] (.Tuple [a, b] k2 pt2) pos) (sPar [i, j] ml) := fun G T Wx X hG ok => by
  refine (ps_par ok.calm (by rw [ok.eN]; exact ok.nd) (by rw [ok.eN]; exact hi) (by rw [ok.eN]; exact hj) hij (by rw [ok.eS]; exact hx) (by rw [ok.eS]; exact hy) (ha G T Wx X hG ok.toXOk0) (hw X.env ok.eS) (hs X.env)).weak fun D σ H ⟨ρ, δ, S, he, hs, q⟩ => ?_
  refine ⟨ρ, δ, S, he, hs, (okF.thenS he q).mono fun ds S1 H1 ρ1 f1 st1 p vs r => ?_⟩
  split at p
  · rename_i δ1 e
    cases r with
    | nil => cases e
    | cons r1 l =>
      cases l with
      | nil => unfold setAll at e; split at e <;> cases e
      | cons r2 l =>
        cases l with
        | nil =>
          refine ⟨_, _, rfl, p _ H1 ρ1 (Fr.refl _ _) st1 ?_⟩
          unfold setAll at e
          split at e
          · unfold setAll at e
            split at e
            · cases e
              exact ((he.fr f1).set r1).set r2
            · cases e
          · cases e
        | cons _ _ =>
          have := setAll_len e
          simp at this
  · exact p.elim
theorem sims_par3 {x y z : Str} {a b c : Expr} {ml : ML} {px py pz pt : Pos} {kt k2 pt2 pos} (i j l : Nat) (ha : SimL true I N sc [a, b, c] ml) (hi : N[i]? = some x := by rfl) (hj : N[j]? = some y := by rfl) (hl : N[l]? = some z := by rfl) (hij : i ≠ j := by decide) (hil : i ≠ l := by decide) (hjl : j ≠ l := by decide)
    (hx : sc.names.lookup x = some .local := by rfl) (hy : sc.names.lookup y = some .local := by rfl) (hz : sc.names.lookup z = some .local := by rfl)
    (hw : ∀ env, env.scope = sc → swappedStores [.Tuple [.Name x px, .Name y py, .Name z pz] kt pt] (.Tuple [a, b, c] k2 pt2) env = pure (some [x, y, z]) := by intro env h; cases env; cases h; rfl) (hs : ∀ env, swapsWithSole [.Tuple [.Name x px, .Name y py, .Name z pz] kt pt] (.Tuple [a, b, c] k2 pt2) pos.line env = pure false := by intro _; rfl) :
    SimS I N sc (.Assign [.Tuple [.Name x px, .Name y py, .Name z pz] kt pt] (.Tuple [a, b, c] k2 pt2) pos) (sPar [i, j, l] ml) := fun G T Wx X hG ok => by
  refine (ps_par3 ok.calm (by rw [ok.eN]; exact ok.nd) (by rw [ok.eN]; exact hi) (by rw [ok.eN]; exact hj) (by rw [ok.eN]; exact hl) hij hil hjl (by rw [ok.eS]; exact hx) (by rw [ok.eS]; exact hy) (by rw [ok.eS]; exact hz) (ha G T Wx X hG ok.toXOk0) (hw X.env ok.eS) (hs X.env)).weak fun D σ H ⟨ρ, δ, S, he, hs, q⟩ => ?_
  refine ⟨ρ, δ, S, he, hs, (okF.thenS he q).mono fun ds S1 H1 ρ1 f1 st1 p vs r => ?_⟩
  split at p
  · rename_i δ1 e
    have hlen := setAll_len e
    cases r with
    | nil => simp at hlen
    | cons r1 l =>
      cases l with
      | nil => simp at hlen
      | cons r2 l =>
        cases l with
        | nil => simp at hlen
        | cons r3 l =>
          cases l with
          | cons _ _ => simp at hlen
          | nil =>
            refine ⟨_, _, _, rfl, p _ H1 ρ1 (Fr.refl _ _) st1 ?_⟩
            unfold setAll at e
            split at e
            · unfold setAll at e
              split at e
              · unfold setAll at e
                split at e
                · cases e
                  exact (((he.fr f1).set r1).set r2).set r3
                · cases e
              · cases e
            · cases e
  · exact p.elim
/-! ### o[i] = e -/
theorem putK_rep {k : Key} {d : D} {v : V} {ds : List (Key × D)} {vs : List (Key × V)} (l : RepK G H ρ ds vs) (r : Rep G H ρ d v) : RepK G H ρ (dput k d ds) (putK vs k v) := by
  have hany : ∀ {ds : List (Key × D)} {vs : List (Key × V)}, RepK G H ρ ds vs → (vs.any fun kv => decide (kv.1 = k)) = ds.any fun kv => decide (kv.1 = k) := fun {ds vs} l => by
    induction l with
    | nil => rfl
    | cons _ _ ih => rw [List.any_cons, List.any_cons, ih]
  have hmap : ∀ {ds : List (Key × D)} {vs : List (Key × V)}, RepK G H ρ ds vs → RepK G H ρ (ds.map fun kv => if kv.1 = k then (kv.1, d) else kv) (vs.map fun kv => if kv.1 = k then (kv.1, v) else kv) := fun {ds vs} l => by
    induction l with
    | nil => exact .nil
    | cons q t ih =>
      rename_i j _ _ _ _
      rw [List.map_cons, List.map_cons]
      by_cases h : j = k
      · simp only [h, if_true]
        exact .cons r ih
      · simp only [h, if_false]
        exact .cons q ih
  have happ : ∀ {ds : List (Key × D)} {vs : List (Key × V)}, RepK G H ρ ds vs → RepK G H ρ (ds ++ [(k, d)]) (vs ++ [(k, v)]) := fun {ds vs} l => by
    induction l with
    | nil => exact .cons r .nil
    | cons q t ih => exact .cons q ih
  unfold dput putK
  rw [hany l]
  split
  · exact hmap l
  · exact happ l
def rSetW (G : Gc) : TSet := fun o i v H Q => ∃ ρ S wx wy d S', StOk G H ρ S ∧ RepW G H ρ wx o ∧ RepW G H ρ wy i ∧ Rep G H ρ d v ∧ setW wx wy d S = some S' ∧ ∀ H' , Fr H ρ H' ρ → StOk G H' ρ S' → Q H'
theorem set_any {X : Cx} (eK : X.K = G.K) (hu : X.A.units + 64 < cLine) : PSet X (rSetW G) := by
  intro pins s σ H o i v ov iv u Q I ro ri rv ⟨ρ, S, wx, wy, d, S', st, r1, r2, r3, e, q⟩
  unfold setW at e
  split at e
  · split at e
    · rename_i ds i0 hd
      obtain ⟨j, hj, e⟩ := Option.map_eq_some_iff.mp e
      subst e
      cases r2
      cases r1 with
      | loc er =>
        obtain ⟨xs, h1, l⟩ := st.obj _ _ _ hd er
        obtain ⟨st4, f4⟩ := st.put (u := .lst (xs.set j v)) (o := .lst (ds.set j d)) er fun sb => ⟨_, upd_same, (l.sub sb).set (r3.sub sb) j⟩
        exact set_list pins s σ H _ _ v ov iv u Q I ro ri rv ⟨_, xs, _, j, rfl, rfl, h1, by rw [← l.length]; exact hj, q _ f4 st4⟩
    · split at e
      · rename_i k hk
        split at e
        · rename_i hl
          cases e
          cases r1 with
          | loc er =>
            obtain ⟨xs, h1, l⟩ := st.obj _ (.dct _) _ (by assumption) er
            obtain ⟨st4, f4⟩ := st.put (u := .dK (putK xs k v)) (o := .dct (dput k d _)) er fun sb => ⟨_, upd_same, putK_rep (l.sub sb) (r3.sub sb)⟩
            obtain rfl : ov = Value.ref _ := ro
            have hlen : xs.length < sizeLine := by rw [← l.length]; exact hl
            rw [key_rep hk r2] at ri
            exact d_setItem (hu1 hu) I (DPut.k h1 hlen) ri rv fun s4 I4 => ⟨_, I4, q _ f4 st4⟩
        · cases e
      · cases e
    · cases e
  · cases e
theorem sims_setIx {o i e : Expr} {mo mi me : ME} {pos pos' : Pos} (ho : SimE true I N sc o mo) (hi : SimE true I N sc i mi) (hv : SimE true I N sc e me) (hs : ∀ env, swapsWithSole [.Subscript o i pos'] e pos.line env = pure false := by intro _; rfl) (hw : ∀ env, swappedStores [.Subscript o i pos'] e env = pure none := by intro _; rfl)
    (hsb : ∀ X : Cx, ∀ to ti t, PE X o to → PE X i ti → PSet X t → PG X (.Subscript o i pos') (gSub to ti t) := by exact fun X to ti t h1 h2 h3 => pg_sub h1 h2 h3) : SimS I N sc (.Assign [.Subscript o i pos'] e pos) (sSetIx mo mi me) := fun G T Wx X hG ok => by
  refine (ps_asg (hv G T Wx X hG ok.toXOk0) (hsb X _ _ _ (ho G T Wx X hG ok.toXOk0) (hi G T Wx X hG ok.toXOk0) (set_any (G := G) ok.eK ok.units)) (hs X.env) (hw X.env)).weak fun D σ H ⟨ρ, δ, S, he, hs, q⟩ => ?_
  refine ⟨ρ, δ, S, he, hs, (bnd_ok (okF.thenS he q)).mono fun w S1 H1 ρ1 f1 st1 p v r fs => ?_⟩
  obtain ⟨d, S2, ρ2, rd, st2, f2, p⟩ := p v r fs
  refine ⟨ρ2, δ, S2, he.fr f2, st2, (okF.thenS (he.fr f2) p).mono fun w3 S3 H3 ρ3 f3 st3 p3 v3 r3 fs3 => ?_⟩
  refine ⟨ρ3, δ, S3, he.fr (f2.trans f3), st3, (okF.thenS (he.fr (f2.trans f3)) p3).mono fun w4 S4 H4 ρ4 f4 st4 p4 v4 r4 fs4 => ?_⟩
  split at p4
  · rename_i S5 e
    exact ⟨ρ4, S4, w3, w4, d, S5, st4, r3.fr f4, r4, rd.fr (f3.trans f4), e, fun H' f5 st5 => p4 σ H' ρ4 f5 st5 (he.fr (f2.trans (f3.trans (f4.trans f5))))⟩
  · exact p4.elim
theorem sims_augI {x : Str} {op : Operator} {f : B2} {g : Int → Int → Int} {e : Expr} {m : ME} {pos pos' : Pos} (i : Nat) (h : SimE true I N sc e m) (hop : ∀ X : Cx, PIp X op (ipI g)) (hf : ∀ x y S d, f x y S = some (.val d) → ∃ i j, x = .val (.int i) ∧ y = .val (.int j) ∧ d = .int (g i j))
    (hN : N[i]? = some x := by rfl) (hk : kindL sc x = true := by rfl) : SimS I N sc (.AugAssign (.Name x pos') op e pos) (sAug i f m) := fun G T Wx X hG ok => by
  refine (ps_aug (i := i) (by rw [ok.eN]; exact ok.nd) (by rw [ok.eN]; exact hN) (by rw [ok.eS]; exact loc_of hk) (h G T Wx X hG ok.toXOk0) (hop X) (ok.st hk)).weak fun D σ H ⟨ρ, δ, S, he, hs, q⟩ => ?_
  unfold sAug at q
  split at q
  · rename_i d hd
    obtain ⟨v, h1, h2⟩ := he.get i d hd
    refine ⟨v, h1, ρ, δ, S, he, hs, (okF.thenS he q).mono fun w S1 H1 ρ1 f1 st1 p y r fs => ?_⟩
    split at p
    · rename_i d' e
      obtain ⟨a, b, ea, eb, rfl⟩ := hf _ _ _ _ e
      cases ea
      subst eb
      cases h2
      cases r
      exact ⟨a, b, rfl, rfl, p _ H1 ρ1 (Fr.refl _ _) st1 ((he.fr f1).set (.int _))⟩
    · exact p.elim
  · exact q.elim
theorem aug_add : ∀ x y S d, bAddI x y S = some (.val d) → ∃ i j, x = .val (.int i) ∧ y = .val (.int j) ∧ d = .int (i + j) := fun x y S d e => by
  unfold bAddI at e
  split at e <;> cases e
  exact ⟨_, _, rfl, rfl, rfl⟩
theorem aug_sub : ∀ x y S d, bSub x y S = some (.val d) → ∃ i j, x = .val (.int i) ∧ y = .val (.int j) ∧ d = .int (i - j) := fun x y S d e => by
  unfold bSub at e
  split at e <;> cases e
  exact ⟨_, _, rfl, rfl, rfl⟩
end
/-! ### a def keeps its promise -/
/-- as okX, the code told -/
theorem okXc {P : Program} {w : World} {K : PySem.W.Frag} {mg : Str → Option Value} {base : Heap} {x qual : Str} {st : Stmt} {f : Addr} {fd : FuncData} {N ps : List Str} {k : Nat} {sp : Sp} (F : Fun K x qual st f fd) (S : FnScope N ps (defScope st)) (len : ∀ vs H Q E, sp vs H Q E → vs.length = ps.length)
    (hbody : ∀ (cdv : Value) (A : Around) (outer : List PySem.Env) (s : Shared) (H : Hp) (vs : List V) (Q : VK) (E : XK), fd.code = cdv → Room k (A.deeper (envOfC qual (defScope st) s.heap.objs.size f cdv)) → sp vs H Q E →
      ∃ t, PSs (cxOf (L2.CX P w) P w K mg base N qual (defScope st) f cdv A outer s H E) (defBody st) t ∧ t { nx := fun _ H' => Q .non H', rt := Q } (L2.start N vs) H) : FnOk P w K mg base (L2.CX P w) (k + 1) f fd ps sp := by
  obtain ⟨oc, od, kV, doc, pm, an, cdv, ct, osl, rfl, lk, hcd⟩ := F.ex
  exact fn_of lk hcd S len fun A outer s H vs Q E hr hsp => hbody cdv A outer s H vs Q E rfl hr hsp
theorem begin_rep {G : Gc} {H : Hp} {ρ : List Addr} {f : Fd} {N : List Str} {ds : List D} {vs : List V} (r : RepL G H ρ ds vs) (hs : f.slots = N.length) (hp : ds.length = f.pars) : EnvRep G H ρ (begin f ds) (L2.start N vs) := by
  unfold begin L2.start
  refine ⟨by rw [List.length_append, List.length_append, List.length_map, List.length_map, List.length_replicate, List.length_replicate, r.length, hs, ← hp, r.length], fun i d e => ?_⟩
  by_cases h : i < ds.length
  · rw [List.getElem?_append_left (by simpa using h), List.getElem?_map] at e
    obtain ⟨d', h1, h2⟩ := Option.map_eq_some_iff.mp e
    cases h2
    obtain ⟨v, h3, h4⟩ := r.get h1
    refine ⟨v, ?_, h4⟩
    rw [List.getElem?_append_left (by simpa using (List.getElem?_eq_some_iff.mp h3).1), List.getElem?_map, h3]
    rfl
  · rw [List.getElem?_append_right (by simpa using h), List.getElem?_replicate] at e
    split at e <;> cases e
/-- what the text is to be: each def's body means what its Fd says -/
structure TextOk (I : Info) (fs : List Fd) : Prop where
  fd : ∀ (i : Nat) d, I.defs[i]? = some d → fs[i]? = some d.fd
  sc : ∀ (i : Nat) d, I.defs[i]? = some d → FnScope d.N d.ps (defScope d.st) ∧ d.fd.pars = d.ps.length ∧ d.fd.slots = d.N.length
  sim : ∀ (i : Nat) d, I.defs[i]? = some d → SimB I d.N (defScope d.st) (defBody d.st) d.fd.body
theorem fn_ok {I : Info} {fs : List Fd} (tx : TextOk I fs) {P : Program} {w : World} {G : Gc} {base : Heap} (hG : GOk I G) (htb : ∀ p ∈ G.tabs, GxR.TabB base G.mg p.1 p.2) (hkd : ∀ (i : Nat) x kvs, I.kds[i]? = some (x, kvs) → KdW w G x kvs) (hx : ∀ (i : Nat) e, I.excs[i]? = some e → e.ps ≠ [] → FnOk P w G.K G.mg base (L2.CX P w) 1 (G.xi i) (G.xd i) e.ps (spX (G.xa i) e.fields.length e.fields)) : ∀ (n : Nat) (i : Nat) d, I.defs[i]? = some d →
    FnOk P w G.K G.mg base (L2.CX P w) ((2 + I.slack) * n + 1) (G.fa i) (G.fd i) d.ps (spOf G (sem fs n i))
  | 0, i, d, hd => by
    have no : ∀ vs H Q E, ¬ spOf G (sem fs 0 i) vs H Q E := fun vs H Q E ⟨ρ, ds, S, _, _, q⟩ => q
    exact ⟨fun vs H Q E h => absurd h (no vs H Q E), fun A outer s H args us vs Q E _ _ _ _ h => absurd h (no vs H Q E)⟩
  | n + 1, i, d, hd => by
    obtain ⟨F, b, _⟩ := hG.fn i d hd
    obtain ⟨S, hp, hsl⟩ := tx.sc i d hd
    have ih := fn_ok tx (P := P) (w := w) (base := base) hG htb hkd hx n
    have open_ : ∀ {vs H Q E}, spOf G (sem fs (n + 1) i) vs H Q E → ∃ ρ ds S, RepL G H ρ ds vs ∧ StOk G H ρ S ∧ ds.length = d.fd.pars ∧
        okR G H ρ (fun cls d _ H' => E cls d H') [] (fun w _ H' ρ' => ∀ v, RepW G H' ρ' w v → Fresh H w v → Q v H') (fin (d.fd.body (sem fs n) (begin d.fd ds) S)) := fun {vs H Q E} ⟨ρ, ds, S, r, st, q⟩ => by
      unfold sem at q
      rw [tx.fd i d hd] at q
      dsimp only at q
      split at q
      · rename_i hl
        exact ⟨ρ, ds, S, r, st, hl, gc_ok st q⟩
      · exact q.elim
    have ek : (2 + I.slack) * (n + 1) + 1 = (2 + I.slack) * n + 1 + 1 + I.slack + 1 := by rw [Nat.mul_succ]; omega
    rw [ek]
    refine okXc F (k := (2 + I.slack) * n + 1 + 1 + I.slack) S (fun vs H Q E h => ?_) fun cdv A outer s H vs Q E hcd hr h => ?_
    · obtain ⟨ρ, ds, S, r, st, hl, _⟩ := open_ h
      rw [← r.length, hl, hp]
    obtain ⟨ρ, ds, S0, r, st, hl, q⟩ := open_ h
    have ok : XOk I G (sem fs n) d.N (defScope d.st) (fun cls dd _ H' => E cls dd H') (cxOf (L2.CX P w) P w G.K G.mg base d.N d.qual (defScope d.st) (G.fa i) cdv A outer s H E) :=
      { eK := rfl, eM := rfl, eN := rfl, eS := rfl, nd := S.nd, units := hr.units, tk := takes_of rfl rfl rfl rfl, kd := hkd, gen' := fun _ m => (hG.gen i d hd m).imp fun p q => ⟨q.1, hcd.symm.trans q.2, htb p q.1⟩, calm' := fun _ => rfl, calls' := fun _ => ⟨(2 + I.slack) * n + 1, hr, ih, fun i e h1 h2 => (hx i e h1 h2).mono (by omega)⟩, po := passes_of rfl, fn := fun _ _ => rfl, stk := rfl, frm := rfl, exn := rfl }
    refine ⟨_, tx.sim i d hd G (sem fs n) _ _ hG ok, ρ, begin d.fd ds, S0, begin_rep r hsl hl, st, ?_⟩
    cases e : d.fd.body (sem fs n) (begin d.fd ds) S0 with
    | nx δ S1 => rw [e] at q; exact fun σ' H' ρ' f st' _ => q H' ρ' f st' .non .non True.intro
    | rt w S1 => rw [e] at q; exact fun H' ρ' v f st' r fs => q H' ρ' f st' v r fs
    | exc c es δ S1 => rw [e] at q; exact fun σ' H' ρ' cls dd f st' _ x => q H' ρ' cls dd f st' x
    | bk δ S1 => rw [e] at q; exact q.elim
    | ct δ S1 => rw [e] at q; exact q.elim
    | bad => rw [e] at q; exact q.elim
end MM
set_option maxRecDepth 100000
set_option maxHeartbeats 2000000
/-! MM, part L: an own exception's __init__ that says super().__init__(..), then keeps its fields. -/
namespace MM
open PySem PySem.Spec L2

/-- an __init__ that closes over its class -/
structure FunX (P : Program) (K : PySem.W.Frag) (x qual : Str) (st : Stmt) (C f : Addr) (fd : FuncData) : Prop where
  ex : ∃ (oc : Value) (od : Option Addr) (kV doc pm : Value) (an : Option Addr) (cda : Addr) (ct : Value) (osl : Array (Option Value)) (cc : Addr) (c1 : Value) (d1 : Option Addr) (vs : Array Value) (s1 : Array (Option Value)) (file : Str) (tf : Tok) (c2 : Value) (d2 : Option Addr) (s2 : Array (Option Value)),
    fd = PySem.W.fnX x qual (defArgs st) (defBody st) (defScope st) [("__class__", cc)] .none kV doc pm an (.ref cda) ct ∧ K.lookup f = some ⟨oc, od, .func fd, osl⟩ ∧ PySem.W.codeIn K (.ref cda) qual = true ∧
    K.lookup cda = some ⟨c1, d1, .fields vs, s1⟩ ∧ vs[2]? = some (.str file tf) ∧ ((P.main.file : Str) == file) = true ∧ K.lookup cc = some ⟨c2, d2, .cell (some (.ref C)), s2⟩
/-- what the text and the written part say of an own exception class -/
structure XcOk (P : Program) (K : PySem.W.Frag) (mg : Str → Option Value) (C : Addr) (fs : List Str) : Prop where
  oex : OexC K C
  xf : XfC K C
  fld : ∀ f ∈ fs, PySem.W.findIn K (.ref C) f = some none
  sup : PySem.W.ks_superIn K C C "__init__" = some (some (.builtin "ValueError.__init__"))
  opq : PySem.W.nsIn K PySem.cStatics "thirdparty.any" = some none
  subV : PySem.W.subIn K (.ref C) (.type "ValueError") = some true
  subC : PySem.W.mroIn K C (.ref C) = some true
  nsup : mg "super" = none
  top : (P.main.scope.names.lookup ("super" : Str)).isSome = false
/-- names of such an __init__ -/
structure XScope (ps : List Str) (sc : Scope) : Prop where
  kind : sc.kind = .function
  co : sc.isCoroutine = false
  gen : sc.isGenerator = false
  nd : ps.Nodup
  par : ∀ x ∈ ps, sc.names.lookup x = some .local
  nocell : ∀ x ∈ sc.names, x.2 ≠ .cell
  free : ∀ x, sc.names.lookup x = some .free → x = "__class__"
  sup : sc.names.lookup ("super" : Str) = some .globalImplicit
  cls : sc.names.lookup ("__class__" : Str) = some .free
theorem lookup_mem {α β : Type} [BEq α] [LawfulBEq α] {x : α} {v : β} : ∀ {l : List (α × β)}, (l.map (·.1)).Nodup → (x, v) ∈ l → l.lookup x = some v
  | [], _, h => absurd h (by simp)
  | (y, w) :: l, nd, h => by
    rw [List.map_cons, List.nodup_cons] at nd
    rw [List.lookup_cons]
    rcases List.mem_cons.mp h with e | h2
    · cases e
      simp
    · have ne : (x == y) = false := by
        rw [beq_eq_false_iff_ne]
        intro e
        exact nd.1 (List.mem_map.mpr ⟨_, h2, e⟩)
      rw [ne]
      exact lookup_mem nd.2 h2
theorem nd_rev {α : Type} {l : List α} (h : l.Nodup) : l.reverse.Nodup := by
  unfold List.Nodup at h ⊢
  rw [List.pairwise_reverse]
  exact h.imp fun h e => h e.symm
theorem zip_nd {α β : Type} : ∀ {ps : List α} {us : List β}, ps.Nodup → ((ps.zip us).map (·.1)).Nodup
  | [], _, _ => by simp
  | _ :: _, [], _ => by simp
  | p :: ps, u :: us, nd => by
    rw [List.nodup_cons] at nd
    rw [List.zip_cons_cons, List.map_cons, List.nodup_cons]
    refine ⟨fun h => ?_, zip_nd nd.2⟩
    obtain ⟨q, hq, e⟩ := List.mem_map.mp h
    obtain ⟨x, y⟩ := q
    have := (List.of_mem_zip hq).1
    dsimp only at e
    rw [e] at this
    exact nd.1 this
theorem rev_look {β : Type} {ps : List Str} {us : List β} {i : Nat} {y : Str} {u : β} (nd : ps.Nodup) (h1 : ps[i]? = some y) (h2 : us[i]? = some u) : (ps.zip us).reverse.lookup y = some u := by
  refine lookup_mem ?_ ?_
  · rw [List.map_reverse]
    exact nd_rev (zip_nd nd)
  · rw [List.mem_reverse]
    refine List.mem_of_getElem? (i := i) ?_
    rw [List.getElem?_zip_eq_some]
    exact ⟨h1, h2⟩

section
variable {P : Program} {w : World} {K : PySem.W.Frag} {mg : Str → Option Value} {base : Heap} {C fI : Addr} {fd : FuncData}
theorem xinit {x qual : Str} {st : Stmt} {ps fs : List Str} {n : Nat} {e1 : Expr} {es : List Expr} {asgs : List Stmt} {p0 p1 p2 p4 p5 : Pos} {ta : TA} {tb : TS} {k : Nat} {ar : Arg} (Fx : FunX P K x qual st C fI fd) (o : XcOk P K mg C fs) (S : XScope ps (defScope st)) (hn : ps.length = n + 1)
    (hp : ((defArgs st).posonlyargs ++ (defArgs st).args).head? = some ar) (hp0 : ps[0]? = some ar.arg)
    (hbody : defBody st = .Expr (.Call (.Attribute (.Call (.Name "super" p0) [] [] p1) "__init__" p2) (e1 :: es) [] p4) p5 :: asgs)
    (he : ∀ env, starEach (e1 :: es) env = (false, eval e1 env) :: starEach es env) (hpl : ∀ env, (backTo p4 (starEach es env)).any (·.1) = false)
    (hev : ∀ env, ∃ pl : Sem Bool, eval (.Call (.Attribute (.Call (.Name "super" p0) [] [] p1) "__init__" p2) (e1 :: es) [] p4) env = (do
      let ov ← attributeBase (.Call (.Name "super" p0) [] [] p1) "__init__" env (eval (.Call (.Name "super" p0) [] [] p1) env)
      standAt p2.atName
      let (f, first) ← holding [ov] (getMethod ov "__init__" pl)
      callWith p4 f first (backTo p4 (starEach (e1 :: es) env)) []))
    (hsw : ∀ env, swapsWith (.Call (.Attribute (.Call (.Name "super" p0) [] [] p1) "__init__" p2) (e1 :: es) [] p4) none p5.line env = pure false)
    (hargs : ∀ X : Cx, X.N = ps → X.env.scope = defScope st → PA X (e1 :: es) ta) (hasg : ∀ X : Cx, X.K = K → X.N = ps → X.env.scope = defScope st → PSs X asgs tb)
    (hr1 : ∀ a ys H, ys.length = n → ta (start ps (.ref a :: ys)) H (fun us H1 => H1 = H ∧ us.length ≤ 1000))
    (hr2 : ∀ a ys H Q, ys.length = n → OexC K C → H a = some (exo a C none) → (∀ dx H', H dx = none → dx ≠ a → H' a = some (exo a C (some dx)) → H' dx = some (exd dx (fs.zip ys).reverse) → (∀ b, b ≠ a → b ≠ dx → H' b = H b) → Q .non H') →
      tb { nx := fun _ H' => Q .non H', rt := Q } (start ps (.ref a :: ys)) H) : FnOk P w K mg base (L2.CX P w) (k + 1) fI fd ps (spX C n fs) := by
  refine ⟨fun vs H Q E h => ?_, fun A outer s H args us vs Q E hr e0 hb r hsp => ?_⟩
  · obtain ⟨a, ys, rfl, hl, _⟩ := h
    rw [List.length_cons, hl, hn]
  obtain ⟨a, ys, rfl, hl, ea, hq⟩ := hsp
  obtain ⟨oc, od, kV, doc, pm, an, cda, ct, osl, cc, c1, d1, vs, s1, file, tf, c2, d2, s2, rfl, lk, hcd, lcd, hvs, hfile, lcc⟩ := Fx.ex
  have KX : K.In s.heap := e0.mod.kin.keeps fun b o e => (e0.bs b o e).1
  have lim : s.heap.NoLimit := e0.mod.nolimit.keeps fun b o e => (e0.bs b o e).1
  refine ks_codeAny_call_defAt (fd := PySem.W.ksFn x qual (defArgs st) (defBody st) (defScope st) .none kV doc pm an (.ref cda) ct cc) (body := defBody st) (binds := ps.zip us) hr.depth (KX _ _ lk) rfl lim (PySem.W.codeRec_of KX hcd) rfl hb S.nocell
    (fun y hy => S.par _ (List.of_mem_zip hy).1) (fun h₀ hns hk => ?_) S.co S.gen S.kind
  have bcc : base.get? cc = some ⟨c2, d2, .cell (some (.ref C)), s2⟩ := e0.mod.kin _ _ lcc
  let env : PySem.Env := PySem.W.ksEnv qual (defScope st) s.heap.objs.size fI (.ref cda) cc
  let X : Cx := { prog := P, w := w, K := K, mg := mg, base := base, A := A.deeper env, N := ps, s_0 := s, H_0 := H, env := env, outer := outer, stack := env :: outer, ex := [], calm := true, fn := fun _ => false, pn := [],
                  xe := fun e s' => wpAny (model P w) (A.deeper env) (leaving env e) (fun _ s'' => CR (L2.CX P w) outer P w H s Q E (.error e) s'') (fun e' s'' => CR (L2.CX P w) outer P w H s Q E (.error e') s'') s' }
  have hcl : ∀ y c, X.env.cells.lookup y = some c → y = "__class__" ∧ c = cc := fun y c h => by
    have h' : ([("__class__", cc)] : List (Str × Addr)).lookup y = some c := h
    rw [List.lookup_cons] at h'
    split at h'
    · rename_i e
      cases h'
      exact ⟨by simpa using e, rfl⟩
    · cases h'
  have I : Inv X [] (start ps (.ref a :: ys)) H { s with heap := h₀, toks := s.toks + (ps.zip us).length } := by
    refine ⟨⟨e0.mod, S.kind, rfl, rfl, Nat.le_refl _, fun y z c h1 h2 => (hcl y c h1).1.trans (hcl z c h2).1.symm, fun y hy => ?_, fun y c h _ => (Bool.noConfusion (show false = true from h)), fun _ => hr.hd, Around.frames_deeper e0.frames, .inr ⟨rfl, rfl⟩, fun b z => absurd (show b ∈ ([] : List Addr) from z) (by simp), e0.bs, e0.bsz, fun b _ _ => (fun z => absurd (show b ∈ ([] : List Addr) from z) (by simp)), fun b z => absurd (show b ∈ ([] : List Addr) from z) (by simp), e0.funs, e0.frf⟩,
      rfl, e0.bare, Un.kept hk, ⟨_, hns, fun i y v h1 h2 h3 => ?_⟩, fun y c h => ?_, e0.hok.fresh (Nat.le_refl _), fun y c h => ?_, fun p hp => absurd (show p ∈ ([] : List (Addr × Obj)) from hp) (by simp), e0.hok.kept hk, ?_⟩
    · rcases hy with hy | hy
      · exact absurd rfl (S.nocell _ (PySem.mem_of_lookup hy))
      · have := S.free y hy
        exact ⟨cc, by rw [this]; rfl⟩
    · have hlen : (V.ref a :: ys).length = ps.length := by rw [List.length_cons, hl, hn]
      have h1 : ps[i]? = some y := h1
      have hi : i < (V.ref a :: ys).length := by rw [hlen]; exact (List.getElem?_eq_some_iff.mp h1).1
      have ha : (V.ref a :: ys)[i]? = some v := by
        unfold L2.start at h2
        rw [List.getElem?_append_left (by simpa using hi), List.getElem?_map] at h2
        cases e : (V.ref a :: ys)[i]? with
        | none => rw [e] at h2; cases h2
        | some a => rw [e] at h2; cases h2; rfl
      obtain ⟨u, hu, rv⟩ := r.get ha
      exact ⟨u, rv, .inl ⟨S.par y (List.mem_of_getElem? h1), rev_look S.nd h1 hu⟩⟩
    · obtain ⟨_, rfl⟩ := hcl y c h
      exact ⟨_, _, hk _ _ ((e0.bs _ _ bcc).1), rfl⟩
    · obtain ⟨_, rfl⟩ := hcl y c h
      exact (e0.bs _ _ bcc).2
    · show (start ps (V.ref a :: ys)).length = ps.length
      unfold L2.start
      rw [List.length_append, List.length_map, List.length_replicate, List.length_cons, hl, hn]
      omega
  obtain ⟨cn, cq, cN, cbs, cbm, csn, csub, cab, ccol, cdd, k0, k1, k2, k3, k5, hC, hbm⟩ := o.oex.cls
  have hcls : PySem.W.clsIn K C = some { name := cn, bases := cbs, mro := .ref C :: cbm, ns := cN, qualname := cq, hasDict := true, slotNames := csn, subclasses := csub, abstract := cab, collection := ccol, hasDel := false } := by unfold PySem.W.clsIn; rw [hC] <;> rfl
  have hT : ∀ Y : String, cbm.contains (.type Y) = PySem.HandSPX.veTail.contains (.type Y) := fun Y => PySem.HandSPX.refsVE_contains Y cbm hbm
  obtain ⟨t0, hx⟩ := exo_at I.hok ea
  have hxC : a ≠ C := fun e => by
    have z := (e0.bs _ _ (e0.mod.kin _ _ hC)).2
    rw [← e, ea] at z
    cases z
  rw [hbody]
  obtain ⟨pl, hev⟩ := hev env
  refine ks_wpAt_execs_cons (ks_wpAt_Expr_any (ks_wpAt_MethodCall (pl := pl) ?_ hev) I.quiet (hsw env))
  refine ks_wpAt_super_base (env := env) S.sup S.cls (by decide) rfl (I.kIn _ _ lk) rfl hp rfl (I.kIn _ _ lcd) rfl hvs hfile o.top ?_
  obtain ⟨mb, hb1, hb2⟩ := e0.mod.blt
  refine PySem.W.ks_loadName_global (env := env) S.kind S.sup (PySem.Calls.loadGlobal_builtin (env := env) (e0.mod.glob.keeps I.bk) o.nsup (hb1.keeps I.bk) ((hb2 "super" (by decide)).trans PyProof.Rows.Boot.super) ⟨rfl, ?_⟩)
  refine wpAny_loadName_free (env := env) S.kind S.cls rfl ⟨_, I.kIn _ _ lcc, rfl⟩ ?_
  obtain ⟨u0, hu0, ru0⟩ := r.get (show (V.ref a :: ys)[0]? = some (.ref a) from rfl)
  obtain rfl : u0 = Value.ref a := ru0
  have hmem : ar.arg ∈ ps := List.mem_of_getElem? hp0
  refine wpAny_loadName_local (env := env) S.kind (S.par _ hmem) hns (rev_look S.nd hp0 hu0) ?_
  refine ks_wpAny_isType_cls (I.kIn _ _ hC) rfl ⟨rfl, ?_⟩
  refine ks_wpAny_call_super (I.kIn _ _ hC) rfl hx rfl (fun c e => by cases e) (PySem.W.looks_mroIn I.kIn o.subC) (fun h1 ge1 kk1 => ?_)
  have I1 := I.kept (t' := s.toks + (ps.zip us).length) kk1
  have hx1 := kk1 _ _ hx
  have LT : PySem.W.Looks (model P w) h1 (typeOf (.ref a)) (.ref C) := fun A Q E s k q => wpAny_typeOf_ref (k _ _ hx1) q
  have Lmro : PySem.W.Looks (model P w) h1 (mroOf (.ref C)) (.ref C :: cbm) := fun A Q E s k q => wpAny_bind ((PySem.W.looks_clsIn I1.kIn hcls) A _ E s k (wpAny_pure q))
  have hal : PySem.W.alongIn K "__init__" (((Value.ref C :: cbm).dropWhile (· != .ref C)).drop 1) = some (some (.builtin "ValueError.__init__")) := by
    have := o.sup
    unfold PySem.W.ks_superIn at this
    rw [hcls] at this
    exact this
  refine PySem.W.kxs_getMethod PySem.W.kxs_ValueError ge1 (PySem.W.looks_opaque I1.kIn o.opq) Lmro rfl I1.kIn hal (LT.andThen (PySem.W.looks_subIn I1.kIn o.subV)) hxC (by decide) ?_
  generalize hu : h1.objs.size = u
  have I2 := I1.kept (t' := s.toks + (ps.zip us).length + 1) (h' := h1.push (PySem.W.kxs_mw "ValueError.__init__" a)) fun b o e => Heap.get?_push_of_some _ e
  have gu : (h1.push (PySem.W.kxs_mw "ValueError.__init__" a)).get? u = some (PySem.W.kxs_mw "ValueError.__init__" a) := by rw [← hu]; exact Heap.get?_push_at rfl rfl
  have nu : H u = none := I1.hok.fresh (Nat.le_of_eq hu)
  have I3 : Inv X [(u, PySem.W.kxs_mw "ValueError.__init__" a)] (L2.start ps (.ref a :: ys)) H _ :=
    ⟨I2.ok, I2.os, I2.bare, I2.base, I2.loc, I2.cell, I2.free, I2.freeC, fun p hp => by
      have hp : p ∈ [(u, PySem.W.kxs_mw "ValueError.__init__" a)] := hp
      rw [List.mem_singleton] at hp
      subst hp
      refine ⟨gu, nu, fun e => ?_, fun e => ?_, fun v e => by cases e⟩
      · have := I1.lt
        dsimp only at e
        rw [← e, ← hu] at this
        exact absurd this (Nat.lt_irrefl _)
      · obtain ⟨_, ox, q, _⟩ := e0.funs.mem e
        have := Heap.lt_size (kk1 _ _ (hk _ _ q))
        dsimp only at this
        rw [hu] at this
        exact absurd this (Nat.lt_irrefl _), I2.hok, I2.len⟩
  show wpAny (model P w) X.A (callWith p4 (.ref u) [] (backTo p4 (starEach (e1 :: es) env)) []) _ _ _
  rw [he env]
  refine PySem.W.kxs_callWith (i := "ValueError.__init__") (x := a) (by show (false || (backTo p4 (starEach es env)).any (·.1)) = false; rw [hpl env]; rfl) (PySem.Calls.evalArgs_plain ?_)
  have hrun := (hargs X rfl rfl).run p4 _ _ _ H _ I3 (hr1 a ys H hl)
  rw [show starEach (e1 :: es) X.env = _ from he env] at hrun
  refine thn hrun fun us' s4 ⟨vs', H4, I4, r4, e4, hz⟩ => ?_
  subst e4
  obtain ⟨gu4, _⟩ := I4.pin _ (List.mem_singleton.mpr rfl)
  refine ⟨gu4, ?_⟩
  obtain ⟨t4, hx4⟩ := exo_at I4.hok ea
  have I5 : Inv X [] (L2.start ps (.ref a :: ys)) H4 s4 := ⟨I4.ok, I4.os, I4.bare, I4.base, I4.loc, I4.cell, I4.free, I4.freeC, fun p hp => absurd (show p ∈ ([] : List (Addr × Obj)) from hp) (by simp), I4.hok, I4.len⟩
  have hz' : us'.length ≤ sizeLine := by
    rw [← Paired.length r4, sizeLine_eq]
    omega
  obtain ⟨hh4, g4, dd4, tk4, os4⟩ := s4
  show wpAny (model P w) X.A (call (.ref u) us') _ _ _
  refine wpAny_call (codeAny_of_tree ?_)
  show wpAny _ X.A.in1 (callAny (.ref u) ⟨us', []⟩) _ _ _
  simp only [callAny]
  refine wpAny_bind (wpAny_load gu4 ?_)
  simp only [PySem.W.kxs_mw, show (Value.type "method-wrapper" == Value.type "method" || Value.type "method-wrapper" == Value.type "builtin_function_or_method" || Value.type "method-wrapper" == Value.type "method-wrapper") = true by decide, if_true]
  refine PySem.W.KFB.if_so (by decide) ?_
  refine wpAny_bind (PySem.W.check_bound_init F.excBase_ValueError.toExcCallFacts (I5.kIn _ _ hC) hx4 rfl ?_)
  refine wpAny_bind (wpAny_pure (wpAny_pure ?_))
  refine ⟨plainId_quiet F.excBase_ValueError.init.plain _, codeAny_builtin F.excBase_ValueError.initEntry ?_⟩
  refine PySem.W.exc_init_tree (cls := .ref C) (t0 := t4) (dv := none) (c2 := .none) (c3 := .none) (b4 := .bool false) hx4 hz' fun h6 k6 hx6 _ => ?_
  have I6 := I5.write (t' := tk4) (x := a) (e := a) (o := exo a C none) (by rw [ea]; exact True.intro) (.inl rfl) k6 ⟨_, hx6⟩ (exo_ok hx6)
  have eu : upd H4 a (exo a C none) = H4 := by
    funext b
    by_cases hb : b = a
    · rw [hb, upd_same, ea]
    · rw [upd_ne hb]
  rw [eu] at I6
  show wpAt (model P w) X.A _ (execs asgs X.env) _ _ _
  refine wpAt_of_wpAny ?_
  refine wpAny_mono ((hasg X rfl rfl rfl).run [] _ _ H4 _ I6 (hr2 a ys H4 Q hl o.oex ea hq)) (fun fl s' hs => ?_) fun e s' hs => hs
  have fin : ∀ {σ' : St} {H' : Hp} {v : V} {u : Value}, Inv X [] σ' H' s' → RelV v u → Q v H' → CE outer P w H4 s Q u s' :=
    fun {σ' H' v u} J rv q => ⟨v, H', J.os, J.bare, J.base, J.hok, rv, q⟩
  cases fl with
  | ret u =>
    obtain ⟨v, σ', H', J, rv, q⟩ := hs
    exact fin J rv q
  | next =>
    obtain ⟨σ', H', J, q⟩ := hs
    exact fin (v := V.non) (u := Value.none) J rfl q
  | brk =>
    obtain ⟨_, _, _, q⟩ := hs
    exact False.elim q
  | cont =>
    obtain ⟨_, _, _, q⟩ := hs
    exact False.elim q
/-- with one field -/
theorem xinit1 {x qual : Str} {st : Stmt} {s0 a1 f1 : Str} {p0 p1 p2 p4 p5 q1 q2 q3 q4 q5 : Pos} {k : Nat} {ar : Arg} (Fx : FunX P K x qual st C fI fd) (o : XcOk P K mg C [f1]) (S : XScope [s0, a1] (defScope st))
    (hp : ((defArgs st).posonlyargs ++ (defArgs st).args).head? = some ar) (hp0 : ([s0, a1] : List Str)[0]? = some ar.arg)
    (hbody : defBody st = [.Expr (.Call (.Attribute (.Call (.Name "super" p0) [] [] p1) "__init__" p2) [.Name a1 q1] [] p4) p5, .Assign [.Attribute (.Name s0 q2) f1 q3] (.Name a1 q4) q5])
    (hev : ∀ env, ∃ pl : Sem Bool, eval (.Call (.Attribute (.Call (.Name "super" p0) [] [] p1) "__init__" p2) [.Name a1 q1] [] p4) env = (do
      let ov ← attributeBase (.Call (.Name "super" p0) [] [] p1) "__init__" env (eval (.Call (.Name "super" p0) [] [] p1) env)
      standAt p2.atName
      let (f, first) ← holding [ov] (getMethod ov "__init__" pl)
      callWith p4 f first (backTo p4 (starEach [.Name a1 q1] env)) []))
    (h0 : (s0 == ("__debug__" : Str)) = false ∧ (s0 == ("__classdict__" : Str)) = false) (h1 : (a1 == ("__debug__" : Str)) = false ∧ (a1 == ("__classdict__" : Str)) = false) : FnOk P w K mg base (L2.CX P w) (k + 1) fI fd [s0, a1] (spX C 1 [f1]) := by
  have v0 : ∀ X : Cx, X.N = [s0, a1] → X.env.scope = defScope st → ∀ p, PE X (.Name s0 p) (tVar 0) := fun X hN hs p => pe_var (by rw [hN]; rfl) (.inl (by rw [hs]; exact S.par _ (by simp))) h0.1 h0.2
  have v1 : ∀ X : Cx, X.N = [s0, a1] → X.env.scope = defScope st → ∀ p, PE X (.Name a1 p) (tVar 1) := fun X hN hs p => pe_var (by rw [hN]; rfl) (.inl (by rw [hs]; exact S.par _ (by simp))) h1.1 h1.2
  refine xinit (n := 1) (ta := tCons (tVar 1) tNil) (tb := tOst K f1 (tVar 0) (tVar 1)) Fx o S rfl hp hp0 hbody (fun _ => rfl) (fun _ => rfl) hev (fun _ => rfl) (fun X hN hs => pa_cons (v1 X hN hs _) pa_nil)
    (fun X hK hN hs => by rw [← hK]; exact pss_one (ps_ost (v0 X hN hs _) (v1 X hN hs _))) (fun a ys H hl => ?_) (fun a ys H Q hl T ea hq => ?_)
  · match ys, hl with
    | [y], _ => exact ⟨y, rfl, rfl, by simp⟩
  · match ys, hl with
    | [y], _ =>
      refine ⟨y, rfl, .ref a, rfl, a, C, rfl, T, o.fld f1 (by simp), .inl ⟨ea, fun dx hd ne => hq dx _ hd ne upd_same ?_ fun b h1 h2 => ?_⟩⟩
      · rw [upd_ne ne, upd_same]; rfl
      · rw [upd_ne h1, upd_ne h2]
/-- with two -/
theorem xinit2 {x qual : Str} {st : Stmt} {s0 a1 f1 a2 f2 : Str} {p0 p1 p2 p4 p5 q1 q2 q3 q4 q5 q6 q7 q8 q9 q10 : Pos} {k : Nat} {ar : Arg} (Fx : FunX P K x qual st C fI fd) (o : XcOk P K mg C [f1, f2]) (S : XScope [s0, a1, a2] (defScope st))
    (hp : ((defArgs st).posonlyargs ++ (defArgs st).args).head? = some ar) (hp0 : ([s0, a1, a2] : List Str)[0]? = some ar.arg)
    (hbody : defBody st = [.Expr (.Call (.Attribute (.Call (.Name "super" p0) [] [] p1) "__init__" p2) [.Name a1 q1, .Name a2 q6] [] p4) p5, .Assign [.Attribute (.Name s0 q2) f1 q3] (.Name a1 q4) q5, .Assign [.Attribute (.Name s0 q7) f2 q8] (.Name a2 q9) q10])
    (hev : ∀ env, ∃ pl : Sem Bool, eval (.Call (.Attribute (.Call (.Name "super" p0) [] [] p1) "__init__" p2) [.Name a1 q1, .Name a2 q6] [] p4) env = (do
      let ov ← attributeBase (.Call (.Name "super" p0) [] [] p1) "__init__" env (eval (.Call (.Name "super" p0) [] [] p1) env)
      standAt p2.atName
      let (f, first) ← holding [ov] (getMethod ov "__init__" pl)
      callWith p4 f first (backTo p4 (starEach [.Name a1 q1, .Name a2 q6] env)) []))
    (h0 : (s0 == ("__debug__" : Str)) = false ∧ (s0 == ("__classdict__" : Str)) = false) (h1 : (a1 == ("__debug__" : Str)) = false ∧ (a1 == ("__classdict__" : Str)) = false) (h2 : (a2 == ("__debug__" : Str)) = false ∧ (a2 == ("__classdict__" : Str)) = false) :
    FnOk P w K mg base (L2.CX P w) (k + 1) fI fd [s0, a1, a2] (spX C 2 [f1, f2]) := by
  have v0 : ∀ X : Cx, X.N = [s0, a1, a2] → X.env.scope = defScope st → ∀ p, PE X (.Name s0 p) (tVar 0) := fun X hN hs p => pe_var (by rw [hN]; rfl) (.inl (by rw [hs]; exact S.par _ (by simp))) h0.1 h0.2
  have v1 : ∀ X : Cx, X.N = [s0, a1, a2] → X.env.scope = defScope st → ∀ p, PE X (.Name a1 p) (tVar 1) := fun X hN hs p => pe_var (by rw [hN]; rfl) (.inl (by rw [hs]; exact S.par _ (by simp))) h1.1 h1.2
  have v2 : ∀ X : Cx, X.N = [s0, a1, a2] → X.env.scope = defScope st → ∀ p, PE X (.Name a2 p) (tVar 2) := fun X hN hs p => pe_var (by rw [hN]; rfl) (.inl (by rw [hs]; exact S.par _ (by simp))) h2.1 h2.2
  refine xinit (n := 2) (ta := tCons (tVar 1) (tCons (tVar 2) tNil)) (tb := tSeq (tOst K f1 (tVar 0) (tVar 1)) (tOst K f2 (tVar 0) (tVar 2))) Fx o S rfl hp hp0 hbody (fun _ => rfl) (fun _ => rfl) hev (fun _ => rfl) (fun X hN hs => pa_cons (v1 X hN hs _) (pa_cons (v2 X hN hs _) pa_nil))
    (fun X hK hN hs => by rw [← hK]; exact pss_cons (ps_ost (v0 X hN hs _) (v1 X hN hs _)) (pss_one (ps_ost (v0 X hN hs _) (v2 X hN hs _)))) (fun a ys H hl => ?_) (fun a ys H Q hl T ea hq => ?_)
  · match ys, hl with
    | [y, z], _ => exact ⟨y, rfl, z, rfl, rfl, by simp⟩
  · match ys, hl with
    | [y, z], _ =>
      refine ⟨y, rfl, .ref a, rfl, a, C, rfl, T, o.fld f1 (by simp), .inl ⟨ea, fun dx hd ne => ?_⟩⟩
      refine ⟨z, rfl, .ref a, rfl, a, C, rfl, T, o.fld f2 (by simp), .inr ⟨dx, [(f1, y)], upd_same, by rw [upd_ne ne, upd_same], by simp, hq dx _ hd ne ?_ ?_ fun b h1 h2 => ?_⟩⟩
      · rw [upd_ne (Ne.symm ne), upd_same]
      · rw [upd_same]; rfl
      · rw [upd_ne h2, upd_ne h1, upd_ne h2]
end
end MM
set_option maxRecDepth 100000
set_option maxHeartbeats 2000000
/-! MM, part M: raise; except suites that return; try. -/
namespace MM
open PySem PySem.Spec L2
section
variable {cl : Bool} {I : Info} {N : List Str} {sc : Scope} {G : Gc} {T : FT} {Wx : WX} {H : Hp} {ρ : List Addr} {δ : MM.Env} {S : Sto} {σ : L2.St}
/-! ### raise C(e, ..) -/
theorem sims_raise {x : Str} {e0 : Expr} {es : List Expr} {ml : ML} {p pos pos'} (c : Nat) {n : Nat} {e : EI} (hc : I.excs[c]? = some e) (hx : e.name = x) (hn : e.fields.length = n) (ha : SimL true I N sc (e0 :: es) ml) (hm : e.ps ≠ [] := by decide) (hnd : e.fields.Nodup := by decide) (hl : e.fields.length ≤ 1000 := by decide) (hg : glob sc x = true := by rfl)
    (hdb : (x == ("__debug__" : Str)) = false := by decide) (he : ∀ env, starEach (e0 :: es) env = (false, eval e0 env) :: starEach es env := by intro _; rfl) (hpl : ∀ env, (backTo pos (starEach es env)).any (·.1) = false := by intro _; rfl) :
    SimS I N sc (.Raise (some (.Call (.Name x p) (e0 :: es) [] pos)) none pos') (sRaise c n ml) := fun G T Wx X hG ok => by
  subst hn
  have g := hG.exc c e hc
  obtain ⟨i1, i2, i3⟩ := g.init hm
  obtain ⟨k, hr, _, h⟩ := ok.calls' rfl
  have hr := hr.mono (Nat.le_add_right (k + 1) _)
  subst hx
  refine (ps_raise ok.calm ok.tk (pmk_oex (by rw [ok.eK]; exact g.oex) (by rw [ok.eK]; exact i1) (by rw [ok.eK]; exact i2) (h c e hc hm) hr (by rw [ok.eK]; exact i3) .nil passL (ok.gl hg) (by rw [ok.eM]; exact g.nm) (ha G T Wx X hG ok.toXOk0) hdb (he X.env) (hpl X.env))).weak fun D σ H ⟨ρ, δ, S, he, hs, q⟩ => ?_
  refine ⟨ρ, δ, S, he, hs, (okF.thenS he q).mono fun ds S1 H1 ρ1 f1 st1 p vs r => ?_⟩
  split at p
  · rename_i hd
    have hv : vs.length = e.fields.length := by rw [← r.length]; exact hd
    refine ⟨by rw [hv]; exact hl, fun a na => ⟨a, vs ++ [], rfl, by rw [List.append_nil]; exact hv, upd_same, fun dx H' hdx ne ha hxd oth => ⟨rfl, dx, _, ha, hxd, ?_, ?_⟩⟩⟩
    · rw [upd_ne ne] at hdx
      exact hdx
    · rw [upd_ne ne] at hdx
      have eq : upd (del H' a) dx (.xd (e.fields.zip (vs ++ [])).reverse) = upd H1 dx (.xd (e.fields.zip vs).reverse) := by
        rw [List.append_nil]
        funext b
        by_cases hb : b = dx
        · rw [hb, upd_same, upd_same]
        · rw [upd_ne hb, upd_ne hb]
          by_cases hba : b = a
          · rw [hba, del_same, na]
          · rw [del_ne hba, oth b hba hb, upd_ne hba]
      rw [eq]
      have f2 := fr_new (o := .xd (e.fields.zip vs).reverse) hdx (st1.free hdx)
      refine p σ _ ρ1 _ _ f2 (st1.new hdx) (he.fr (f1.trans f2)) ⟨rfl, vs, dx, _, r.fr f2, rfl, upd_same, by rw [g.fs, hv], fun i f v h1 h2 => ?_⟩
      rw [g.fs] at h1
      exact rev_look hnd h1 h2
  · exact p.elim
/-! ### except suites that return -/
abbrev WX0 : WX := fun _ _ _ _ => False
theorem ExcRep.fr {H' : Hp} {ρ' : List Addr} {c : Nat} {ds : List D} {cls : Value} {d : Option Addr} (x : ExcRep G H ρ c ds cls d) (f : Fr H ρ H' ρ') (st : StOk G H ρ S) : ExcRep G H' ρ' c ds cls d := by
  obtain ⟨e, vs, dd, fs, r, ed, hd, hl, hg⟩ := x
  refine ⟨e, vs, dd, fs, r.fr f, ed, f.out _ _ hd (fun m => ?_) (by simp), hl, hg⟩
  obtain ⟨n, hn, q⟩ := List.getElem_of_mem m
  have hs : n < S.length := by rw [← st.len]; exact hn
  have ob := st.obj n S[n] dd (List.getElem?_eq_getElem hs) (by rw [List.getElem?_eq_getElem hn, q])
  cases o : S[n] with
  | lst ds => rw [o] at ob; obtain ⟨_, z, _⟩ := ob; rw [hd] at z; cases z
  | dct ds => rw [o] at ob; obtain ⟨_, z, _⟩ := ob; rw [hd] at z; cases z
  | dtt ds => rw [o] at ob; obtain ⟨_, z, _⟩ := ob; rw [hd] at z; cases z
  | ins c ds => rw [o] at ob; obtain ⟨_, _, _, z, _⟩ := ob; rw [hd] at z; cases z
section
variable (G : Gc) (T : FT) (a : Addr) (cls : Value) (d : Option Addr) (c : Nat) (ds : List D) (io : Option Nat)
def Caught (H : Hp) (ρ : List Addr) (σ : L2.St) : Prop := (∀ i, io = some i → σ[i]? = some (some (.ref a))) ∧ ExcRep G H ρ c ds cls d
def rdX (m : ME) : TE := fun σ H Q => ∃ ρ δ S, EnvRep G H ρ δ σ ∧ StOk G H ρ S ∧ Caught G a cls d c ds io H ρ σ ∧ okR G H ρ WX0 σ (fun w _ H' ρ' => ∀ v, RepW G H' ρ' w v → Fresh H w v → Q v H') (m T δ S)
def rdXL (m : ML) : TA := fun σ H Q => ∃ ρ δ S, EnvRep G H ρ δ σ ∧ StOk G H ρ S ∧ Caught G a cls d c ds io H ρ σ ∧ okR G H ρ WX0 σ (fun ds _ H' ρ' => ∀ vs, RepL G H' ρ' ds vs → Q vs H') (m T δ S)
def rdXT (m : MT) : TT := fun σ H Q => ∃ ρ δ S, EnvRep G H ρ δ σ ∧ StOk G H ρ S ∧ Caught G a cls d c ds io H ρ σ ∧ okR G H ρ WX0 σ (fun b _ H' _ => Q b H') (m T δ S)
end
theorem Caught.fr {a : Addr} {cls : Value} {d : Option Addr} {c : Nat} {ds : List D} {io : Option Nat} {H' : Hp} {ρ' : List Addr} (x : Caught G a cls d c ds io H ρ σ) (f : Fr H ρ H' ρ') (st : StOk G H ρ S) : Caught G a cls d c ds io H' ρ' σ := ⟨x.1, x.2.fr f st⟩
section
variable (I : Info) (N : List Str) (sc : Scope) (io : Option Nat)
def SimX (e : Expr) (m : MX) : Prop := ∀ (G : Gc) (T : FT) (X : Cx) (a : Addr) (oe : Obj) (cls : Value) (d : Option Addr) (pn : List (Addr × Obj)) (c : Nat) (ds : List D), GOk I G → XOk0 false I G T N sc WX0 (X.suite a ((a, oe) :: pn)) → Zc cls d oe → (∃ vs, oe.data = .fields vs) → PE (X.suite a ((a, oe) :: pn)) e (rdX G T a cls d c ds io (m c ds))
def SimXL (e : List Expr) (m : MXL) : Prop := ∀ (G : Gc) (T : FT) (X : Cx) (a : Addr) (oe : Obj) (cls : Value) (d : Option Addr) (pn : List (Addr × Obj)) (c : Nat) (ds : List D), GOk I G → XOk0 false I G T N sc WX0 (X.suite a ((a, oe) :: pn)) → Zc cls d oe → (∃ vs, oe.data = .fields vs) → PA (X.suite a ((a, oe) :: pn)) e (rdXL G T a cls d c ds io (m c ds))
def SimXT (e : Expr) (m : MXT) : Prop := ∀ (G : Gc) (T : FT) (X : Cx) (a : Addr) (oe : Obj) (cls : Value) (d : Option Addr) (pn : List (Addr × Obj)) (c : Nat) (ds : List D), GOk I G → XOk0 false I G T N sc WX0 (X.suite a ((a, oe) :: pn)) → Zc cls d oe → (∃ vs, oe.data = .fields vs) → PT (X.suite a ((a, oe) :: pn)) e (rdXT G T a cls d c ds io (m c ds))
end
section
variable {io : Option Nat}
theorem simx_E {e : Expr} {m : ME} (h : SimE false I N sc e m) : SimX I N sc io e (xE m) := fun G T X a oe cls d pn c ds hG ok hz hf =>
  (h G T _ _ hG ok).weak fun σ H Q ⟨ρ, δ, S, he, hs, _, q⟩ => ⟨ρ, δ, S, he, hs, q⟩
theorem simxl_nil : SimXL I N sc io [] xNil := fun G T X a oe cls d pn c ds hG ok hz hf => pa_nil.weak fun σ H Q ⟨ρ, δ, S, he, hs, _, q⟩ => q H ρ (Fr.refl _ _) hs [] .nil
theorem simxl_cons {e : Expr} {es : List Expr} {me : MX} {ml : MXL} (ha : SimX I N sc io e me) (hr : SimXL I N sc io es ml) (hs : ∀ env, starEach (e :: es) env = (false, eval e env) :: starEach es env := by intro _; rfl) :
    SimXL I N sc io (e :: es) (xCons me ml) := fun G T X a oe cls d pn c ds hG ok hz hf => by
  refine (pa_cons (ha G T X a oe cls d pn c ds hG ok hz hf) (hr G T X a oe cls d pn c ds hG ok hz hf) (hs X.env)).weak fun σ H Q ⟨ρ, δ, S, he, hs, cx, q⟩ => ?_
  refine ⟨ρ, δ, S, he, hs, cx, (bnd_ok (okR.then q)).mono fun w S1 H1 ρ1 f st p v r fs => ?_⟩
  obtain ⟨dd, S2, ρ2, rd, st2, f2, p⟩ := p v r fs
  refine ⟨ρ2, δ, S2, he.fr f2, st2, cx.fr f2 hs, (okR.then p).mono fun ds S3 H3 ρ3 f3 st3 p3 vs rv => ?_⟩
  exact p3 H3 ρ3 (Fr.refl _ _) st3 (v :: vs) (.cons (rd.fr f3) rv)
theorem simx_tup {es : List Expr} {ml : MXL} {x1} {pos} (h : SimXL I N sc io es ml) : SimX I N sc io (.Tuple es x1 pos) (xTup ml) := fun G T X a oe cls d pn c ds hG ok hz hf => by
  refine (pe_tup (h G T X a oe cls d pn c ds hG ok hz hf)).weak fun σ H Q ⟨ρ, δ, S, he, hs, cx, q⟩ => ?_
  refine ⟨ρ, δ, S, he, hs, cx, (okR.then q).mono fun ds S1 H1 ρ1 f st p vs r => ?_⟩
  split at p
  · rename_i hl
    exact ⟨by rw [← r.length]; exact hl, fun a ha => p _ ρ1 (fr_new ha (st.free ha)) (st.new ha) _ (new_tup st r ha) True.intro⟩
  · exact p.elim
theorem simxt_E {e : Expr} {m : MX} (ha : SimX I N sc io e m) (he : ∀ env whole, isTrue e env whole = (do let v ← whole; standAt e.pos; holding [v] (truthy v)) := by intro _ _; rfl) : SimXT I N sc io e (xT m) := fun G T X a oe cls d pn c ds hG ok hz hf => by
  refine (pt_truth (ha G T X a oe cls d pn c ds hG ok hz hf) (he X.env)).weak fun σ H Q ⟨ρ, δ, S, he, hs, cx, q⟩ => ?_
  refine ⟨ρ, δ, S, he, hs, cx, (okR.then q).mono fun w S1 H1 ρ1 f1 st1 p v r fs => ?_⟩
  split at p
  · rename_i b e
    exact ⟨b, by rw [ok.eK]; exact truth_rep e st1 r, p H1 ρ1 (Fr.refl _ _) st1⟩
  · exact p.elim
theorem simx_if {c a b : Expr} {mc : MXT} {ma mb : MX} {pos} (hc : SimXT I N sc io c mc) (ha : SimX I N sc io a ma) (hb : SimX I N sc io b mb) : SimX I N sc io (.IfExp c a b pos) (xIf mc ma mb) := fun G T X a oe cls d pn c ds hG ok hz hf => by
  refine (pe_ifExp (hc G T X a oe cls d pn c ds hG ok hz hf) (ha G T X a oe cls d pn c ds hG ok hz hf) (hb G T X a oe cls d pn c ds hG ok hz hf)).weak fun σ H Q ⟨ρ, δ, S, he, hs, cx, q⟩ => ?_
  refine ⟨ρ, δ, S, he, hs, cx, (okR.then q).mono fun t S1 H1 ρ1 f1 st1 p => ?_⟩
  have p' : ∀ m : ME, okR G H1 ρ1 WX0 σ (fun w _ H' ρ' => ∀ v, RepW G H' ρ' w v → Fresh H w v → Q v H') (m T δ S1) → rdX G T a cls d c ds io m σ H1 Q := fun m p =>
    ⟨ρ1, δ, S1, he.fr f1, st1, cx.fr f1 hs, p.mono fun w S2 H2 ρ2 f2 st2 p2 v r fs => p2 v r (Fresh.back f1 st1 fs)⟩
  cases t with
  | true => exact iteT (p' _ p)
  | false => exact iteF (p' _ p)
theorem zip_lookup {f : Str} {d : D} : ∀ {fs : List Str} {ds : List D}, (fs.zip ds).lookup f = some d → ∃ k : Nat, fs[k]? = some f ∧ ds[k]? = some d
  | [], _, h => by cases h
  | _ :: _, [], h => by cases h
  | g :: fs, e :: ds, h => by
    rw [List.zip_cons_cons, List.lookup_cons] at h
    split at h
    · rename_i q
      cases h
      exact ⟨0, by rw [show f = g by simpa using q]; rfl, rfl⟩
    · obtain ⟨k, h1, h2⟩ := zip_lookup h
      exact ⟨k + 1, h1, h2⟩
/-- error.f -/
theorem simx_fld {n f : Str} {p pos : Pos} (i : Nat) (tab : List (List Str)) (ht : tab = I.excs.map (·.fields) := by rfl) (hN : N[i]? = some n := by rfl) (hv : kindV sc n = true := by rfl) (hb : ∀ env, attributeBase (.Name n p) f env (eval (.Name n p) env) = eval (.Name n p) env := by intro _; rfl)
    (hd : (n == ("__debug__" : Str)) = false := by decide) (hcd : (n == ("__classdict__" : Str)) = false := by decide) : SimX I N sc (some i) (.Attribute (.Name n p) f pos) (xFld tab f) := fun G T X a oe cls d pn c ds hG ok hz hf => by
  refine ⟨fun pins s σ H Q J ⟨ρ, δ, S, he, hs, cx, q⟩ => ?_⟩
  obtain ⟨hi, rfl, vs, dd, gs, r, rfl, hdd, hl, hget⟩ := cx
  unfold xFld at q
  split at q
  · rename_i fs e
    split at q
    · rename_i dv l
      rw [ht, List.getElem?_map] at e
      obtain ⟨ei, h1, h2⟩ := Option.map_eq_some_iff.mp e
      have g := hG.exc c ei h1
      obtain ⟨k, k1, k2⟩ := zip_lookup l
      obtain ⟨v, v1, v2⟩ := r.get k2
      have eK : X.K = G.K := ok.eK
      have eN : X.N = N := ok.eN
      have eS : X.env.scope = sc := ok.eS
      refine (pe_xf (n := f) (X := X) (C := G.xa c) (by rw [eK]; exact g.xf) (by rw [eK]; exact g.fld f (by rw [h2]; exact List.mem_of_getElem? k1)) hz hf (pe_var (i := i) (by show X.N[i]? = _; rw [eN]; exact hN) (by show Vis X.env.scope n; rw [eS]; exact vis_of hv) hd hcd) (hb X.env)).run pins s σ H Q J ?_
      exact ⟨.ref a, hi i rfl, rfl, rfl, dd, gs, v, rfl, hdd, hget k f v (by rw [g.fs, h2]; exact k1) v1, q H ρ (Fr.refl _ _) hs v v2 True.intro⟩
    · exact q.elim
  · exact q.elim
/-- isinstance(error, C) -/
theorem call_isX {X : Cx} {a D : Addr} {oe : Obj} {d : Option Addr} {pn : List (Addr × Obj)} (C : ExcC X.K D) (hz : Zc (.ref D) d oe) (hf : ∃ vs, oe.data = .fields vs) :
    CallR (X.suite a ((a, oe) :: pn)) (.builtin "isinstance") (fun xs H Q => ∃ (cv dd : Addr) (b : Bool) (gs : List (Str × V)), xs = [.ref a, .ref cv] ∧ d = some dd ∧ H dd = some (.xd gs) ∧ PySem.W.kitOne X.K (.ref D) (.ref cv) = some b ∧ Q (.bl b) H) := by
  intro pins s σ H xs us Q J r h
  obtain ⟨cv, dd, b, gs, rfl, rfl, hd, e, q⟩ := h
  obtain ⟨u1, u2, rfl, r1, r2⟩ := vals2 r
  obtain rfl : u1 = Value.ref a := r1
  obtain rfl : u2 = Value.ref cv := r2
  obtain ⟨ha, _⟩ := J.pin (a, oe) (List.mem_append_left _ List.mem_cons_self)
  obtain ⟨vs, hdt⟩ := hf
  have hx : ObjOk X.prog X.w H s.heap dd (.xd gs) := J.hok dd _ hd
  obtain ⟨mA, hns, _⟩ := hx
  obtain ⟨od, ho, _⟩ := lookIn_ns hns
  have IA : PySem.W.InstAt s.heap a oe D (some od) := ⟨ha, hz.1, by unfold PySem.W.notCls; rw [hdt] <;> rfl, by rw [hz.2]; exact ho⟩
  have hcl : (PySem.W.clsIn X.K D).isSome = true := by
    have := C.hd
    unfold PySem.W.hasDictIn at this
    cases z : PySem.W.clsIn X.K D with
    | none => rw [z] at this; simp at this
    | some c => rfl
  exact PySem.W.kia_one (PySem.W.kitx_exc hcl C.hg C.hk C.hs C.ha C.hn C.ht C.hm) J.kIn IA e (fun z => nomatch z) fun tk => ⟨.bl b, H, J.kept (t' := tk) fun _ _ z => z, rfl, q⟩
theorem simx_is {n x : Str} {p p1 p2 pos : Pos} (jb i j : Nat) (mros : List (List Nat)) {ej : EI} (hj : I.excs[j]? = some ej) (hx : ej.name = x) (ht : mros = I.excs.map (·.mro) := by rfl) (hN : N[i]? = some n := by rfl) (hv : kindV sc n = true := by rfl) (hb : I.bins[jb]? = some "isinstance" := by rfl)
    (hg : glob sc "isinstance" = true := by rfl) (hgx : glob sc x = true := by rfl)
    (hd : (n == ("__debug__" : Str)) = false := by decide) (hcd : (n == ("__classdict__" : Str)) = false := by decide) (hdx : (x == ("__debug__" : Str)) = false := by decide) : SimX I N sc (some i) (.Call (.Name "isinstance" p) [.Name n p1, .Name x p2] [] pos) (xIs mros j) := fun G T X a oe cls d pn c ds hG ok hz hf => by
  refine ⟨fun pins s σ H Q J ⟨ρ, δ, S, he, hs, cx, q⟩ => ?_⟩
  obtain ⟨hi, rfl, vs, dd, gs, r, rfl, hdd, hl, hget⟩ := cx
  unfold xIs at q
  split at q
  · rename_i m e
    rw [ht, List.getElem?_map] at e
    obtain ⟨ei, h1, h2⟩ := Option.map_eq_some_iff.mp e
    have g := hG.exc c ei h1
    have gj := hG.exc j ej hj
    have eK : X.K = G.K := ok.eK
    have eN : X.N = N := ok.eN
    have eS : X.env.scope = sc := ok.eS
    have eM : X.mg = G.mg := ok.eM
    subst hx
    have hgl : ∀ {y : Str}, glob sc y = true → Gl X y := fun {y} h => by
      unfold glob at h
      show X.env.scope.names.lookup y = _
      rw [eS]
      split at h <;> simp_all
    refine (pe_callB (X := X.suite a ((a, oe) :: pn)) (call_isX (X := X) (D := G.xa c) (by rw [eK]; exact g.exc) hz hf) (hgl hg) (by show X.mg _ = _; rw [eM]; exact hG.bin jb _ hb) PyProof.Rows.Boot.isinstance
      (pa_cons (pe_var (i := i) (by show X.N[i]? = _; rw [eN]; exact hN) (by show Vis X.env.scope n; rw [eS]; exact vis_of hv) hd hcd) (pa_cons (pe_glob (v := .ref (G.xa j)) (hgl hgx) (by show X.mg _ = _; rw [eM]; exact gj.nm) rfl hdx) pa_nil))).run pins s σ H Q J ?_
    refine ⟨.ref a, hi i rfl, G.xa j, dd, m.contains j, gs, rfl, rfl, hdd, ?_, q H ρ (Fr.refl _ _) hs _ (.bl _) True.intro⟩
    rw [eK, ← h2]
    exact (hG.exm c j ei ej h1 hj).2
  · exact q.elim
/-! ### try -/
theorem XOk.tr {X : Cx} (ok : XOk I G T N sc Wx X) {W : WX} {pn : List (Addr × Obj)} {xe : Value → Shared → Prop} (tk : Takes (X.tr pn xe) W) (po : PassesOwn (model X.prog X.w) X.A X.env xe) : XOk I G T N sc W (X.tr pn xe) :=
  { eK := ok.eK, eM := ok.eM, eN := ok.eN, eS := ok.eS, nd := ok.nd, units := ok.units, tk := tk, kd := ok.kd, gen' := ok.gen', calm' := ok.calm', calls' := ok.calls', po := po, fn := ok.fn, stk := ok.stk, frm := ok.frm, exn := ok.exn }
theorem XOk.suite {X : Cx} (ok : XOk I G T N sc Wx X) (a : Addr) (pn : List (Addr × Obj)) (hu : (X.A.mark (some (.ref a))).units = X.A.units) : XOk0 false I G T N sc WX0 (X.suite a pn) :=
  { eK := ok.eK, eM := ok.eM, eN := ok.eN, eS := ok.eS, nd := ok.nd, units := by show (X.A.mark _).units + 64 < _; rw [hu]; exact ok.units, tk := takes0, kd := ok.kd, gen' := ok.gen', calm' := fun h => (Bool.noConfusion h), calls' := fun h => (Bool.noConfusion h) }
def rdTry (G : Gc) (T : FT) (io : Option Nat) (m : MX) (a : Addr) (cls : Value) (d : Option Addr) : TS := fun D σ H => ∃ c ds, rdX G T a cls d c ds io (m c ds) σ H fun v H' => D.rt v H'
theorem try_suite {X : Cx} (ok : XOk I G T N sc Wx X) (hG : GOk I G) {e : Expr} {m : MX} {pos : Pos} {a : Addr} {oe : Obj} {cls : Value} {d : Option Addr} {pn : List (Addr × Obj)} (h : SimX I N sc io e m) (hz : Zc cls d oe) (hf : ∃ vs, oe.data = .fields vs) :
    PSs (X.suite a ((a, oe) :: pn)) [.Return (some e) pos] (rdTry G T io m a cls d) := ⟨fun pins s σ H D J ⟨c, ds, q⟩ => (pss_one (ps_ret (h G T X a oe cls d pn c ds hG (ok.suite a _ rfl) hz hf))).run pins s σ H D J q⟩
theorem okR.mono' {α : Type} {P P' : α → Sto → Hp → List Addr → Prop} {r : R α} {σ' : L2.St} (h : okR G H ρ WX0 σ P r) (f : ∀ a S H' ρ', Fr H ρ H' ρ' → StOk G H' ρ' S → P a S H' ρ' → P' a S H' ρ') : okR G H ρ WX0 σ' P' r := by
  cases r with
  | ok a S => exact fun H' ρ' fr st => f a S H' ρ' fr st (h H' ρ' fr st)
  | exc c ds S => exact fun H' ρ' cls d fr st x => h H' ρ' cls d fr st x
  | bad => exact h
theorem nox_okR {r : R W} {P : W → Sto → Hp → List Addr → Prop} (h : okR G H ρ Wx σ P r.nox) : okR G H ρ WX0 σ P r := by
  cases r with
  | ok a S => exact h
  | exc c ds S => exact h.elim
  | bad => exact h
theorem Env_clear {i : Nat} {v : Option V} (r : EnvRep G H ρ δ σ) : EnvRep G H ρ (δ.set i none) (σ.set i v) := by
  refine ⟨by rw [List.length_set, List.length_set, r.len], fun j e h => ?_⟩
  by_cases hj : i = j
  · subst hj
    rw [List.getElem?_set] at h
    simp at h
  · rw [List.getElem?_set_ne hj] at h
    rw [List.getElem?_set_ne hj]
    exact r.get j e h
theorem sims_try {x : Str} {body : List Stmt} {mb : MS} {e : Expr} {m : MX} {np pos pos' rp : Pos} (j : Nat) (mros : List (List Nat)) {ej : EI} (hj : I.excs[j]? = some ej) (hx : ej.name = x) (hb : SimB I N sc body mb) (hs : SimX I N sc none e m) (ht : mros = I.excs.map (·.mro) := by rfl)
    (hgx : glob sc x = true := by rfl) (hdx : (x == ("__debug__" : Str)) = false := by decide) : SimS I N sc (.Try body [.ExceptHandler (some (.Name x np)) none [.Return (some e) rp] pos'] [] [] pos) (sTry mb mros j none m) := fun G T Wx X hG ok => by
  have gj := hG.exc j ej hj
  subst hx
  refine (ps_try_only (c := .ref (G.xa j)) (tb := fun W => rdS G T W mb) (ts := rdTry G T none m) (Wout := Wx) ok.stk ok.frm ⟨ok.gl hgx, hdx, .inl (by rw [ok.eM]; exact gj.nm)⟩ ok.tk (fun W pn xe tk po => hb G T W _ hG (ok.tr tk po)) (fun a oe cls d pn hz hf => try_suite ok hG hs hz hf)).weak fun D σ H ⟨ρ, δ, S, he, hst, q⟩ => ?_
  refine ⟨ρ, δ, S, he, hst, ?_⟩
  unfold sTry at q
  cases hr : mb T δ S with
  | nx δ1 S1 => rw [hr] at q; exact q
  | bk δ1 S1 => rw [hr] at q; exact q
  | ct δ1 S1 => rw [hr] at q; exact q
  | rt w S1 => rw [hr] at q; exact q
  | bad => rw [hr] at q; exact q
  | exc c ds δ1 S1 =>
    rw [hr] at q
    dsimp only at q
    intro σ' H' ρ' cls d f st he' xr
    split at q
    · rename_i mm em
      rw [ht, List.getElem?_map] at em
      obtain ⟨ei, h1, h2⟩ := Option.map_eq_some_iff.mp em
      refine ⟨mm.contains j, ?_, fun hc a na => ?_, fun hc => ?_⟩
      · rw [ok.eK, xr.1, ← h2]
        exact (hG.exm c j ei ej h1 hj).1
      · rw [if_pos hc] at q
        refine ⟨c, ds, ρ', δ1, S1, he', st, ⟨fun i z => (by cases z), xr⟩, nox_okR ((okF.thenO he' (okF.later q f st)).mono fun w S2 H2 ρ2 f2 st2 p v r fs => ?_)⟩
        exact p H2 ρ2 v f2 st2 r fs
      · rw [if_neg (by rw [hc]; exact Bool.false_ne_true)] at q
        exact q σ' H' ρ' cls d f st he' xr
    · exact q.elim
theorem sims_tryAs {x n : Str} {body : List Stmt} {mb : MS} {e : Expr} {m : MX} {np pos pos' rp : Pos} (j : Nat) (mros : List (List Nat)) (i : Nat) {ej : EI} (hj : I.excs[j]? = some ej) (hx : ej.name = x) (hb : SimB I N sc body mb) (hs : SimX I N sc (some i) e m) (ht : mros = I.excs.map (·.mro) := by rfl) (hi : N[i]? = some n := by rfl)
    (hln : sc.names.lookup n = some .local := by rfl) (hgx : glob sc x = true := by rfl) (hdx : (x == ("__debug__" : Str)) = false := by decide) : SimS I N sc (.Try body [.ExceptHandler (some (.Name x np)) (some n) [.Return (some e) rp] pos'] [] [] pos) (sTry mb mros j (some i) m) := fun G T Wx X hG ok => by
  have gj := hG.exc j ej hj
  subst hx
  refine (ps_try_as (i := i) (c := .ref (G.xa j)) (tb := fun W => rdS G T W mb) (ts := rdTry G T (some i) m) (Wout := Wx) ok.stk ok.frm (by rw [ok.eN]; exact ok.nd) (by rw [ok.eN]; exact hi) (by show X.env.scope.names.lookup n = _; rw [ok.eS]; exact hln) ⟨ok.gl hgx, hdx, .inl (by rw [ok.eM]; exact gj.nm)⟩ ok.tk
    (fun W pn xe tk po => hb G T W _ hG (ok.tr tk po)) (fun a oe cls d pn hz hf => try_suite ok hG hs hz hf)).weak fun D σ H ⟨ρ, δ, S, he, hst, q⟩ => ?_
  refine ⟨ρ, δ, S, he, hst, ?_⟩
  unfold sTry at q
  cases hr : mb T δ S with
  | nx δ1 S1 => rw [hr] at q; exact q
  | bk δ1 S1 => rw [hr] at q; exact q
  | ct δ1 S1 => rw [hr] at q; exact q
  | rt w S1 => rw [hr] at q; exact q
  | bad => rw [hr] at q; exact q
  | exc c ds δ1 S1 =>
    rw [hr] at q
    dsimp only at q
    intro σ' H' ρ' cls d f st he' xr
    split at q
    · rename_i mm em
      rw [ht, List.getElem?_map] at em
      obtain ⟨ei, h1, h2⟩ := Option.map_eq_some_iff.mp em
      refine ⟨mm.contains j, ?_, fun hc a na => ?_, fun hc => ?_⟩
      · rw [ok.eK, xr.1, ← h2]
        exact (hG.exm c j ei ej h1 hj).1
      · rw [if_pos hc] at q
        split at q
        · rename_i hlt
          have hc2 := (Env_clear (i := i) (v := some (.ref a)) he')
          refine ⟨c, ds, ρ', δ1.set i none, S1, hc2, st, ⟨fun k z => ?_, xr⟩, (nox_okR (okF.thenO he' (okF.later q f st))).mono' fun w S2 H2 ρ2 f2 st2 p v r fs => ?_⟩
          · cases z
            rw [List.getElem?_set_self (by rw [← he'.len]; exact hlt)]
          · exact p H2 ρ2 v f2 st2 r fs
        · exact q.elim
      · rw [if_neg (by rw [hc]; exact Bool.false_ne_true)] at q
        exact q σ' H' ρ' cls d f st he' xr
    · exact q.elim
end
end
end MM
set_option maxRecDepth 100000
set_option maxHeartbeats 2000000
/-! MM, part N: isinstance; max and min of two; calls with keywords. -/
namespace MM
open PySem PySem.Spec L2
section
variable {cl : Bool} {I : Info} {N : List Str} {sc : Scope} {G : Gc} {T : FT} {Wx : WX} {H : Hp} {ρ : List Addr} {δ : MM.Env} {S : Sto} {σ : L2.St}
def Ty.nm : Ty → String
  | .int => "int"
  | .str => "str"
  | .bool => "bool"
  | .tuple => "tuple"
  | .list => "list"
  | .dict => "dict"
theorem ty_boot (t : Ty) : bootBuiltins (Str.ofString t.nm) = some (.type t.nm) := by
  cases t
  · exact PyProof.Rows.Boot.int
  · exact PyProof.Rows.Boot.str
  · exact PyProof.Rows.Boot.bool
  · exact PyProof.Rows.Boot.tuple
  · exact PyProof.Rows.Boot.list
  · exact PyProof.Rows.Boot.dict
theorem kit_non (K : PySem.W.Frag) (t : Ty) : PySem.W.kitOne K (.type "NoneType") (.type t.nm) = some false := by cases t <;> rfl
theorem kit_bl (K : PySem.W.Frag) (t : Ty) : PySem.W.kitOne K (.type "bool") (.type t.nm) = some (t == .bool || t == .int) := by cases t <;> rfl
theorem kit_int (K : PySem.W.Frag) (t : Ty) : PySem.W.kitOne K (.type "int") (.type t.nm) = some (t == .int) := by cases t <;> rfl
theorem kit_str (K : PySem.W.Frag) (t : Ty) : PySem.W.kitOne K (.type "str") (.type t.nm) = some (t == .str) := by cases t <;> rfl
theorem kit_tup (K : PySem.W.Frag) (t : Ty) : PySem.W.kitOne K (.type "tuple") (.type t.nm) = some (t == .tuple) := by cases t <;> rfl
theorem kit_lst (K : PySem.W.Frag) (t : Ty) : PySem.W.kitOne K (.type "list") (.type t.nm) = some (t == .list) := by cases t <;> rfl
theorem kit_dct (K : PySem.W.Frag) (t : Ty) : PySem.W.kitOne K (.type "dict") (.type t.nm) = some (t == .dict) := by cases t <;> rfl
theorem tyx_tup {a : Addr} {xs : List V} (h : TupAt G.K H a xs) : TyX G.K H (.ref a) (.type "tuple") := by
  rcases h with h | ⟨o, its, n, h1, h2, _⟩
  · exact .base (.tup h)
  · exact .kTuple h1 h2
theorem tyx_frz {a : Addr} {xs : List V} (h : FrzAt G.K H a xs) : TyX G.K H (.ref a) (.type "list") := by
  obtain ⟨o, h⟩ := h
  exact .base (.frz h)
/-- a value's type -/
theorem isTy_rep {w : W} {v : V} (st : StOk G H ρ S) (r : RepW G H ρ w v) (hs : (w.isTy S .int).isSome = true) : ∃ nm, TyX G.K H v (.type nm) ∧ ∀ t b, w.isTy S t = some b → PySem.W.kitOne G.K (.type nm) (.type t.nm) = some b := by
  have ob : ∀ {o : O} {a : Addr}, ObjRep G H ρ a o → (∀ c fs, o ≠ .ins c fs) → ∃ nm, TyX G.K H (.ref a) (.type nm) ∧ ∀ t, PySem.W.kitOne G.K (.type nm) (.type t.nm) = some (o.isTy t) := fun {o a} h hn => by
    cases o with
    | lst ds =>
      obtain ⟨xs, h1, _⟩ := h
      exact ⟨_, .base (.lst h1), fun t => by rw [kit_lst]; cases t <;> rfl⟩
    | dct ds =>
      obtain ⟨xs, h1, _⟩ := h
      exact ⟨_, .base (.dK h1), fun t => by rw [kit_dct]; cases t <;> rfl⟩
    | dtt ds =>
      obtain ⟨xs, h1, _⟩ := h
      exact ⟨_, .base (.dT h1), fun t => by rw [kit_dct]; cases t <;> rfl⟩
    | ins c fs => exact absurd rfl (hn c fs)
  cases w with
  | val d =>
    cases r with
    | non => exact ⟨_, .base .non, fun t b e => by cases e; exact kit_non _ t⟩
    | bl y => exact ⟨_, .base (.bl y), fun t b e => by cases e; exact kit_bl _ t⟩
    | int y => exact ⟨_, .base (.int y), fun t b e => by cases e; exact kit_int _ t⟩
    | str y => exact ⟨_, .base (.str y), fun t b e => by cases e; exact kit_str _ t⟩
    | tup h l => exact ⟨_, tyx_tup h, fun t b e => by cases e; exact kit_tup _ t⟩
    | frz h l => exact ⟨_, tyx_frz h, fun t b e => by cases e; exact kit_lst _ t⟩
    | scr h l =>
      refine ⟨"list", ?_, fun t b e => by cases e; exact kit_lst _ t⟩
      rcases h with ⟨o, h⟩ | ⟨o, its, n, h1, h2, _⟩
      · exact .base (.frz h)
      · exact .kList h1 h2
    | fdc h hl l => exact ⟨_, .fDict h.choose_spec, fun t b e => by cases e; exact kit_dct _ t⟩
    | loc er =>
      rename_i n a
      unfold W.isTy at hs ⊢
      dsimp only at hs ⊢
      cases q : S[n]? with
      | none => rw [q] at hs; cases hs
      | some o =>
        have hn : ∀ c fs, o ≠ .ins c fs := fun c fs z => by subst z; rw [q] at hs; cases hs
        obtain ⟨nm, h1, h2⟩ := ob (st.obj n o a q er) hn
        refine ⟨nm, h1, fun t b e => ?_⟩
        cases o with
        | ins c fs => exact absurd rfl (hn c fs)
        | lst ds => dsimp only at e; cases e; exact h2 t
        | dct ds => dsimp only at e; cases e; exact h2 t
        | dtt ds => dsimp only at e; cases e; exact h2 t
    | cls i => cases hs
    | ty s => cases hs
  | tmp o =>
    obtain ⟨a, rfl, _, h⟩ := r
    cases o with
    | ins c fs => cases hs
    | lst ds =>
      obtain ⟨nm, h1, h2⟩ := ob h (fun _ _ z => by cases z)
      exact ⟨nm, h1, fun t b e => by cases e; exact h2 t⟩
    | dct ds =>
      obtain ⟨nm, h1, h2⟩ := ob h (fun _ _ z => by cases z)
      exact ⟨nm, h1, fun t b e => by cases e; exact h2 t⟩
    | dtt ds =>
      obtain ⟨nm, h1, h2⟩ := ob h (fun _ _ z => by cases z)
      exact ⟨nm, h1, fun t b e => by cases e; exact h2 t⟩
theorem isTy_some {w : W} {t u : Ty} {b : Bool} (h : w.isTy S t = some b) : (w.isTy S u).isSome = true := by
  unfold W.isTy at h ⊢
  cases w with
  | val d =>
    cases d <;> dsimp only at h ⊢ <;> first | rfl | cases h | skip
    rename_i n
    cases q : S[n]? with
    | none => rw [q] at h; cases h
    | some o => cases o <;> rw [q] at h <;> first | rfl | cases h
  | tmp o => cases o <;> first | rfl | cases h
theorem sim_isi {a : Expr} {ma : ME} {p p2 pos} (j k : Nat) (t : Ty) (ha : SimE true I N sc a ma) (hj : I.bins[j]? = some "isinstance" := by rfl) (hk : I.bins[k]? = some (Str.ofString t.nm) := by rfl) (hg : glob sc "isinstance" = true := by rfl) (hgt : glob sc (Str.ofString t.nm) = true := by rfl)
    (hs : ∀ env, starEach [a, .Name (Str.ofString t.nm) p2] env = (false, eval a env) :: starEach [.Name (Str.ofString t.nm) p2] env := by intro _; rfl) : SimE true I N sc (.Call (.Name "isinstance" p) [a, .Name (Str.ofString t.nm) p2] [] pos) (eUn (uIs t) ma) := fun G T Wx X hG ok => by
  refine (pe_callB call_isi (ok.gl hg) (by rw [ok.eM]; exact hG.bin j _ hj) PyProof.Rows.Boot.isinstance (pa_cons (ha G T Wx X hG ok) (pa_cons (pe_bltn (v := .ty t.nm) (ok.gl hgt) (by rw [ok.eM]; exact hG.bin k _ hk) (ty_boot t) rfl (by cases t <;> decide) (by cases t <;> decide)) pa_nil) (hs X.env)) (by decide) (by decide) (hs X.env)).weak fun σ H Q ⟨ρ, δ, S, he, hst, q⟩ => ?_
  refine ⟨ρ, δ, S, he, hst, (okR.then q).mono fun w S1 H1 ρ1 f1 st1 q v r fs => ?_⟩
  unfold uIs at q
  cases e : w.isTy S1 t with
  | none => rw [e] at q; exact q.elim
  | some b =>
    rw [e] at q
    obtain ⟨nm, h1, h2⟩ := isTy_rep st1 r (isTy_some e)
    exact ⟨v, .ty t.nm, _, _, b, rfl, .ty _, by rw [ok.eK]; exact h1, by rw [ok.eK]; exact h2 t b e, q H1 ρ1 (Fr.refl _ _) st1 _ (.bl b) True.intro⟩
theorem sim_isi2 {a : Expr} {ma : ME} {p p2 p3 pt pos} {x1} (j k l : Nat) (t u : Ty) (ha : SimE true I N sc a ma) (hj : I.bins[j]? = some "isinstance" := by rfl) (hk : I.bins[k]? = some (Str.ofString t.nm) := by rfl) (hl : I.bins[l]? = some (Str.ofString u.nm) := by rfl) (hg : glob sc "isinstance" = true := by rfl) (hgt : glob sc (Str.ofString t.nm) = true := by rfl) (hgu : glob sc (Str.ofString u.nm) = true := by rfl)
    (hs : ∀ env, starEach [a, .Tuple [.Name (Str.ofString t.nm) p2, .Name (Str.ofString u.nm) p3] x1 pt] env = (false, eval a env) :: starEach [.Tuple [.Name (Str.ofString t.nm) p2, .Name (Str.ofString u.nm) p3] x1 pt] env := by intro _; rfl) :
    SimE true I N sc (.Call (.Name "isinstance" p) [a, .Tuple [.Name (Str.ofString t.nm) p2, .Name (Str.ofString u.nm) p3] x1 pt] [] pos) (eUn (uIs2 t u) ma) := fun G T Wx X hG ok => by
  have bt : ∀ (k : Nat) (t : Ty) p, I.bins[k]? = some (Str.ofString t.nm) → glob sc (Str.ofString t.nm) = true → PE X (.Name (Str.ofString t.nm) p) (tC (.ty t.nm)) := fun k t p hk hg => pe_bltn (v := .ty t.nm) (ok.gl hg) (by rw [ok.eM]; exact hG.bin k _ hk) (ty_boot t) rfl (by cases t <;> decide) (by cases t <;> decide)
  refine (pe_callB call_isiT (ok.gl hg) (by rw [ok.eM]; exact hG.bin j _ hj) PyProof.Rows.Boot.isinstance (pa_cons (ha G T Wx X hG ok) (pa_cons (pe_tup (pa_cons (bt k t p2 hk hgt) (pa_cons (bt l u p3 hl hgu) pa_nil))) pa_nil) (hs X.env)) (by decide) (by decide) (hs X.env)).weak fun σ H Q ⟨ρ, δ, S, he, hst, q⟩ => ?_
  refine ⟨ρ, δ, S, he, hst, (okR.then q).mono fun w S1 H1 ρ1 f1 st1 q v r fs => ⟨by show 2 ≤ sizeLine; rw [sizeLine_eq]; omega, fun tp hp => ?_⟩⟩
  unfold uIs2 at q
  cases e : w.isTy S1 t with
  | none => rw [e] at q; exact q.elim
  | some b =>
    cases e2 : w.isTy S1 u with
    | none => rw [e, e2] at q; exact q.elim
    | some c =>
      rw [e, e2] at q
      have f2 := fr_new (o := .tup [.ty t.nm, .ty u.nm]) hp (st1.free hp)
      have st2 := st1.new (o := .tup [.ty t.nm, .ty u.nm]) hp
      have r2 : RepW G (upd H1 tp (.tup [.ty t.nm, .ty u.nm])) ρ1 w v := r.fr f2
      obtain ⟨nm, h1, h2⟩ := isTy_rep st2 r2 (isTy_some e)
      refine ⟨v, tp, [.ty t.nm, .ty u.nm], _, [.type t.nm, .type u.nm], b || c, rfl, upd_same, .cons (.ty _) (.cons (.ty _) .nil), by rw [ok.eK]; exact h1, ?_, q _ ρ1 f2 st2 _ (.bl _) True.intro⟩
      rw [ok.eK]
      unfold PySem.W.kitAny
      rw [h2 t b e]
      cases b with
      | true => rfl
      | false =>
        dsimp only
        unfold PySem.W.kitAny
        rw [h2 u c e2]
        cases c <;> rfl
/-! ### max, min of two -/
theorem sim_max2 {a b : Expr} {ma mb : ME} {p pos} (j : Nat) (ha : SimE true I N sc a ma) (hb : SimE true I N sc b mb) (hj : I.bins[j]? = some "max" := by rfl) (hg : glob sc "max" = true := by rfl) (hs : ∀ env, starEach [a, b] env = [(false, eval a env), (false, eval b env)] := by intro _; rfl) (hs2 : ∀ env, starEach [b] env = [(false, eval b env)] := by intro _; rfl) :
    SimE true I N sc (.Call (.Name "max" p) [a, b] [] pos) (eBin bMax2 ma mb) := fun G T Wx X hG ok => by
  refine (pe_callB (call_max2 ok.calm) (ok.gl hg) (by rw [ok.eM]; exact hG.bin j _ hj) PyProof.Rows.Boot.max (pa_cons (ha G T Wx X hG ok) (pa_cons (hb G T Wx X hG ok) pa_nil (hs2 X.env)) (by rw [hs X.env, hs2 X.env])) (by decide) (by decide) (by rw [hs X.env, hs2 X.env]) (by rw [hs2 X.env]; rfl)).weak fun σ H Q ⟨ρ, δ, S, he, hst, q⟩ => ?_
  refine ⟨ρ, δ, S, he, hst, (okR.then q).mono fun x S1 H1 ρ1 f1 st1 q v r fs => ⟨ρ1, δ, S1, he.fr f1, st1, (okR.then q).mono fun y S2 H2 ρ2 f2 st2 q v2 r2 fs2 => ?_⟩⟩
  split at q
  · rename_i w e
    unfold bMax2 at e
    split at e <;> cases e
    cases r; cases r2
    exact ⟨_, _, rfl, q H2 ρ2 (Fr.refl _ _) st2 _ (.int _) True.intro⟩
  · exact q.elim
theorem sim_min2 {a b : Expr} {ma mb : ME} {p pos} (j : Nat) (ha : SimE true I N sc a ma) (hb : SimE true I N sc b mb) (hj : I.bins[j]? = some "min" := by rfl) (hg : glob sc "min" = true := by rfl) (hs : ∀ env, starEach [a, b] env = [(false, eval a env), (false, eval b env)] := by intro _; rfl) (hs2 : ∀ env, starEach [b] env = [(false, eval b env)] := by intro _; rfl) :
    SimE true I N sc (.Call (.Name "min" p) [a, b] [] pos) (eBin bMin2 ma mb) := fun G T Wx X hG ok => by
  refine (pe_callB (call_min2 ok.calm) (ok.gl hg) (by rw [ok.eM]; exact hG.bin j _ hj) PyProof.Rows.Boot.min (pa_cons (ha G T Wx X hG ok) (pa_cons (hb G T Wx X hG ok) pa_nil (hs2 X.env)) (by rw [hs X.env, hs2 X.env])) (by decide) (by decide) (by rw [hs X.env, hs2 X.env]) (by rw [hs2 X.env]; rfl)).weak fun σ H Q ⟨ρ, δ, S, he, hst, q⟩ => ?_
  refine ⟨ρ, δ, S, he, hst, (okR.then q).mono fun x S1 H1 ρ1 f1 st1 q v r fs => ⟨ρ1, δ, S1, he.fr f1, st1, (okR.then q).mono fun y S2 H2 ρ2 f2 st2 q v2 r2 fs2 => ?_⟩⟩
  split at q
  · rename_i w e
    unfold bMin2 at e
    split at e <;> cases e
    cases r; cases r2
    exact ⟨_, _, rfl, q H2 ρ2 (Fr.refl _ _) st2 _ (.int _) True.intro⟩
  · exact q.elim
/-! ### calls with keywords -/
theorem permL_rel {α β : Type} {R : α → β → Prop} {P : List α → List β → Prop} (p0 : P [] []) (p1 : ∀ x y l m, R x y → P l m → P (x :: l) (y :: m)) {xs : List α} {ys : List β} (hl : xs.length = ys.length) (h : ∀ (i : Nat) x y, xs[i]? = some x → ys[i]? = some y → R x y) : ∀ perm : List Nat, P (permL perm xs) (permL perm ys)
  | [] => p0
  | k :: perm => by
    have ih := permL_rel p0 p1 hl h perm
    unfold permL at ih ⊢
    rw [List.filterMap_cons, List.filterMap_cons]
    by_cases hk : k < xs.length
    · rw [List.getElem?_eq_getElem hk, List.getElem?_eq_getElem (by omega)]
      exact p1 _ _ _ _ (h k _ _ (List.getElem?_eq_getElem hk) (List.getElem?_eq_getElem (by omega))) ih
    · rw [List.getElem?_eq_none (by omega), List.getElem?_eq_none (by omega)]
      exact ih
theorem permL_vals {vs : List V} {us : List Value} (r : Vals vs us) (perm : List Nat) : Vals (permL perm vs) (permL perm us) :=
  permL_rel (R := RelV) .nil (fun _ _ _ _ a b => .cons a b) r.length (fun i x y h1 h2 => by obtain ⟨u, h3, h4⟩ := r.get h1; rw [h2] at h3; cases h3; exact h4) perm
theorem permL_rep {ds : List D} {vs : List V} (r : RepL G H ρ ds vs) (perm : List Nat) : RepL G H ρ (permL perm ds) (permL perm vs) :=
  permL_rel (R := Rep G H ρ) .nil (fun _ _ _ _ a b => .cons a b) r.length (fun i x y h1 h2 => by obtain ⟨u, h3, h4⟩ := r.get h1; rw [h2] at h3; cases h3; exact h4) perm
def SimK (cl : Bool) (I : Info) (N : List Str) (sc : Scope) (ks : List Keyword) (m : ML) : Prop := ∀ G T Wx X, GOk I G → XOk0 cl I G T N sc Wx X → PK X ks (rdL G T Wx m)
theorem _root_.L2.PK.weak {X : Cx} {e : List Keyword} {t t' : TA} (h : PK X e t) (f : ∀ σ H Q, t' σ H Q → t σ H Q) : PK X e t' := ⟨fun pos pins s σ H Q I q => h.run pos pins s σ H Q I (f σ H Q q)⟩
theorem simk_nil : SimK cl I N sc [] lNil := fun G T Wx X hG ok => pk_nil.weak fun σ H Q ⟨ρ, δ, S, he, hs, q⟩ => q H ρ (Fr.refl _ _) hs [] .nil
theorem simk_cons {nm : Option Str} {kp : Pos} {e : Expr} {es : List Keyword} {me : ME} {ml : ML} (ha : SimE cl I N sc e me) (hr : SimK cl I N sc es ml) : SimK cl I N sc (⟨nm, e, kp⟩ :: es) (lCons me ml) := fun G T Wx X hG ok => by
  refine (pk_cons (ha G T Wx X hG ok) (hr G T Wx X hG ok)).weak fun σ H Q ⟨ρ, δ, S, he, hs, q⟩ => ?_
  refine ⟨ρ, δ, S, he, hs, (bnd_ok (okR.then q)).mono fun w S1 H1 ρ1 f st p v r fs => ?_⟩
  obtain ⟨d, S2, ρ2, rd, st2, f2, p⟩ := p v r fs
  refine ⟨ρ2, δ, S2, he.fr f2, st2, (okR.then p).mono fun ds S3 H3 ρ3 f3 st3 p3 vs rv => ?_⟩
  exact p3 H3 ρ3 (Fr.refl _ _) st3 (v :: vs) (.cons (rd.fr f3) rv)
/-- the call itself -/
theorem run_kw {X : Cx} (hG : GOk I G) (ok : XOk0 true I G T N sc Wx X) {j : Nat} {k : KI} {d : DI} (hj : I.kws[j]? = some k) (hi : I.defs[k.f]? = some d) {pins : List (Addr × Obj)} {s : Shared} {Q : VK} {us ws : List Value} {vs zs : List V} {ds es : List D} {H0 : Hp} {ρ0 : List Addr}
    (J : Inv X pins σ H s) (r : Vals vs us) (rz : Vals zs ws) (f : Fr H0 ρ0 H ρ) (st : StOk G H ρ S) (rd : RepL G H ρ ds vs) (re : RepL G H ρ es zs) (h1 : ds.length = k.np) (h2 : es.length = k.ks.length)
    (q : okR G H ρ Wx σ (fun w _ H' ρ' => ∀ v, RepW G H' ρ' w v → Fresh H0 w v → Q v H') (T k.f (permL k.perm (ds ++ es)) S)) : wpAny (model X.prog X.w) X.A (call (.ref (G.fa k.f)) us (k.ks.zip ws)) (EP X pins σ Q) X.xe s := by
  obtain ⟨n, hr, h⟩ := ok.room
  have F := h k.f d hi
  have r2 := permL_vals (r.append rz) k.perm
  have rl := permL_rep (rd.append re) k.perm
  have sp : spOf G (T k.f) (permL k.perm (vs ++ zs)) H Q (WE Wx σ) := sp_later f rl st q
  refine wpAny_call (codeAny_mono (F.run X.A X.stack s H ⟨us, k.ks.zip ws⟩ (permL k.perm (us ++ ws)) (permL k.perm (vs ++ zs)) Q (WE Wx σ) hr J.env0 ?_ r2 sp) fun r s' hq => ?_)
  · have b := hG.kw j k d hj hi us ws (by rw [← r.length, ← rd.length, h1]) (by rw [← rz.length, ← re.length, h2])
    exact .of_eq b
  · cases r with
    | error e => exact passAt ok.tk σ pins H s e s' J hq
    | ok fl =>
      cases fl with
      | ret u => exact J.after hq
      | next => exact False.elim hq
      | brk => exact False.elim hq
      | cont => exact False.elim hq
theorem sim_callK {x : Str} {e : Expr} {es : List Expr} {kws : List Keyword} {ml mk : ML} {p pos} (j : Nat) {k : KI} {d : DI} {f np nk : Nat} {pm : List Nat} (hj : I.kws[j]? = some k) (hkk : k.f = f ∧ k.np = np ∧ k.ks.length = nk ∧ k.perm = pm) (hi : I.defs[k.f]? = some d) (hx : d.name = x) (hgl : d.glob = true) (ha : SimL true I N sc (e :: es) ml) (hk : SimK true I N sc kws mk) (hg : glob sc x = true := by rfl)
    (hall : ∀ env, (backToKw pos (keywordEach kws env)).all (·.1.isSome) = true := by intro _; rfl) (hks : ∀ env, (backToKw pos (keywordEach kws env)).filterMap (·.1) = k.ks := by intro _; rfl)
    (hdb : (x == ("__debug__" : Str)) = false := by decide) (he : ∀ env, starEach (e :: es) env = (false, eval e env) :: starEach es env := by intro _; rfl) (hpl : ∀ env, ((backTo pos (starEach (e :: es) env)).any (·.1) || (backToKw pos (keywordEach kws env)).any (·.1.isNone)) = false := by intro _; rfl) :
    SimE true I N sc (.Call (.Name x p) (e :: es) kws pos) (eCallK f np nk pm ml mk) := fun G T Wx X hG ok => by
  obtain ⟨rfl, rfl, rfl, rfl⟩ := hkk
  obtain ⟨F, b, gl⟩ := hG.fn k.f d hi
  subst hx
  refine ⟨fun pins s σ H Q J ⟨ρ, δ, S, hn, hs, q⟩ => ?_⟩
  refine wpAny_Call_Name_kw (ld_glob J (ok.gl hg) (by rw [ok.eM]; exact gl hgl) ?_ hdb)
  have q := okR.then (gc_ok hs q)
  refine PySem.W.callWith_KW (h₀ := X.base) J.ok.mod.kin (by rw [ok.eK]; exact F.kp) (hall X.env) (thn ((ha G T Wx X hG ok).run pos pins s σ H (fun vs H1 => ∃ ρ1 S1 ds, Fr H ρ H1 ρ1 ∧ StOk G H1 ρ1 S1 ∧ RepL G H1 ρ1 ds vs ∧ okR G H1 ρ1 Wx σ (fun w _ H' ρ' => ∀ v, RepW G H' ρ' w v → Fresh H w v → Q v H') ((mk T δ S1).then fun zs S2 => if ds.length = k.np ∧ zs.length = k.ks.length then T k.f (permL k.perm (ds ++ zs)) S2 else .bad)) J
    ⟨ρ, δ, S, hn, hs, q.mono fun ds S1 H1 ρ1 f1 st1 p vs r => ⟨ρ1, S1, ds, f1, st1, r, p⟩⟩) fun us s1 ⟨vs, H1, J1, rv, ρ1, S1, ds, f1, st1, r, p⟩ => ?_) (hpl X.env) (he X.env)
  rw [hks X.env]
  refine thn ((hk G T Wx X hG ok).run pos pins s1 σ H1 (fun zs H2 => ∃ ρ2 S2 es', Fr H ρ H2 ρ2 ∧ StOk G H2 ρ2 S2 ∧ RepL G H2 ρ2 ds vs ∧ RepL G H2 ρ2 es' zs ∧ ds.length = k.np ∧ es'.length = k.ks.length ∧ okR G H2 ρ2 Wx σ (fun w _ H' ρ' => ∀ v, RepW G H' ρ' w v → Fresh H w v → Q v H') (T k.f (permL k.perm (ds ++ es')) S2)) J1
    ⟨ρ1, δ, S1, hn.fr f1, st1, (okR.then p).mono fun es' S2 H2 ρ2 f2 st2 p2 zs rz => ?_⟩) fun ws s2 ⟨zs, H2, J2, rw2, ρ2, S2, es', f2, st2, r2, rz, h1, h2, q2⟩ => ⟨J2.kIn, ?_⟩
  · split at p2
    · rename_i hh
      exact ⟨ρ2, S2, es', f1.trans f2, st2, r.fr f2, rz, hh.1, hh.2, p2⟩
    · exact p2.elim
  · exact run_kw hG ok hj hi J2 rv rw2 f2 st2 r2 rz h1 h2 q2
theorem sim_callK0 {x : Str} {kws : List Keyword} {mk : ML} {p pos} (j : Nat) {k : KI} {d : DI} {f np nk : Nat} {pm : List Nat} (hj : I.kws[j]? = some k) (hkk : k.f = f ∧ k.np = np ∧ k.ks.length = nk ∧ k.perm = pm) (hi : I.defs[k.f]? = some d) (hx : d.name = x) (hgl : d.glob = true) (hk : SimK true I N sc kws mk) (hg : glob sc x = true := by rfl)
    (hall : ∀ env, (backToKw pos (keywordEach kws env)).all (·.1.isSome) = true := by intro _; rfl) (hks : ∀ env, (backToKw pos (keywordEach kws env)).filterMap (·.1) = k.ks := by intro _; rfl)
    (hdb : (x == ("__debug__" : Str)) = false := by decide) (hpl : ∀ env, ((backTo pos (starEach [] env)).any (·.1) || (backToKw pos (keywordEach kws env)).any (·.1.isNone)) = false := by intro _; rfl) :
    SimE true I N sc (.Call (.Name x p) [] kws pos) (eCallK f np nk pm lNil mk) := fun G T Wx X hG ok => by
  obtain ⟨rfl, rfl, rfl, rfl⟩ := hkk
  obtain ⟨F, b, gl⟩ := hG.fn k.f d hi
  subst hx
  refine ⟨fun pins s σ H Q J ⟨ρ, δ, S, hn, hs, q⟩ => ?_⟩
  refine wpAny_Call_Name_kw (ld_glob J (ok.gl hg) (by rw [ok.eM]; exact gl hgl) ?_ hdb)
  have q := okR.then (gc_ok hs q)
  have p := q H ρ (Fr.refl _ _) hs
  refine PySem.W.callWith_KW0 (h₀ := X.base) J.ok.mod.kin (by rw [ok.eK]; exact F.kp) (hall X.env) ?_ (hpl X.env)
  rw [hks X.env]
  refine thn ((hk G T Wx X hG ok).run pos pins s σ H (fun zs H2 => ∃ ρ2 S2 es', Fr H ρ H2 ρ2 ∧ StOk G H2 ρ2 S2 ∧ RepL G H2 ρ2 es' zs ∧ 0 = k.np ∧ es'.length = k.ks.length ∧ okR G H2 ρ2 Wx σ (fun w _ H' ρ' => ∀ v, RepW G H' ρ' w v → Fresh H w v → Q v H') (T k.f (permL k.perm ([] ++ es')) S2)) J
    ⟨ρ, δ, S, hn, hs, (okR.then p).mono fun es' S2 H2 ρ2 f2 st2 p2 zs rz => ?_⟩) fun ws s2 ⟨zs, H2, J2, rw2, ρ2, S2, es', f2, st2, rz, h1, h2, q2⟩ => ⟨J2.kIn, ?_⟩
  · split at p2
    · rename_i hh
      exact ⟨ρ2, S2, es', f2, st2, rz, hh.1, hh.2, p2⟩
    · exact p2.elim
  · exact run_kw hG ok hj hi J2 .nil rw2 f2 st2 .nil rz h1 h2 q2
end
end MM
set_option maxRecDepth 100000
set_option maxHeartbeats 2000000
/-! MM, part O: what the top gives. -/
namespace MM
open PySem PySem.Spec L2
def AllI {α : Type} (P : Nat → α → Prop) : Nat → List α → Prop
  | _, [] => True
  | k, x :: xs => P k x ∧ AllI P (k + 1) xs
theorem all_at {α : Type} {P : Nat → α → Prop} : ∀ {xs : List α} {k : Nat}, AllI P k xs → ∀ (i : Nat) d, xs[i]? = some d → P (k + i) d
  | [], _, _, i, d, e => by simp at e
  | x :: xs, k, h, 0, d, e => by
    simp at e; subst e
    exact h.1
  | x :: xs, k, h, i + 1, d, e => by
    have := all_at (k := k + 1) h.2 i d (by simpa using e)
    rw [show k + (i + 1) = k + 1 + i by omega]
    exact this
theorem all_get {α : Type} {P : Nat → α → Prop} {xs : List α} (h : AllI P 0 xs) (i : Nat) (d : α) (e : xs[i]? = some d) : P i d := by
  have := all_at h i d e
  rwa [Nat.zero_add] at this
theorem all_two {α : Type} {P : Nat → Nat → α → α → Prop} {xs : List α} (h : AllI (fun i d => AllI (fun j d' => P i j d d') 0 xs) 0 xs) (i j : Nat) (d d' : α) (e : xs[i]? = some d) (e' : xs[j]? = some d') : P i j d d' :=
  all_get (all_get h i d e) j d' e'
theorem all_mem {α : Type} {P : α → Prop} : ∀ {xs : List α}, AllI (fun _ x => P x) 0 xs → ∀ x ∈ xs, P x := fun {xs} h x m => by
  obtain ⟨i, hi, e⟩ := List.getElem_of_mem m
  exact all_get (P := fun _ x => P x) h i x (by rw [List.getElem?_eq_getElem hi, e])
theorem free_only {sc : Scope} (h : (sc.names.all fun p => p.2 != .free || p.1 == "__class__") = true) : ∀ x, sc.names.lookup x = some .free → x = "__class__" := fun x e => by
  have := List.all_eq_true.mp h (x, .free) (PySem.mem_of_lookup e)
  simpa using this
/-! ### constants -/
def mapD (f : Value → Option D) : List Value → Option (List D)
  | [] => some []
  | v :: vs => match f v, mapD f vs with
    | some d, some ds => some (d :: ds)
    | _, _ => none
def readD (K : PySem.W.Frag) : Nat → Value → Option D
  | _, .none => some .non
  | _, .bool b => some (.bl b)
  | _, .int i _ => some (.int i)
  | _, .str s _ => some (.str s)
  | n + 1, .ref a => match K.lookup a with
    | some ⟨.type T, dd, .seq its _, _⟩ => if T = "tuple" ∧ its.size ≤ sizeLine then (mapD (readD K n) its.toList).map .tup else none
    | _ => none
  | _, _ => none
theorem mapD_ok {K : PySem.W.Frag} {f : Value → Option D} (hf : ∀ u d, f u = some d → ∃ v, RelV v u ∧ ∀ (G : Gc) H ρ, G.K = K → Rep G H ρ d v) : ∀ {us : List Value} {ds : List D}, mapD f us = some ds → ∃ vs, Vals vs us ∧ ∀ (G : Gc) H ρ, G.K = K → RepL G H ρ ds vs
  | [], ds, e => by cases e; exact ⟨[], .nil, fun _ _ _ _ => .nil⟩
  | u :: us, ds, e => by
    unfold mapD at e
    cases h1 : f u with
    | none => rw [h1] at e; cases e
    | some d =>
      cases h2 : mapD f us with
      | none => rw [h1, h2] at e; cases e
      | some ds' =>
        rw [h1, h2] at e
        cases e
        obtain ⟨v, r, q⟩ := hf u d h1
        obtain ⟨vs, rs, qs⟩ := mapD_ok hf h2
        exact ⟨v :: vs, .cons r rs, fun G H ρ hG => .cons (q G H ρ hG) (qs G H ρ hG)⟩
theorem readD_ok {K : PySem.W.Frag} : ∀ (n : Nat) (u : Value) (d : D), readD K n u = some d → ∃ v, RelV v u ∧ ∀ (G : Gc) H ρ, G.K = K → Rep G H ρ d v := by
  have flat : ∀ (n : Nat) (u : Value) (d : D), (∀ a, u ≠ .ref a) → readD K n u = some d → ∃ v, RelV v u ∧ ∀ (G : Gc) H ρ, G.K = K → Rep G H ρ d v := fun n u d hr e => by
    cases u <;> first
      | (exact absurd rfl (hr _))
      | skip
    all_goals unfold readD at e
    all_goals first
      | (cases e; done)
      | (cases e; exact ⟨.non, rfl, fun _ _ _ _ => .non⟩)
      | (cases e; exact ⟨.bl _, rfl, fun _ _ _ _ => .bl _⟩)
      | (cases e; exact ⟨.int _, ⟨_, rfl⟩, fun _ _ _ _ => .int _⟩)
      | (cases e; exact ⟨.str _, ⟨_, rfl⟩, fun _ _ _ _ => .str _⟩)
  intro n
  induction n with
  | zero =>
    intro u d e
    refine flat 0 u d (fun a q => ?_) e
    subst q
    unfold readD at e
    cases e
  | succ n ih =>
    intro u d e
    by_cases hr : ∃ a, u = .ref a
    · obtain ⟨a, rfl⟩ := hr
      unfold readD at e
      split at e
      · rename_i T dd its m sl ho
        split at e
        · rename_i hT
          obtain ⟨rfl, hz⟩ := hT
          obtain ⟨ds, h1, h2⟩ := Option.map_eq_some_iff.mp e
          subst h2
          obtain ⟨vs, r, q⟩ := mapD_ok ih h1
          refine ⟨.ref a, rfl, fun G H ρ hG => .tup (.inr ⟨_, its, m, by rw [hG]; exact ho, rfl, rfl, hz, r⟩) (q G H ρ hG)⟩
        · cases e
      · cases e
    · exact flat (n + 1) u d (fun a q => hr ⟨a, q⟩) e
theorem con_mk {G : Gc} {x : Str} {u : Value} {d : D} {n : Nat} (h : G.mg x = some u) (e : readD G.K n u = some d) : ∃ u v, G.mg x = some u ∧ RelV v u ∧ ∀ H ρ, Rep G H ρ d v := by
  obtain ⟨v, r, q⟩ := readD_ok n u d e
  exact ⟨u, v, h, r, fun H ρ => q G H ρ rfl⟩
/-! ### the law -/
def spLaw (K : PySem.W.Frag) : Sp := fun vs H Q _ => ∃ (a : Addr) (ns : List Int), vs = [.ref a] ∧ ns.length ≤ 63 ∧ Only H ∧ SqL K H a (ns.map V.int) ∧ ∀ H', Q (.bl true) H'
theorem rep_ints {G : Gc} {H : Hp} {ρ : List Addr} : ∀ ns : List Int, RepL G H ρ (ns.map .int) (ns.map .int)
  | [] => .nil
  | n :: ns => .cons (.int n) (rep_ints ns)
def Keeps (f : List D → Sto → R W) : Prop := ∀ ns : List Int, ns.length ≤ 63 → ∃ S, f [.scr (ns.map .int)] [] = .ok (.val (.bl true)) S
theorem law_sp {G : Gc} {f : List D → Sto → R W} (hl : Keeps f) (hP : G.tabs = [] := by rfl) : ∀ vs H Q E, spLaw G.K vs H Q E → spOf G f vs H Q E := fun vs H Q E ⟨a, ns, e, h63, ho, hs, q⟩ => by
  subst e
  obtain ⟨S, hS⟩ := hl ns h63
  refine ⟨[], [.scr (ns.map .int)], [], .cons (.scr ?_ (rep_ints ns)) .nil, ⟨rfl, List.nodup_nil, fun n o a e => by simp at e, fun p hp => by rw [hP] at hp; cases hp⟩, ?_⟩
  · rcases hs with (h | h) | h
    · rcases ho a with z | ⟨o, xs, z⟩ <;> rw [h] at z <;> cases z
    · exact .inl h
    · exact .inr h
  · rw [hS]
    intro H' ρ' _ _ v r _
    cases r
    exact q H'
theorem walk {l : PySem.W.OpenLaw} {q : Program} {loose : List Str} {XP : (Str → Option Value) → Heap → Prop} {YP : World → Heap → Prop} {d : DefRec} {K : Params → PySem.W.Frag} {k : Nat} (hn : l.most = some 63) (hdf : d.params.defaults = []) (hk : Room k callerA)
    (hY : ∀ (w : World) (h : Heap), YP w h → (K w.params).In h)
    (F : ∀ (w : World) (mg : Str → Option Value) (fa : Addr) (h : Heap), (K w.params).In h → h.Ns mainGlobals mg → mg d.name = some (.ref fa) →
      ∃ fd : FuncData, (∀ (s : Shared) (u : Value), BindsTo s fd ⟨[u], []⟩ [("script", u)]) ∧ ∀ base : Heap, (K w.params).In base → base.Ns mainGlobals mg → FnOk l.prog w (K w.params) mg base (L2.CX l.prog w) k fa fd ["script"] (spLaw (K w.params))) :
    PySem.W.WalkO q loose XP YP l.row.toRowW d [] (fun f vs => PySem.call f vs) :=
  L2.walk_of (n := 63) (k := k) (x := "script") (CX := fun w => L2.CX l.prog w) (sp := fun w => spLaw (K w.params)) hn (by decide) hdf hk hY F (fun _ H a ns hl ho hS => ⟨a, ns, rfl, hl, ho, hS, fun _ => rfl⟩) fun w H s e s' z => by
    obtain ⟨_, _, _, _, _, _, _, _, _, _, _, _, z⟩ := z
    exact z
end MM
set_option maxRecDepth 100000
set_option maxHeartbeats 2000000
/-! MM, part Q: more that is walked; ranges as values. -/
namespace MM
open PySem PySem.Spec L2
def spanC (lo c : Int) (n : Nat) : List D := (List.range n).map fun (i : Nat) => D.int (lo + (i : Int) * c)
def iRange3 (lo hi st : ME) : MI := fun T δ S => (lo T δ S).then fun a S1 => (hi T δ S1).then fun b S2 => (st T δ S2).then fun c S3 => match a, b, c with
  | .val (.int i), .val (.int j), .val (.int k) => if k ≠ 0 ∧ k.natAbs < 1073741824 ∧ Builtin.Range.small i j k = true then .ok (.items (spanC i k (Builtin.Range.rangeSize i j k).toNat)) S3 else .bad
  | _, _, _ => .bad
def eListR (t : Bool) (lo hi : ME) : ME := fun T δ S => (lo T δ S).then fun a S1 => (hi T δ S1).then fun b S2 => match a, b with
  | .val (.int i), .val (.int j) => if (small62 i && small62 j) = true ∧ (j - i).toNat ≤ 16777216 then (if t = true then .ok (.val (.tup (span i (j - i).toNat))) S2 else .ok (.tmp (.lst (span i (j - i).toNat))) S2) else .bad
  | _, _ => .bad
section
variable {cl : Bool} {I : Info} {N : List Str} {sc : Scope} {G : Gc} {T : FT} {Wx : WX} {H : Hp} {ρ : List Addr} {δ : MM.Env} {S : Sto} {σ : L2.St}
theorem src_rangeC {lo c : Int} {n : Nat} : SrcRep G H ρ (Itc lo c n) (.items (spanC lo c n)) := fun H' ρ' S' f st i => by
  have g : (spanC lo c n)[i]? = if i < n then some (.int (lo + (i : Int) * c)) else none := by
    unfold spanC
    rw [List.getElem?_map]
    by_cases h : i < n
    · rw [List.getElem?_range h, if_pos h]; rfl
    · rw [if_neg h, List.getElem?_eq_none (by simpa using h)]; rfl
  refine ⟨fun d e => ?_, fun e => ?_⟩
  · have e : (spanC lo c n)[i]? = some d := Option.some.inj e
    rw [g] at e
    split at e
    · rename_i h
      cases e
      refine ⟨h, fun x H'' y => ?_⟩
      obtain ⟨rfl, rfl⟩ := y
      exact ⟨Fr.refl _ _, st, .int _⟩
    · cases e
  · have e : (spanC lo c n)[i]? = none := Option.some.inj e
    rw [g] at e
    split at e
    · cases e
    · rename_i h
      exact Nat.le_of_not_lt h
theorem size_nn (i j k : Int) : 0 ≤ Builtin.Range.rangeSize i j k := by
  unfold Builtin.Range.rangeSize
  split
  · split
    · have := Int.ediv_nonneg (a := j - i - 1) (b := k) (by omega) (by omega); omega
    · omega
  · split
    · have := Int.ediv_nonneg (a := i - j - 1) (b := -k) (by omega) (by omega); omega
    · omega
theorem simi_range3 {tg a b c : Expr} {m n l : ME} {p pos} (j : Nat) (h : SimE cl I N sc a m) (h2 : SimE cl I N sc b n) (h3 : SimE cl I N sc c l) (hj : I.bins[j]? = some "range" := by rfl) (hg : glob sc "range" = true := by rfl)
    (hs : ∀ env, starEach [a, b, c] env = (false, eval a env) :: starEach [b, c] env := by intro _; rfl) (hs2 : ∀ env, starEach [b, c] env = (false, eval b env) :: starEach [c] env := by intro _; rfl) (hs3 : ∀ env, starEach [c] env = (false, eval c env) :: starEach [] env := by intro _; rfl) (hpl : ∀ env, (backTo pos (starEach [b, c] env)).any (·.1) = false := by intro _; rfl) :
    SimI cl I N sc tg (.Call (.Name "range" p) [a, b, c] [] pos) (iRange3 m n l) := fun G T Wx X hG ok => by
  refine (pi_range3 (ok.gl hg) (by rw [ok.eM]; exact hG.bin j _ hj) (pa_cons (h G T Wx X hG ok) (pa_cons (h2 G T Wx X hG ok) (pa_cons (h3 G T Wx X hG ok) pa_nil (hs3 X.env)) (hs2 X.env)) (hs X.env)) (hs X.env) (hpl X.env)).weak fun σ H R ⟨ρ, δ, S, he, hst, q⟩ => ?_
  refine ⟨ρ, δ, S, he, hst, (okR.then q).mono fun w S1 H1 ρ1 f1 st1 p v r fs => ?_⟩
  refine ⟨ρ1, δ, S1, he.fr f1, st1, (okR.then p).mono fun w2 S2 H2 ρ2 f2 st2 p2 v2 r2 fs2 => ?_⟩
  refine ⟨ρ2, δ, S2, he.fr (f1.trans f2), st2, (okR.then p2).mono fun w3 S3 H3 ρ3 f3 st3 p3 v3 r3 fs3 => ?_⟩
  split at p3
  · split at p3
    · rename_i hb
      cases r; cases r2; cases r3
      exact ⟨_, _, _, _, rfl, ⟨hb.1, hb.2.1, hb.2.2, (Int.toNat_of_nonneg (size_nn _ _ _)).symm⟩, p3 H3 ρ3 (Fr.refl _ _) st3 _ src_rangeC⟩
    · exact p3.elim
  · exact p3.elim
theorem rep_span {lo : Int} {n : Nat} : RepL G H ρ (span lo n) ((List.range n).map fun i => V.int (lo + (i : Nat))) := by
  unfold span
  induction List.range n with
  | nil => exact .nil
  | cons x xs ih => exact .cons (.int _) ih
/-- tuple(range(..)), list(range(..)) -/
theorem sim_tupR2 {a b : Expr} {m n : ME} {p p2 pos pos'} (jt jr : Nat) (h : SimE true I N sc a m) (h2 : SimE true I N sc b n) (hjt : I.bins[jt]? = some "tuple" := by rfl) (hjr : I.bins[jr]? = some "range" := by rfl) (hgt : glob sc "tuple" = true := by rfl) (hgr : glob sc "range" = true := by rfl)
    (hs : ∀ env, starEach [a, b] env = (false, eval a env) :: starEach [b] env := by intro _; rfl) (hs2 : ∀ env, starEach [b] env = (false, eval b env) :: starEach [] env := by intro _; rfl) (hpl : ∀ env, (backTo pos (starEach [b] env)).any (·.1) = false := by intro _; rfl)
    (hs3 : ∀ env, starEach [.Call (.Name "range" p2) [a, b] [] pos] env = (false, eval (.Call (.Name "range" p2) [a, b] [] pos) env) :: starEach [] env := by intro _; rfl) :
    SimE true I N sc (.Call (.Name "tuple" p) [.Call (.Name "range" p2) [a, b] [] pos] [] pos') (eListR true m n) := fun G T Wx X hG ok => by
  refine (pe_tupRg ok.calm (ok.gl hgt) (by rw [ok.eM]; exact hG.bin jt _ hjt) (prg_2 (ok.gl hgr) (by rw [ok.eM]; exact hG.bin jr _ hjr) (h G T Wx X hG ok) (h2 G T Wx X hG ok) (hs X.env) (hs2 X.env) (hpl X.env)) (hs3 X.env)).weak fun σ H Q ⟨ρ, δ, S, he, hst, q⟩ => ?_
  refine ⟨ρ, δ, S, he, hst, (okR.then q).mono fun w S1 H1 ρ1 f1 st1 p v r fs => ?_⟩
  refine ⟨ρ1, δ, S1, he.fr f1, st1, (okR.then p).mono fun w2 S2 H2 ρ2 f2 st2 p2 v2 r2 fs2 => ?_⟩
  split at p2
  · split at p2
    · rename_i hb
      rw [if_pos rfl] at p2
      cases r; cases r2
      have h1 := small62_of (Bool.and_eq_true_iff.mp hb.1).1
      have h2 := small62_of (Bool.and_eq_true_iff.mp hb.1).2
      exact ⟨_, _, rfl, rfl, ⟨h1.1, h1.2, h2.1, h2.2, Nat.le_trans hb.2 (by decide)⟩, fun a ha => p2 _ ρ2 (fr_new ha (st2.free ha)) (st2.new ha) _ (new_tup st2 rep_span ha) True.intro⟩
    · exact p2.elim
  · exact p2.elim
theorem sim_listR2 {a b : Expr} {m n : ME} {p p2 pos pos'} (jt jr : Nat) (h : SimE true I N sc a m) (h2 : SimE true I N sc b n) (hjt : I.bins[jt]? = some "list" := by rfl) (hjr : I.bins[jr]? = some "range" := by rfl) (hgt : glob sc "list" = true := by rfl) (hgr : glob sc "range" = true := by rfl)
    (hs : ∀ env, starEach [a, b] env = (false, eval a env) :: starEach [b] env := by intro _; rfl) (hs2 : ∀ env, starEach [b] env = (false, eval b env) :: starEach [] env := by intro _; rfl) (hpl : ∀ env, (backTo pos (starEach [b] env)).any (·.1) = false := by intro _; rfl)
    (hs3 : ∀ env, starEach [.Call (.Name "range" p2) [a, b] [] pos] env = (false, eval (.Call (.Name "range" p2) [a, b] [] pos) env) :: starEach [] env := by intro _; rfl) :
    SimE true I N sc (.Call (.Name "list" p) [.Call (.Name "range" p2) [a, b] [] pos] [] pos') (eListR false m n) := fun G T Wx X hG ok => by
  refine (pe_listRg ok.calm (ok.gl hgt) (by rw [ok.eM]; exact hG.bin jt _ hjt) (prg_2 (ok.gl hgr) (by rw [ok.eM]; exact hG.bin jr _ hjr) (h G T Wx X hG ok) (h2 G T Wx X hG ok) (hs X.env) (hs2 X.env) (hpl X.env)) (hs3 X.env)).weak fun σ H Q ⟨ρ, δ, S, he, hst, q⟩ => ?_
  refine ⟨ρ, δ, S, he, hst, (okR.then q).mono fun w S1 H1 ρ1 f1 st1 p v r fs => ?_⟩
  refine ⟨ρ1, δ, S1, he.fr f1, st1, (okR.then p).mono fun w2 S2 H2 ρ2 f2 st2 p2 v2 r2 fs2 => ?_⟩
  split at p2
  · split at p2
    · rename_i hb
      rw [if_neg Bool.false_ne_true] at p2
      cases r; cases r2
      have h1 := small62_of (Bool.and_eq_true_iff.mp hb.1).1
      have h2 := small62_of (Bool.and_eq_true_iff.mp hb.1).2
      exact ⟨_, _, rfl, rfl, ⟨h1.1, h1.2, h2.1, h2.2, Nat.le_trans hb.2 (by decide)⟩, fun a ha => p2 _ ρ2 (fr_new ha (st2.free ha)) (st2.new ha) _ (new_lst st2 rep_span ha) fun z e => by cases e; exact (f1.trans f2).noneAt st2 ha⟩
    · exact p2.elim
  · exact p2.elim
theorem sim_tupR1 {b : Expr} {n : ME} {p p2 pos pos'} (jt jr : Nat) (h2 : SimE true I N sc b n) (hjt : I.bins[jt]? = some "tuple" := by rfl) (hjr : I.bins[jr]? = some "range" := by rfl) (hgt : glob sc "tuple" = true := by rfl) (hgr : glob sc "range" = true := by rfl)
    (hs2 : ∀ env, starEach [b] env = (false, eval b env) :: starEach [] env := by intro _; rfl)
    (hs3 : ∀ env, starEach [.Call (.Name "range" p2) [b] [] pos] env = (false, eval (.Call (.Name "range" p2) [b] [] pos) env) :: starEach [] env := by intro _; rfl) :
    SimE true I N sc (.Call (.Name "tuple" p) [.Call (.Name "range" p2) [b] [] pos] [] pos') (eListR true (eC (.int 0)) n) := fun G T Wx X hG ok => by
  refine (pe_tupRg ok.calm (ok.gl hgt) (by rw [ok.eM]; exact hG.bin jt _ hjt) (prg_1 (ok.gl hgr) (by rw [ok.eM]; exact hG.bin jr _ hjr) (h2 G T Wx X hG ok) (hs2 X.env)) (hs3 X.env)).weak fun σ H Q ⟨ρ, δ, S, he, hst, q⟩ => ?_
  change okR G H ρ Wx σ _ ((n T δ S).then _) at q
  refine ⟨ρ, δ, S, he, hst, (okR.then q).mono fun w2 S2 H2 ρ2 f2 st2 p2 v2 r2 fs2 => ?_⟩
  cases w2 with
  | tmp o => exact p2.elim
  | val d =>
    cases d <;> first | exact p2.elim | skip
    rename_i j
    change okR G H2 ρ2 Wx σ _ (if (small62 0 && small62 j) = true ∧ (j - 0).toNat ≤ 16777216 then _ else _) at p2
    split at p2
    · rename_i hb
      rw [if_pos rfl] at p2
      cases r2
      have h1 := small62_of (Bool.and_eq_true_iff.mp hb.1).1
      have h2 := small62_of (Bool.and_eq_true_iff.mp hb.1).2
      exact ⟨_, rfl, ⟨h1.1, h1.2, h2.1, h2.2, Nat.le_trans hb.2 (by decide)⟩, fun a ha => p2 _ ρ2 (fr_new ha (st2.free ha)) (st2.new ha) _ (new_tup st2 rep_span ha) True.intro⟩
    · exact p2.elim
theorem sim_listR1 {b : Expr} {n : ME} {p p2 pos pos'} (jt jr : Nat) (h2 : SimE true I N sc b n) (hjt : I.bins[jt]? = some "list" := by rfl) (hjr : I.bins[jr]? = some "range" := by rfl) (hgt : glob sc "list" = true := by rfl) (hgr : glob sc "range" = true := by rfl)
    (hs2 : ∀ env, starEach [b] env = (false, eval b env) :: starEach [] env := by intro _; rfl)
    (hs3 : ∀ env, starEach [.Call (.Name "range" p2) [b] [] pos] env = (false, eval (.Call (.Name "range" p2) [b] [] pos) env) :: starEach [] env := by intro _; rfl) :
    SimE true I N sc (.Call (.Name "list" p) [.Call (.Name "range" p2) [b] [] pos] [] pos') (eListR false (eC (.int 0)) n) := fun G T Wx X hG ok => by
  refine (pe_listRg ok.calm (ok.gl hgt) (by rw [ok.eM]; exact hG.bin jt _ hjt) (prg_1 (ok.gl hgr) (by rw [ok.eM]; exact hG.bin jr _ hjr) (h2 G T Wx X hG ok) (hs2 X.env)) (hs3 X.env)).weak fun σ H Q ⟨ρ, δ, S, he, hst, q⟩ => ?_
  change okR G H ρ Wx σ _ ((n T δ S).then _) at q
  refine ⟨ρ, δ, S, he, hst, (okR.then q).mono fun w2 S2 H2 ρ2 f2 st2 p2 v2 r2 fs2 => ?_⟩
  cases w2 with
  | tmp o => exact p2.elim
  | val d =>
    cases d <;> first | exact p2.elim | skip
    rename_i j
    change okR G H2 ρ2 Wx σ _ (if (small62 0 && small62 j) = true ∧ (j - 0).toNat ≤ 16777216 then _ else _) at p2
    split at p2
    · rename_i hb
      rw [if_neg Bool.false_ne_true] at p2
      cases r2
      have h1 := small62_of (Bool.and_eq_true_iff.mp hb.1).1
      have h2 := small62_of (Bool.and_eq_true_iff.mp hb.1).2
      exact ⟨_, rfl, ⟨h1.1, h1.2, h2.1, h2.2, Nat.le_trans hb.2 (by decide)⟩, fun a ha => p2 _ ρ2 (fr_new ha (st2.free ha)) (st2.new ha) _ (new_lst st2 rep_span ha) fun z e => by cases e; exact f2.noneAt st2 ha⟩
    · exact p2.elim
end
end MM
set_option maxRecDepth 100000
set_option maxHeartbeats 2000000
/-! MM, part R: dict displays. -/
namespace MM
open PySem PySem.Spec L2
abbrev MP := FT → Env → Sto → R (List (D × D))
def pNil : MP := fun _ _ S => .ok [] S
def pCons (k v : ME) (r : MP) : MP := fun T δ S => (bnd k T δ S).then fun x S1 => (bnd v T δ S1).then fun y S2 => (r T δ S2).then fun ps S3 => .ok ((x, y) :: ps) S3
def keysOf : List (D × D) → Option (List (Key × D))
  | [] => some []
  | p :: r => match p.1.key, keysOf r with
    | some k, some l => some ((k, p.2) :: l)
    | _, _ => none
def mergeD : List (Key × D) → List (Key × D) → List (Key × D)
  | acc, [] => acc
  | acc, p :: r => mergeD (dput p.1 p.2 acc) r
def eDict (m : MP) : ME := fun T δ S => (m T δ S).then fun ps S1 => match keysOf ps with
  | some kvs => if kvs.length ≤ 15 then .ok (.tmp (.dct (mergeD [] kvs))) S1 else .bad
  | none => .bad
section
variable {cl : Bool} {I : Info} {N : List Str} {sc : Scope} {G : Gc} {T : FT} {Wx : WX} {H : Hp} {ρ : List Addr} {δ : MM.Env} {S : Sto} {σ : L2.St}
inductive RepP (G : Gc) (H : Hp) (ρ : List Addr) : List (D × D) → List (V × V) → Prop
  | nil : RepP G H ρ [] []
  | cons {a b : D} {u v : V} {ds : List (D × D)} {vs : List (V × V)} : Rep G H ρ a u → Rep G H ρ b v → RepP G H ρ ds vs → RepP G H ρ ((a, b) :: ds) ((u, v) :: vs)
theorem RepP.fr {H' : Hp} {ρ' : List Addr} {ds : List (D × D)} {vs : List (V × V)} (r : RepP G H ρ ds vs) (f : Fr H ρ H' ρ') : RepP G H' ρ' ds vs := by
  induction r with
  | nil => exact .nil
  | cons a b _ ih => exact .cons (a.fr f) (b.fr f) ih
def rdP (G : Gc) (T : FT) (Wx : WX) (m : MP) : L2.St → Hp → (List (V × V) → Hp → Prop) → Prop := fun σ H Q => ∃ ρ δ S, EnvRep G H ρ δ σ ∧ StOk G H ρ S ∧ okR G H ρ Wx σ (fun ds _ H' ρ' => ∀ ps, RepP G H' ρ' ds ps → Q ps H') (m T δ S)
def SimP (cl : Bool) (I : Info) (N : List Str) (sc : Scope) (ks : List (Option Expr)) (vs : List Expr) (m : MP) : Prop := ∀ G T Wx X, GOk I G → XOk0 cl I G T N sc Wx X → ∃ trs, (∀ pos, PPs X pos ks vs trs) ∧ ∀ σ H Q, rdP G T Wx m σ H Q → tPairs trs σ H Q
theorem simp_nil : SimP cl I N sc [] [] pNil := fun G T Wx X hG ok => ⟨[], fun _ => pps_nil, fun σ H Q ⟨ρ, δ, S, he, hs, q⟩ => q H ρ (Fr.refl _ _) hs [] .nil⟩
theorem simp_cons {k v : Expr} {ks : List (Option Expr)} {vs : List Expr} {mk mv : ME} {m : MP} (hk : SimE cl I N sc k mk) (hv : SimE cl I N sc v mv) (hr : SimP cl I N sc ks vs m) : SimP cl I N sc (some k :: ks) (v :: vs) (pCons mk mv m) := fun G T Wx X hG ok => by
  obtain ⟨trs, h1, h2⟩ := hr G T Wx X hG ok
  refine ⟨_ :: trs, fun pos => pps_cons (hk G T Wx X hG ok) (hv G T Wx X hG ok) (h1 pos), fun σ H Q ⟨ρ, δ, S, he, hs, q⟩ => ?_⟩
  refine ⟨ρ, δ, S, he, hs, (bnd_ok (okR.then q)).mono fun w S1 H1 ρ1 f1 st1 p x r fs => ?_⟩
  obtain ⟨d, S2, ρ2, rd, st2, f2, p⟩ := p x r fs
  refine ⟨ρ2, δ, S2, he.fr f2, st2, (bnd_ok (okR.then p)).mono fun w3 S3 H3 ρ3 f3 st3 p3 y r3 fs3 => ?_⟩
  obtain ⟨d4, S4, ρ4, rd4, st4, f4, p4⟩ := p3 y r3 fs3
  refine h2 _ _ _ ⟨ρ4, δ, S4, he.fr (f2.trans f4), st4, (okR.then p4).mono fun ds S5 H5 ρ5 f5 st5 p5 ps r5 => ?_⟩
  exact p5 H5 ρ5 (Fr.refl _ _) st5 _ (.cons (rd.fr (f4.trans f5)) (rd4.fr f5) r5)
theorem keys_rep : ∀ {ds : List (D × D)} {vs : List (V × V)} {kvs : List (Key × D)}, RepP G H ρ ds vs → keysOf ds = some kvs → ∃ kvs' : List (Key × V), vs = kvs'.map (fun kv => (kV kv.1, kv.2)) ∧ RepK G H ρ kvs kvs'
  | _, _, _, .nil, e => by cases e; exact ⟨[], rfl, .nil⟩
  | _, _, kvs, .cons (a := a) (b := b) (u := u) (v := v) (ds := ds) (vs := vs) ra rb t, e => by
    unfold keysOf at e
    dsimp only at e
    cases h1 : a.key with
    | none => rw [h1] at e; cases e
    | some k =>
      cases h2 : keysOf ds with
      | none => rw [h1, h2] at e; cases e
      | some l =>
        rw [h1, h2] at e
        cases e
        obtain ⟨kvs', e1, r1⟩ := keys_rep t h2
        refine ⟨(k, v) :: kvs', ?_, .cons rb r1⟩
        rw [List.map_cons, ← e1]
        have := key_rep h1 ra
        rw [this]
theorem merge_rep : ∀ {kvs : List (Key × D)} {kvs' : List (Key × V)} {acc : List (Key × D)} {acc' : List (Key × V)}, RepK G H ρ kvs kvs' → RepK G H ρ acc acc' → RepK G H ρ (mergeD acc kvs) (mergeK acc' kvs')
  | _, _, _, _, .nil, r => r
  | _, _, acc, acc', .cons (k := k) (d := d) (ds := ds) (v := v) (vs := vs) q t, r => show RepK G H ρ (mergeD (dput k d acc) ds) (mergeK (putK acc' k v) vs) from merge_rep t (putK_rep r q)
theorem RepK.len : ∀ {ds : List (Key × D)} {vs : List (Key × V)}, RepK G H ρ ds vs → ds.length = vs.length
  | _, _, .nil => rfl
  | _, _, .cons _ t => by rw [List.length_cons, List.length_cons, RepK.len t]
theorem sim_dict {ks : List (Option Expr)} {vs : List Expr} {m : MP} {pos : Pos} (h : SimP cl I N sc ks vs m) (hall : ks.all (·.isSome) = true := by rfl) (hl : ks.length = vs.length := by rfl) (h0 : ks ≠ [] := by simp) (h15 : ks.length ≤ 15 := by decide) : SimE cl I N sc (.Dict ks vs pos) (eDict m) := fun G T Wx X hG ok => by
  obtain ⟨trs, h1, h2⟩ := h G T Wx X hG ok
  refine (pe_disp (h1 pos) hall hl h0 h15).weak fun σ H Q ⟨ρ, δ, S, he, hs, q⟩ => ?_
  intro p hp
  have f0 := fr_new (o := .dK []) hp (hs.free hp)
  have st0 := hs.new (o := .dK []) hp
  have np := hs.free hp
  refine h2 _ _ _ ⟨ρ, δ, S, he.fr f0, st0, (okR.later (okR.thenO q) f0).mono fun ds S1 H1 ρ1 f1 st1 p1 ps r => ?_⟩
  have e1 : H1 p = some (.dK []) := f1.out p _ upd_same np (by simp)
  refine ⟨e1, ?_⟩
  have np1 : p ∉ ρ1 := fun m => by
    have := f1.new p m np
    rw [upd_same] at this
    cases this
  split at p1
  · rename_i kvs hk
    split at p1
    · rename_i hz
      obtain ⟨kvs', e2, rk⟩ := keys_rep r hk
      refine ⟨kvs', e2, by rw [← rk.len]; exact hz, ?_⟩
      have hne : ∀ {a : Addr} {o : HO}, H a = some o → a ≠ p := fun h e => by rw [e, hp] at h; cases h
      have fr : Fr H ρ (upd H1 p (.dK (mergeK [] kvs'))) ρ1 := ⟨f1.pre, fun a xs h => by rw [upd_ne (hne h)]; exact f1.tup a xs (by rw [upd_ne (hne h)]; exact h), fun a o u h => by rw [upd_ne (hne h)]; exact f1.frz a o u (by rw [upd_ne (hne h)]; exact h),
        fun a o h n => by rw [upd_ne (hne h)]; exact f1.out0 a o (by rw [upd_ne (hne h)]; exact h) n, fun a m n => by
          have z := f1.new a m n
          have ne : a ≠ p := fun e => by rw [e, upd_same] at z; cases z
          rwa [upd_ne ne] at z⟩
      have sb : Sub H1 ρ1 (upd H1 p (.dK (mergeK [] kvs'))) ρ1 := ⟨fun _ _ h => h, fun a xs h => by rw [upd_ne (fun e => by rw [e, e1] at h; cases h)]; exact h, fun a o u h => by rw [upd_ne (fun e => by rw [e, e1] at h; cases h)]; exact h⟩
      have st2 := st1.sub sb (fun a m => upd_ne fun e => np1 (by rw [← e]; exact m)) fun q ps e => by rw [upd_ne (fun z => by rw [z, e1] at e; cases e)]; exact e
      refine p1 _ ρ1 fr st2 _ ⟨p, rfl, np1, _, upd_same, (merge_rep rk .nil).sub sb⟩ fun a e => ?_
      cases e
      exact hp
    · exact p1.elim
  · exact p1.elim
theorem sim_dict0 {pos : Pos} : SimE cl I N sc (.Dict [] [] pos) (eDict pNil) := fun G T Wx X hG ok => by
  refine pe_dnewK.weak fun σ H Q ⟨ρ, δ, S, he, hs, q⟩ => ?_
  intro p hp
  exact q _ ρ (fr_new (o := .dK []) hp (hs.free hp)) (hs.new (o := .dK []) hp) _ ⟨p, rfl, hs.free hp, _, upd_same, .nil⟩ fun a e => by cases e; exact hp
end
end MM
set_option maxRecDepth 100000
set_option maxHeartbeats 2000000
/-! MM, part S: for .. in enumerate(a list). -/
namespace MM
open PySem PySem.Spec L2
section
variable {cl : Bool} {I : Info} {N : List Str} {sc : Scope} {G : Gc} {T : FT} {Wx : WX} {H : Hp} {ρ : List Addr} {δ : MM.Env} {S : Sto} {σ : L2.St}
theorem enums_get : ∀ (ds : List D) (k : Int) (i : Nat), (enums k ds)[i]? = (ds[i]?).map fun d => .tup [.int (k + i), d]
  | [], k, i => by simp [enums]
  | d :: ds, k, 0 => by simp [enums]
  | d :: ds, k, i + 1 => by
    unfold enums
    rw [List.getElem?_cons_succ, List.getElem?_cons_succ, enums_get ds (k + 1) i]
    congr 1
    funext d
    congr 3
    omega
theorem enum_turn {a : Addr} {xs : List V} {ds : List D} {i : Nat} {d0 : D} (t : SqL G.K H a xs) (l : RepL G H ρ ds xs) (st : StOk G H ρ S) (e : ds[i]? = some d0) :
    (Ite G.K a).go i H ∧ ∀ x H'', (Ite G.K a).yld i H x H'' → Fr H ρ H'' ρ ∧ StOk G H'' ρ S ∧ Rep G H'' ρ (.tup [.int ((0 : Int) + (i : Int)), d0]) x := by
  obtain ⟨v, h1, h2⟩ := l.get e
  refine ⟨⟨xs, v, t, h1⟩, fun x H'' y => ?_⟩
  obtain ⟨p, x', rfl, hp, rfl, hx⟩ := y
  have e2 := hx xs t
  rw [h1] at e2
  cases e2
  rw [Int.zero_add]
  exact ⟨fr_new hp (st.free hp), st.new hp, new_tup st (.cons (.int _) (.cons h2 .nil)) hp⟩
theorem src_enum {a : Addr} {xs : List V} {ds : List D} (t : ∀ H' ρ', Fr H ρ H' ρ' → SqL G.K H' a xs) (l : RepL G H ρ ds xs) : SrcRep G H ρ (Ite G.K a) (.items (enums 0 ds)) := fun H' ρ' S' f st i => by
  refine ⟨fun d e => ?_, fun e => ⟨xs, t H' ρ' f, ?_⟩⟩
  · have e : (enums 0 ds)[i]? = some d := Option.some.inj e
    rw [enums_get] at e
    obtain ⟨d0, h1, h2⟩ := Option.map_eq_some_iff.mp e
    subst h2
    exact enum_turn (t H' ρ' f) (l.fr f) st h1
  · have e : (enums 0 ds)[i]? = none := Option.some.inj e
    rw [enums_get, Option.map_eq_none_iff] at e
    rw [← l.length]
    exact List.getElem?_eq_none_iff.mp e
theorem src_enumL {a : Addr} {n : Nat} (e : ρ[n]? = some a) : SrcRep G H ρ (Ite G.K a) (.live n (some 0)) := fun H' ρ' S' f st i => by
  have e' := f.pre _ _ e
  show (∀ d, liveAt n (some 0) i S' = some (some d) → _) ∧ (liveAt n (some 0) i S' = some none → _)
  unfold liveAt
  split
  · rename_i ds hd
    obtain ⟨xs, h1, l⟩ := st.obj _ _ _ hd e'
    refine ⟨fun d q => ?_, fun q => ⟨xs, SqL.of h1, ?_⟩⟩
    · obtain ⟨d0, h2, h3⟩ := Option.map_eq_some_iff.mp (Option.some.inj q)
      subst h3
      exact enum_turn (SqL.of h1) l st h2
    · have q := Option.map_eq_none_iff.mp (Option.some.inj q)
      rw [← l.length]
      exact List.getElem?_eq_none_iff.mp q
  · exact ⟨(fun _ q => by cases q), (fun q => by cases q)⟩
/-- lists alone -/
def iEnumL (e : ME) : MI := fun T δ S => (e T δ S).then fun x S1 => match x with
  | .tmp (.lst ds) => .ok (.items (enums 0 ds)) S1
  | .val (.frz ds) => .ok (.items (enums 0 ds)) S1
  | .val (.loc n) => match S1[n]? with
    | some (.lst _) => .ok (.live n (some 0)) S1
    | _ => .bad
  | _ => .bad
theorem simi_enum {e : Expr} {m : ME} {p pos tpos : Pos} {elts : List Expr} {kk : Nat} (j : Nat) (h : SimE cl I N sc e m) (hj : I.bins[j]? = some "enumerate" := by rfl) (hg : glob sc "enumerate" = true := by rfl) (hs : ∀ env, starEach [e] env = [(false, eval e env)] := by intro _; rfl) :
    SimI cl I N sc (.Tuple elts kk tpos) (.Call (.Name "enumerate" p) [e] [] pos) (iEnumL m) := fun G T Wx X hG ok => by
  refine (pi_enum (ok.gl hg) (by rw [ok.eM]; exact hG.bin j _ hj) (pa_cons (h G T Wx X hG ok) pa_nil (hs X.env)) (hs X.env)).weak fun σ H R ⟨ρ, δ, S, he, hst, q⟩ => ?_
  refine ⟨ρ, δ, S, he, hst, (okR.then q).mono fun w S1 H1 ρ1 f1 st1 p v r fs => ?_⟩
  rw [ok.eK]
  split at p
  · obtain ⟨a, rfl, n, xs, h1, l⟩ := r
    exact ⟨a, xs, rfl, SqL.of h1, p H1 ρ1 (Fr.refl _ _) st1 _ (src_enum (tmp_stays h1 n) l)⟩
  · cases r with
    | frz t l => exact ⟨_, _, rfl, t.sq, p H1 ρ1 (Fr.refl _ _) st1 _ (src_enum (fun H' ρ' f => (t.fr f.frz).sq) l)⟩
  · split at p
    · rename_i ds hd
      cases r with
      | loc er =>
        obtain ⟨xs, h1, l⟩ := st1.obj _ _ _ hd er
        exact ⟨_, xs, rfl, SqL.of h1, p H1 ρ1 (Fr.refl _ _) st1 _ (src_enumL er)⟩
    · exact p.elim
  · exact p.elim
end
end MM
set_option maxRecDepth 100000
set_option maxHeartbeats 2000000
/-! MM, part T: xs[::-1] of a list. -/
namespace MM
open PySem PySem.Spec L2
def eRev (a : ME) : ME := fun T δ S => (a T δ S).then fun x S1 => match x.lq S1 with
  | some ds => .ok (.tmp (.lst ds.reverse)) S1
  | none => .bad
section
variable {cl : Bool} {I : Info} {N : List Str} {sc : Scope} {G : Gc} {T : FT} {Wx : WX} {H : Hp} {ρ : List Addr} {δ : MM.Env} {S : Sto} {σ : L2.St}
theorem sim_revL {e : Expr} {m : ME} {k : Nat} {p1 p2 p3 pos : Pos} (h : SimE cl I N sc e m) : SimE cl I N sc (.Subscript e (.Slice none none (some (.UnaryOp .USub (.Constant (.int 1) k p1) p2)) p3) pos) (eRev m) := fun G T Wx X hG ok => by
  refine (pe_revL (h G T Wx X hG ok)).weak fun σ H Q ⟨ρ, δ, S, he, hs, q⟩ => ?_
  refine ⟨ρ, δ, S, he, hs, (okR.then q).mono fun w S1 H1 ρ1 f1 st1 p v r fs => ?_⟩
  split at p
  · rename_i ds hd
    obtain ⟨a, xs, rfl, hq, l⟩ := W.lq_rep hd st1 r
    rw [ok.eK]
    refine ⟨a, xs, rfl, hq, fun b hb => p _ ρ1 (fr_new hb (st1.free hb)) (st1.new hb) _ (new_lst st1 l.reverse hb) fun z e => ?_⟩
    cases e
    exact f1.noneAt st1 hb
  · exact p.elim
end
end MM
set_option maxRecDepth 100000
set_option maxHeartbeats 2000000
/-! MM, part U: d.get(k, z). -/
namespace MM
open PySem PySem.Spec L2
def eGet2 (o k f : ME) : ME := fun T δ S => (o T δ S).then fun x S1 => if (x.dq S1).isSome = true then (bnd k T δ S1).then fun y S2 => (f T δ S2).then fun z S3 => match x.dq S3, y.key with
  | some kvs, some q => match look q kvs with
    | some d => .ok (.val d) S3
    | none => .ok z S3
  | _, _ => .bad
  else .bad
section
variable {cl : Bool} {I : Info} {N : List Str} {sc : Scope} {G : Gc} {T : FT} {Wx : WX} {H : Hp} {ρ : List Addr} {δ : MM.Env} {S : Sto} {σ : L2.St}
theorem look_none {k : Key} : ∀ {kvs : List (Key × D)}, look k kvs = none → (kvs.any fun p => decide (p.1 = k)) = false
  | [], _ => rfl
  | p :: r, h => by
    unfold look at h
    split at h
    · cases h
    · rename_i ne
      rw [List.any_cons, look_none h, decide_eq_false ne]
      rfl
theorem sim_get2 {o e f : Expr} {mo me mf : ME} {apos cpos : Pos} (ho : SimE cl I N sc o mo) (he : SimE cl I N sc e me) (hf : SimE cl I N sc f mf) (hm : ∀ X, M2 X o "get" apos e f cpos := by exact fun _ => ⟨rfl, rfl, rfl, rfl⟩) :
    SimE cl I N sc (.Call (.Attribute o "get" apos) [e, f] [] cpos) (eGet2 mo me mf) := fun G T Wx X hG ok => by
  refine (pe_dget2 (by have := ok.units; omega) (ho G T Wx X hG ok) (he G T Wx X hG ok) (hf G T Wx X hG ok) (hm X)).weak fun σ H Q ⟨ρ, δ, S, hn, hs, q⟩ => ?_
  refine ⟨ρ, δ, S, hn, hs, (okR.then q).mono fun w S1 H1 ρ1 f1 st1 p v r fs => ?_⟩
  split at p
  · rename_i hd
    obtain ⟨kv0, hd0⟩ := Option.isSome_iff_exists.mp hd
    obtain ⟨a, xs, rfl, h1, l⟩ := W.dq_rep hd0 st1 r
    refine ⟨a, rfl, .inl ⟨_, h1⟩, ρ1, δ, S1, hn.fr f1, st1, (bnd_ok (okR.then p)).mono fun w2 S2 H2 ρ2 f2 st2 p2 y r2 fs2 => ?_⟩
    obtain ⟨d2, S2', ρ2', rd2, st2', f2', p2⟩ := p2 y r2 fs2
    refine ⟨ρ2', δ, S2', hn.fr (f1.trans f2'), st2', (okR.then p2).mono fun w3 S3 H3 ρ3 f3 st3 p3 z r3 fs3 => ?_⟩
    split at p3
    · rename_i kvs k hk hq
      obtain ⟨b, ys, e1, h3, l3⟩ := W.dq_rep hk st3 (r.fr (f2'.trans f3))
      cases e1
      have ek := key_rep hq (rd2.fr f3)
      subst ek
      refine ⟨_, .inl ⟨_, _, h3, rfl, rfl⟩, ?_⟩
      have hno : look k kvs = none → valV ys k = none := fun h => by
        have := hasK_rep (k := k) l3
        cases e : valV ys k with
        | none => rfl
        | some v =>
          rw [e] at this
          exact absurd (look_none h) (by rw [← this]; simp)
      split at p3
      · rename_i d hl
        obtain ⟨v, e2, rv⟩ := look_rep l3 hl
        rw [e2]
        exact p3 H3 ρ3 (Fr.refl _ _) st3 v rv True.intro
      · rename_i hl
        rw [hno hl]
        exact p3 H3 ρ3 (Fr.refl _ _) st3 z r3 (Fresh.back (f1.trans f2') st2' fs3)
    · exact p3.elim
  · exact p.elim
end
end MM
set_option maxRecDepth 100000
set_option maxHeartbeats 2000000
/-! MM, part V: xs[a:b:c] of a list. -/
namespace MM
open PySem PySem.Spec L2 PyProof.Rows
def idxS (lo hi : Option Int) (c : Int) (n : Nat) : List Nat := sliceRange (sliceBounds lo hi (some c) n).1 (sliceBounds lo hi (some c) n).2.1 (sliceBounds lo hi (some c) n).2.2
theorem pick_permL (items : Array Value) (lo hi : Option Int) (c : Int) : (slicePick items lo hi (some c)).toList = permL (idxS lo hi c items.size) items.toList := by
  unfold slicePick permL idxS
  simp
section
variable {X : Cx} {lo hi st : Option Expr} {e : Expr} {te : TE} {tl th ts : TO} {p2 pos : Pos}
def tSl3 (K : PySem.W.Frag) (te : TE) (tl th ts : TO) : TE := fun σ H Q => te σ H fun x H1 => tl σ H1 fun l H2 => th σ H2 fun u H3 => ts σ H3 fun o H4 => ∃ c a xs, o = some c ∧ c ≠ 0 ∧ x = .ref a ∧ SqL K H4 a xs ∧ (permL (idxS l u c xs.length) xs).length ≤ sizeLine ∧ ∀ p, H4 p = none → Q (.ref p) (upd H4 p (.lst (permL (idxS l u c xs.length) xs)))
theorem pe_slice3 {sx : Expr} (he : PE X e te) (hl : PO X lo tl) (hu : PO X hi th) (hs : PO X (some sx) ts) : PE X (.Subscript e (.Slice lo hi (some sx) p2) pos) (tSl3 X.K te tl th ts) := by
  refine ⟨fun pins s σ H Q I h => ?_⟩
  refine Subscript_ (thn (he.run pins s σ H _ I h) fun v s1 ⟨x, H1, I1, r1, q1⟩ => ?_)
  refine wpAny_Slice (thn (hl.run pins s1 σ H1 _ I1 q1) fun vl s2 ⟨l, H2, I2, pl, q2⟩ => thn (hu.run pins s2 σ H2 _ I2 q2) fun vu s3 ⟨u, H3, I3, pu, q3⟩ => thn (hs.run pins s3 σ H3 _ I3 q3) fun vs s4 ⟨o, H4, I4, ps, q4⟩ => ?_)
  obtain ⟨c, a, xs, rfl, hc, rfl, hx, hn, q⟩ := q4
  cases r1
  have I5 : Inv X pins σ H4 { s4 with heap := s4.heap.push { cls := .type "slice", data := .fields #[vl, vu, vs] } } := I4.kept (t' := s4.toks) fun b ob q => Heap.get?_push_of_some _ q
  obtain ⟨its, r, ht, hz⟩ := I5.list hx
  have hlen : its.toArray.size = xs.length := by rw [List.size_toArray]; exact r.length.symm
  show wpAny (model X.prog X.w) X.A (subscriptTail e (.Slice lo hi (some sx) p2) (.ref a) (.ref s4.heap.objs.size)) (EP X pins σ Q) X.xe { s4 with heap := s4.heap.push { cls := .type "slice", data := .fields #[vl, vu, vs] } }
  refine tail_any (ops := [.ref a, .ref s4.heap.objs.size]) ht.isList.typeIs (PySem.slot_list_getitem.lookup) ?_ (by with_unfolding_all rfl)
  refine wpAny_getItem_list_slice ht.isList (Heap.IsSliceOf.new _ vl vu vs) pl pu ps (by simpa using hc) ?_ (by rw [hlen]; exact hz)
  have rp := permL_vals r (idxS l u c xs.length)
  have e1 : slicePick its.toArray l u (some c) = (permL (idxS l u c xs.length) its).toArray := by
    have := pick_permL its.toArray l u c
    rw [hlen] at this
    rw [← this]
  rw [e1]
  refine ⟨.ref _, _, I5.laid (t' := s4.toks) (o := .lst (permL (idxS l u c xs.length) xs)) (fun b ob q => Heap.get?_push_of_some _ q) (Nat.le_refl _) ?_, rfl, q _ (I5.hok.fresh (Nat.le_refl _))⟩
  exact ⟨hn, _, 0, rp, Heap.get?_push_size _ rfl⟩
end
def partM (m : Option ME) (T : FT) (δ : MM.Env) (S : Sto) : R (Option Int) := match m with
  | none => R.ok none S
  | some e => (e T δ S).then fun i S2 => match i with
    | .val (.int i) => .ok (some i) S2
    | _ => .bad
/-- xs[a:b:c], xs a list -/
def eSlC (a : ME) (lo hi : Option ME) (st : ME) : ME := fun T δ S => (a T δ S).then fun x S1 => (partM lo T δ S1).then fun l S2 => (partM hi T δ S2).then fun h S3 => (partM (some st) T δ S3).then fun o S4 => match o, x.lq S4 with
  | some c, some ds => if c ≠ 0 ∧ (permL (idxS l h c ds.length) ds).length ≤ sizeLine then .ok (.tmp (.lst (permL (idxS l h c ds.length) ds))) S4 else .bad
  | _, _ => .bad
section
variable {cl : Bool} {I : Info} {N : List Str} {sc : Scope} {G : Gc} {T : FT} {Wx : WX} {H : Hp} {ρ : List Addr} {δ : MM.Env} {S : Sto} {σ : L2.St}
theorem sim_slC {a sx : Expr} {lo hi : Option Expr} {ma ms : ME} {ml mh : Option ME} {pos p2} (ha : SimE cl I N sc a ma) (hl : SimO cl I N sc lo ml) (hh : SimO cl I N sc hi mh) (hs : SimE cl I N sc sx ms) : SimE cl I N sc (.Subscript a (.Slice lo hi (some sx) p2) pos) (eSlC ma ml mh ms) := fun G T Wx X hG ok => by
  refine (pe_slice3 (ha G T Wx X hG ok) (hl G T Wx X hG ok) (hh G T Wx X hG ok) (simo_some hs G T Wx X hG ok)).weak fun σ H Q ⟨ρ, δ, S, he, hst, q⟩ => ?_
  refine ⟨ρ, δ, S, he, hst, (okR.then q).mono fun w S1 H1 ρ1 f1 st1 p v r fs => ?_⟩
  refine ⟨ρ1, δ, S1, he.fr f1, st1, (okR.then p).mono fun l S2 H2 ρ2 f2 st2 p2 => ?_⟩
  refine ⟨ρ2, δ, S2, he.fr (f1.trans f2), st2, (okR.then p2).mono fun h S3 H3 ρ3 f3 st3 p3 => ?_⟩
  refine ⟨ρ3, δ, S3, he.fr (f1.trans (f2.trans f3)), st3, (okR.then p3).mono fun o S4 H4 ρ4 f4 st4 p4 => ?_⟩
  split at p4
  · rename_i c ds hd
    split at p4
    · rename_i hc
      obtain ⟨b, xs, rfl, hq, lr⟩ := W.lq_rep hd st4 (r.fr (f2.trans (f3.trans f4)))
      have el : ds.length = xs.length := lr.length
      have rp := permL_rep lr (idxS l h c xs.length)
      rw [el] at hc p4
      rw [ok.eK]
      refine ⟨c, b, xs, rfl, hc.1, rfl, hq, by rw [← rp.length]; exact hc.2, fun p hp => p4 _ ρ4 (fr_new hp (st4.free hp)) (st4.new hp) _ (new_lst st4 rp hp) fun z e => ?_⟩
      cases e
      exact (f1.trans (f2.trans (f3.trans f4))).noneAt st4 hp
    · exact p4.elim
  · exact p4.elim
end
end MM
set_option maxRecDepth 100000
set_option maxHeartbeats 2000000
/-! MM, part W: new lists and dicts that are never changed are frozen. -/
namespace MM
open PySem PySem.Spec L2
section
variable {X : Cx}
/-- an expression's value may be frozen when it has come -/
def tFrzE (t : TE) : TE := fun σ H Q => t σ H fun v H1 => Q v H1 ∨ ∃ a u, H1 a = some u ∧ Mut (some u) ∧ ∀ od, Q v (upd H1 a (.frz od u))
theorem pe_frz {e : Expr} {t : TE} (h : PE X e t) : PE X e (tFrzE t) := by
  refine ⟨fun pins s σ H Q I hw => thn (h.run pins s σ H _ I hw) fun v s1 ⟨x, H1, I1, r, q⟩ => ?_⟩
  rcases q with q | ⟨a, u, hu, mu, q⟩
  · exact ⟨x, H1, I1, r, q⟩
  · obtain ⟨od, I2⟩ := Inv.lock I1 hu mu
    exact ⟨x, _, I2, r, q od⟩
def tFrzS (t : TS) : TS := fun D σ H => t { D with nx := fun σ' H' => D.nx σ' H' ∨ ∃ a u, H' a = some u ∧ Mut (some u) ∧ ∀ od, D.nx σ' (upd H' a (.frz od u)) } σ H
theorem ps_frz {st : Stmt} {t : TS} (h : PS X st t) : PS X st (tFrzS t) := by
  refine ⟨fun pins s σ H D I hw => thn (h.run pins s σ H _ I hw) fun f s1 q => ?_⟩
  cases f with
  | next =>
    obtain ⟨σ', H', I2, q⟩ := q
    rcases q with q | ⟨a, u, hu, mu, q⟩
    · exact ⟨σ', H', I2, q⟩
    · obtain ⟨od, I3⟩ := Inv.lock I2 hu mu
      exact ⟨σ', _, I3, q od⟩
  | brk => exact q
  | cont => exact q
  | ret v => exact q
end
section
variable {cl : Bool} {I : Info} {N : List Str} {sc : Scope} {G : Gc} {T : FT} {Wx : WX} {H : Hp} {ρ : List Addr} {δ : MM.Env} {S : Sto} {σ : L2.St}
theorem fr_frz {a : Addr} {u : HO} {od : Obj} {H0 : Hp} {ρ0 : List Addr} (f : Fr H0 ρ0 H ρ) (h0 : H0 a = none) (n : a ∉ ρ) (h : H a = some u) (mu : Mut (some u)) : Fr H0 ρ0 (upd H a (.frz od u)) ρ where
  pre := f.pre
  tup := fun b xs e => by rw [upd_ne (fun z => by rw [z, h0] at e; cases e)]; exact f.tup b xs e
  frz := fun b o w e => by rw [upd_ne (fun z => by rw [z, h0] at e; cases e)]; exact f.frz b o w e
  out0 := fun b o e nb => by rw [upd_ne (fun z => by rw [z, h0] at e; cases e)]; exact f.out0 b o e nb
  new := f.new
theorem sub_frz {a : Addr} {u : HO} {od : Obj} (h : H a = some u) (mu : Mut (some u)) : Sub H ρ (upd H a (.frz od u)) ρ :=
  ⟨fun _ _ e => e, fun b xs e => by rw [upd_ne (fun z => by rw [z, h] at e; cases e; exact mu)]; exact e, fun b o w e => by rw [upd_ne (fun z => by rw [z, h] at e; cases e; exact mu)]; exact e⟩
/-- a new object frozen -/
theorem frz_ok {H0 : Hp} {ρ0 : List Addr} {w : W} {v : V} {Q : Hp → Prop} (st : StOk G H ρ S) (f : Fr H0 ρ0 H ρ) (r : RepW G H ρ w v) (fs : Fresh H0 w v)
    (q : ∀ H', Fr H0 ρ0 H' ρ → StOk G H' ρ S → RepW G H' ρ (frzW w) v → Fresh H0 (frzW w) v → Q H') : Q H ∨ ∃ a u, H a = some u ∧ Mut (some u) ∧ ∀ od, Q (upd H a (.frz od u)) := by
  cases w with
  | val d => exact .inl (q H f st r True.intro)
  | tmp o =>
    obtain ⟨a, rfl, n, ob⟩ := r
    have h0 := fs a rfl
    cases o with
    | lst ds =>
      obtain ⟨xs, h, l⟩ := ob
      refine .inr ⟨a, _, h, True.intro, fun od => ?_⟩
      have sb : Sub H ρ (upd H a (.frz od (.lst xs))) ρ := sub_frz h True.intro
      exact q _ (fr_frz f h0 n h True.intro) (st.sub sb (fun b m => upd_ne fun z => n (z ▸ m)) fun q ps e => by rw [upd_ne (fun z => by rw [z, h] at e; cases e)]; exact e) (.frz ⟨od, upd_same⟩ (l.sub sb)) True.intro
    | dct kvs =>
      obtain ⟨xs, h, l⟩ := ob
      refine .inr ⟨a, _, h, True.intro, fun od => ?_⟩
      have sb : Sub H ρ (upd H a (.frz od (.dK xs))) ρ := sub_frz h True.intro
      have l2 := RepK.sub sb l
      have key : ∀ {kvs : List (Key × D)} {xs : List (Key × V)}, RepK G (upd H a (.frz od (.dK xs))) ρ kvs xs → True := fun _ => True.intro
      have sp : ∀ {H : Hp} {kvs : List (Key × D)} {xs : List (Key × V)}, RepK G H ρ kvs xs → xs = (kvs.map (·.1)).zip (xs.map (·.2)) ∧ RepL G H ρ (kvs.map (·.2)) (xs.map (·.2)) := fun {H kvs xs} l => by
        induction l with
        | nil => exact ⟨rfl, .nil⟩
        | cons r t ih =>
          refine ⟨?_, .cons r ih.2⟩
          rw [List.map_cons, List.map_cons, List.zip_cons_cons, ← ih.1]
      obtain ⟨e1, e2⟩ := sp l2
      refine q _ (fr_frz f h0 n h True.intro) (st.sub sb (fun b m => upd_ne fun z => n (z ▸ m)) fun q ps e => by rw [upd_ne (fun z => by rw [z, h] at e; cases e)]; exact e) (.fdc ⟨od, ?_⟩ (by rw [List.length_map, List.length_map]) e2) True.intro
      rw [← e1]
      exact upd_same
    | dtt kvs => exact .inl (q H f st ⟨a, rfl, n, ob⟩ fs)
    | ins c fs' => exact .inl (q H f st ⟨a, rfl, n, ob⟩ fs)
theorem sim_Z {e : Expr} {m : ME} (h : SimE cl I N sc e m) : SimE cl I N sc e (eZ m) := fun G T Wx X hG ok => by
  refine (pe_frz (h G T Wx X hG ok)).weak fun σ H Q ⟨ρ, δ, S, he, hs, q⟩ => ?_
  refine ⟨ρ, δ, S, he, hs, (okR.thenO q).mono fun w S1 H1 ρ1 f1 st1 p v r fs => ?_⟩
  exact frz_ok (Q := fun H' => Q v H') st1 f1 r fs fun H' f2 st2 r2 fs2 => p H' ρ1 f2 st2 v r2 fs2
/-- x = e, the new list frozen -/
theorem setZ_read {i : Nat} {m : ME} {D : Ends} (he : EnvRep G H ρ δ σ) (hs : StOk G H ρ S) (q : okF G H ρ Wx D (sAsg i (eZ m) T δ S)) :
    rdE G T Wx m σ H (fun x H1 => gName i x σ H1 fun σ' H' => D.nx σ' H' ∨ ∃ a u, H' a = some u ∧ Mut (some u) ∧ ∀ od, D.nx σ' (upd H' a (.frz od u))) := by
  have q1 := okF.thenO he q
  unfold bnd eZ at q1
  refine ⟨ρ, δ, S, he, hs, (okR.thenO (okR.thenO q1)).mono fun w S1 H1 ρ1 f1 st1 p v r fs => ?_⟩
  have fin : ∀ H' , Fr H ρ H' ρ1 → StOk G H' ρ1 S1 → RepW G H' ρ1 (frzW w) v → Fresh H (frzW w) v → D.nx (σ.set i (some v)) H' := fun H' f2 st2 r2 fs2 => by
    obtain ⟨ρ2, rd, st3, f3, _⟩ := bindW_ok f2 st2 r2 fs2
    have p2 := p H' ρ1 f2 st2 H' ρ2 f3 st3
    split at p2
    · exact p2 _ H' ρ2 f3 st3 ((he.fr f3).set rd)
    · exact p2.elim
  exact frz_ok (Q := fun H' => D.nx (σ.set i (some v)) H') st1 f1 r fs fin
theorem sims_setLcZ {x : Str} {elt tg iter : Expr} {ifs : List Expr} {scope : Scope} {own : List (Str × Nat)} {pos spos pos' : Pos} {mi : MI} {gD : Tg} {is : List Nat} {mt : MT} {me : ME} (i : Nat) (hi : SimI true I N sc tg iter mi) (hg : SimG0 true I N (relS scope sc) tg gD is)
    (ht : SimTs true I N (relS scope sc) ifs mt) (he : SimE true I N (relS scope sc) elt me) (hN : N[i]? = some x := by rfl) (hk : sc.names.lookup x = some .local := by rfl) (hf : sc.kind = .function := by rfl) (hl : (pos'.line == pos.line) = true := by rfl) (hl2 : spos.line = pos'.line := by rfl)
    (ha : (scope.names.any fun (n, k) => n == x && (k == .local || k == .cell)) = false := by decide +kernel)
    (hb : blkC N sc scope own = true := by decide +kernel) (his : (is.all fun i => (own.map (·.2)).contains i) = true := by decide +kernel) (hfo : ∀ env x, foldedSetIterable iter env x = pure x := by intro _ _; rfl) :
    SimS I N sc (.Assign [.Name x pos'] (.ListComp elt [⟨tg, iter, ifs, 0⟩] scope pos) spos) (sAsg i (eZ (eLc mi (own.map (·.2)) gD mt me))) := fun G T Wx X hG ok => by
  have hsub : ∀ i ∈ is, i ∈ own.map (·.2) := fun i hi => by simpa using List.all_eq_true.mp his i hi
  refine (ps_frz (ps_setLc (own := own) (i := i) ok.calm (by rw [ok.eN]; exact ok.nd) (by rw [ok.eN]; exact hN) (by rw [ok.eS]; exact hk) (sw_true (by rw [ok.eS]; exact hf) (by rw [ok.eS]; exact hk) (by first | exact hl | (rw [hl2]; exact hl)) ha) (hi G T Wx X hG ok.toXOk0) (by rw [ok.eN, ok.eS]; exact blkOk_by hb)
    (fun s H C cl fp => hg G T _ _ hG ok.toXOk0.blk) (fun s H C cl fp => ht G T _ _ hG ok.toXOk0.blk) (fun s H C cl fp => he G T _ _ hG ok.toXOk0.blk) (hfo X.env))).weak fun D σ H ⟨ρ, δ, S, he, hs, q⟩ => ?_
  exact lc_read hsub (setZ_read he hs q)
end
end MM
set_option maxRecDepth 100000
set_option maxHeartbeats 2000000
/-! MM, part X: xs[a:b:c] of lists and tuples. -/
namespace MM
open PySem PySem.Spec L2 PyProof.Rows
/-- which places of a tuple a slice with a step takes -/
def stepT {α : Type} (lo hi : Option Int) (c : Int) (ds : List α) : List α :=
  (List.range (Builtin.Slice.slicePlaces (Builtin.Slice.sliceAdjust lo hi c (ds.length : Int)).1 (Builtin.Slice.sliceAdjust lo hi c (ds.length : Int)).2 c)).filterMap fun (m : Nat) => ds[((Builtin.Slice.sliceAdjust lo hi c (ds.length : Int)).1 + (m : Int) * c).toNat]?
section
variable {prog : Program} {w : World} {A : Around} {E : Value → Shared → Prop} {s : Shared}
theorem sliceApplied_step {sl : Addr} {vl vu vs : Value} {lo hi : Option Int} {c : Int} {n : Nat} {Q : Int × Int × Nat → Shared → Prop} (hs : s.heap.IsSliceOf sl vl vu vs) (pl : IsPart vl lo) (pu : IsPart vu hi) (ps : IsPart vs (some c)) (hc : c ≠ 0)
    (h : Q ((Builtin.Slice.sliceAdjust lo hi c (n : Int)).1, c, Builtin.Slice.slicePlaces (Builtin.Slice.sliceAdjust lo hi c (n : Int)).1 (Builtin.Slice.sliceAdjust lo hi c (n : Int)).2 c) s) : wpAny (model prog w) A (Builtin.Slice.sliceApplied (.ref sl) (pure (n : Int))) Q E s := by
  obtain ⟨os, hos, hcs, hds⟩ := id hs
  unfold Builtin.Slice.sliceApplied Builtin.Slice.sliceFields
  refine wpAny_bind (wpAny_bind (wpAny_field hos hds (x := vl) rfl (wpAny_bind (wpAny_field hos hds (x := vu) rfl (wpAny_bind (wpAny_field hos hds (x := vs) rfl (wpAny_pure ?_)))))))
  refine wpAny_bind (HT.slicePart_ ps ?_)
  show wpAny _ _ (if (c == 0) = true then _ else _) _ _ s
  rw [if_neg (by simpa using hc)]
  refine wpAny_bind (HT.slicePart_ pl (wpAny_bind (HT.slicePart_ pu (wpAny_bind (wpAny_pure ?_)))))
  show wpAny _ _ (match Builtin.Slice.sliceAdjust lo hi c (n : Int) with | (lo, hi) => pure (lo, c, Builtin.Slice.slicePlaces lo hi c)) _ _ s
  exact wpAny_pure h
theorem getItem_tuple_step {t sl : Addr} {items : Array Value} {vl vu vs : Value} {lo hi : Option Int} {c : Int} {Q : Value → Shared → Prop} (ht : IsTup s.heap t items) (hs : s.heap.IsSliceOf sl vl vu vs) (pl : IsPart vl lo) (pu : IsPart vu hi) (ps : IsPart vs (some c)) (hc : c ≠ 0) (hc1 : c ≠ 1)
    (h : Q (.ref s.heap.objs.size) { s with heap := s.heap.push { cls := .type "tuple", data := .seq (stepT lo hi c items.toList).toArray } })
    (hsz : (stepT lo hi c items.toList).length ≤ sizeLine) : wpAny (model prog w) A (getItem (.ref t) (.ref sl)) Q E s := by
  have htake : sizeOk (.seq (stepT lo hi c items.toList).toArray) := by
    show (stepT lo hi c items.toList).toArray.size ≤ sizeLine
    rw [List.size_toArray]
    exact hsz
  obtain ⟨os, hos, hcs, hds⟩ := id hs
  have hTs : s.TypeIs (.ref sl) "slice" := ⟨os, hos, hcs⟩
  unfold getItem
  try with_reducible refine wpAny_holding ?_
  first | refine wpAny_bind (wpAny_pure ?_) | skip
  refine wpAny_bind (wpAny_sequenceKey ht.typeIs (by decide) ?_)
  refine wpAny_bind (wpAny_callSpecial?_slot (name := Str.ofString "__getitem__") ht.typeIs PyProof.Rows.slot_tuple_getitem
    (wpAny_call_entry PyProof.Rows.slot_tuple_getitem ht.typeIs entry_tuple_getitem ?_ (args_tuple_getitem _ _)))
  show wpAny _ _ (Builtin.Tuple.tupleItemsOf (.ref t) >>= _) _ _ s
  refine wpAny_bind (tupleItemsOf_ ht ?_)
  refine wpAny_bind (wpAny_typeOf hTs ?_)
  rw [if_pos (by decide)]
  refine wpAny_bind (sliceApplied_step hs pl pu ps hc ?_)
  have hno : ∀ (a : Int) (k : Nat), ¬ ((a == 0 && c == 1 && k == items.size) = true) := by
    intro a k q
    rw [Bool.and_eq_true, Bool.and_eq_true] at q
    exact hc1 (eq_of_beq q.1.2)
  have e : ((List.range (Builtin.Slice.slicePlaces (Builtin.Slice.sliceAdjust lo hi c (items.size : Int)).1 (Builtin.Slice.sliceAdjust lo hi c (items.size : Int)).2 c)).filterMap fun (m : Nat) => items[((Builtin.Slice.sliceAdjust lo hi c (items.size : Int)).1 + (m : Int) * c).toNat]?).toArray = (stepT lo hi c items.toList).toArray := by
    unfold stepT
    simp
  show wpAny _ _ (if ((Builtin.Slice.sliceAdjust lo hi c (items.size : Int)).1 == 0 && c == 1 && Builtin.Slice.slicePlaces (Builtin.Slice.sliceAdjust lo hi c (items.size : Int)).1 (Builtin.Slice.sliceAdjust lo hi c (items.size : Int)).2 c == items.size) = true then _ else _) _ _ s
  rw [if_neg (hno _ _), e]
  first
    | exact wpAny_bind (m := Builtin.Tuple.tupleExact _) (wpAny_newObj_type (wpAny_pure ⟨_, rfl, wpAny_pure h⟩) htake)
    | exact wpAny_bind (m := Builtin.Tuple.tupleExact _) (wpAny_newObj_type (wpAny_bind (wpAny_pure (wpAny_pure ⟨_, rfl, wpAny_pure h⟩))) htake)
    | exact wpAny_bind (wpAny_bind (m := Builtin.Tuple.tupleExact _) (wpAny_newObj_type (wpAny_pure (wpAny_pure ⟨_, rfl, wpAny_pure h⟩)) htake))
    | exact wpAny_bind (wpAny_bind (m := Builtin.Tuple.tupleExact _) (wpAny_newObj_type (wpAny_pure ⟨_, rfl, wpAny_pure h⟩) htake))
end
theorem stepT_vals {xs : List V} {us : List Value} (r : Vals xs us) (lo hi : Option Int) (c : Int) : Vals (stepT lo hi c xs) (stepT lo hi c us) := by
  have hl := r.length
  unfold stepT
  rw [hl]
  generalize (List.range (Builtin.Slice.slicePlaces (Builtin.Slice.sliceAdjust lo hi c (us.length : Int)).1 (Builtin.Slice.sliceAdjust lo hi c (us.length : Int)).2 c)) = ks
  induction ks with
  | nil => exact .nil
  | cons k ks ih =>
    rw [List.filterMap_cons, List.filterMap_cons]
    generalize ((Builtin.Slice.sliceAdjust lo hi c (us.length : Int)).1 + (k : Int) * c).toNat = j
    cases e : xs[j]? with
    | none =>
      have : us[j]? = none := by
        rw [List.getElem?_eq_none_iff] at e ⊢
        omega
      rw [this]
      exact ih
    | some x =>
      obtain ⟨u, e2, rv⟩ := r.get e
      rw [e2]
      exact .cons rv ih
theorem stepT_rep {G : Gc} {H : Hp} {ρ : List Addr} {ds : List D} {xs : List V} (r : RepL G H ρ ds xs) (lo hi : Option Int) (c : Int) : RepL G H ρ (stepT lo hi c ds) (stepT lo hi c xs) := by
  have hl := r.length
  unfold stepT
  rw [hl]
  generalize (List.range (Builtin.Slice.slicePlaces (Builtin.Slice.sliceAdjust lo hi c (xs.length : Int)).1 (Builtin.Slice.sliceAdjust lo hi c (xs.length : Int)).2 c)) = ks
  induction ks with
  | nil => exact .nil
  | cons k ks ih =>
    rw [List.filterMap_cons, List.filterMap_cons]
    generalize ((Builtin.Slice.sliceAdjust lo hi c (xs.length : Int)).1 + (k : Int) * c).toNat = j
    cases e : ds[j]? with
    | none =>
      have : xs[j]? = none := by
        rw [List.getElem?_eq_none_iff] at e ⊢
        omega
      rw [this]
      exact ih
    | some x =>
      obtain ⟨u, e2, rv⟩ := r.get e
      rw [e2]
      exact .cons rv ih
section
variable {X : Cx} {lo hi : Option Expr} {e : Expr} {te : TE} {tl th ts : TO} {p2 pos : Pos}
def tSl3A (K : PySem.W.Frag) (te : TE) (tl th ts : TO) : TE := fun σ H Q => te σ H fun x H1 => tl σ H1 fun l H2 => th σ H2 fun u H3 => ts σ H3 fun o H4 => ∃ c a xs, o = some c ∧ c ≠ 0 ∧ x = .ref a ∧
  ((SqL K H4 a xs ∧ (permL (idxS l u c xs.length) xs).length ≤ sizeLine ∧ ∀ p, H4 p = none → Q (.ref p) (upd H4 p (.lst (permL (idxS l u c xs.length) xs)))) ∨
   (SqT K H4 a xs ∧ c ≠ 1 ∧ (stepT l u c xs).length ≤ sizeLine ∧ ∀ p, H4 p = none → Q (.ref p) (upd H4 p (.tup (stepT l u c xs)))))
theorem pe_slice3A {sx : Expr} (he : PE X e te) (hl : PO X lo tl) (hu : PO X hi th) (hs : PO X (some sx) ts) : PE X (.Subscript e (.Slice lo hi (some sx) p2) pos) (tSl3A X.K te tl th ts) := by
  refine ⟨fun pins s σ H Q I h => ?_⟩
  refine Subscript_ (thn (he.run pins s σ H _ I h) fun v s1 ⟨x, H1, I1, r1, q1⟩ => ?_)
  refine wpAny_Slice (thn (hl.run pins s1 σ H1 _ I1 q1) fun vl s2 ⟨l, H2, I2, pl, q2⟩ => thn (hu.run pins s2 σ H2 _ I2 q2) fun vu s3 ⟨u, H3, I3, pu, q3⟩ => thn (hs.run pins s3 σ H3 _ I3 q3) fun vs s4 ⟨o, H4, I4, ps, q4⟩ => ?_)
  obtain ⟨c, a, xs, rfl, hc, rfl, q4⟩ := q4
  cases r1
  have I5 : Inv X pins σ H4 { s4 with heap := s4.heap.push { cls := .type "slice", data := .fields #[vl, vu, vs] } } := I4.kept (t' := s4.toks) fun b ob q => Heap.get?_push_of_some _ q
  show wpAny (model X.prog X.w) X.A (subscriptTail e (.Slice lo hi (some sx) p2) (.ref a) (.ref s4.heap.objs.size)) (EP X pins σ Q) X.xe { s4 with heap := s4.heap.push { cls := .type "slice", data := .fields #[vl, vu, vs] } }
  rcases q4 with ⟨hx, hn, q⟩ | ⟨hx, hc1, hn, q⟩
  · obtain ⟨its, r, ht, hz⟩ := I5.list hx
    have hlen : its.toArray.size = xs.length := by rw [List.size_toArray]; exact r.length.symm
    refine tail_any (ops := [.ref a, .ref s4.heap.objs.size]) ht.isList.typeIs (PySem.slot_list_getitem.lookup) ?_ (by with_unfolding_all rfl)
    refine wpAny_getItem_list_slice ht.isList (Heap.IsSliceOf.new _ vl vu vs) pl pu ps (by simpa using hc) ?_ (by rw [hlen]; exact hz)
    have rp := permL_vals r (idxS l u c xs.length)
    have e1 : slicePick its.toArray l u (some c) = (permL (idxS l u c xs.length) its).toArray := by
      have := pick_permL its.toArray l u c
      rw [hlen] at this
      rw [← this]
    rw [e1]
    refine ⟨.ref _, _, I5.laid (t' := s4.toks) (o := .lst (permL (idxS l u c xs.length) xs)) (fun b ob q => Heap.get?_push_of_some _ q) (Nat.le_refl _) ?_, rfl, q _ (I5.hok.fresh (Nat.le_refl _))⟩
    exact ⟨hn, _, 0, rp, Heap.get?_push_size _ rfl⟩
  · obtain ⟨its, r, ht, hz⟩ := I5.tuple hx
    have rp := stepT_vals r l u c
    refine tail_any (ops := [.ref a, .ref s4.heap.objs.size]) ht.typeIs (PyProof.Rows.slot_tuple_getitem.lookup) ?_ (by with_unfolding_all rfl)
    refine getItem_tuple_step ht (Heap.IsSliceOf.new _ vl vu vs) pl pu ps hc hc1 ?_ (by show (stepT l u c its).length ≤ _; rw [← rp.length]; exact hn)
    refine ⟨.ref _, _, I5.laid (t' := s4.toks) (o := .tup (stepT l u c xs)) (fun b ob q => Heap.get?_push_of_some _ q) (Nat.le_refl _) ?_, rfl, q _ (I5.hok.fresh (Nat.le_refl _))⟩
    exact ⟨hn, _, rp, _, Heap.get?_push_size _ rfl, rfl, 0, rfl⟩
end
/-- xs[a:b:c], xs a list or a tuple -/
def eSlA (a : ME) (lo hi : Option ME) (st : ME) : ME := fun T δ S => (a T δ S).then fun x S1 => (partM lo T δ S1).then fun l S2 => (partM hi T δ S2).then fun h S3 => (partM (some st) T δ S3).then fun o S4 => match o with
  | some c => if c = 0 then .bad else match x.tq with
    | some ds => if c ≠ 1 ∧ (stepT l h c ds).length ≤ sizeLine then .ok (.val (.tup (stepT l h c ds))) S4 else .bad
    | none => match x.lq S4 with
      | some ds => if (permL (idxS l h c ds.length) ds).length ≤ sizeLine then .ok (.tmp (.lst (permL (idxS l h c ds.length) ds))) S4 else .bad
      | none => .bad
  | none => .bad
section
variable {cl : Bool} {I : Info} {N : List Str} {sc : Scope} {G : Gc} {T : FT} {Wx : WX} {H : Hp} {ρ : List Addr} {δ : MM.Env} {S : Sto} {σ : L2.St}
theorem sim_slA {a sx : Expr} {lo hi : Option Expr} {ma ms : ME} {ml mh : Option ME} {pos p2} (ha : SimE cl I N sc a ma) (hl : SimO cl I N sc lo ml) (hh : SimO cl I N sc hi mh) (hs : SimE cl I N sc sx ms) : SimE cl I N sc (.Subscript a (.Slice lo hi (some sx) p2) pos) (eSlA ma ml mh ms) := fun G T Wx X hG ok => by
  refine (pe_slice3A (ha G T Wx X hG ok) (hl G T Wx X hG ok) (hh G T Wx X hG ok) (simo_some hs G T Wx X hG ok)).weak fun σ H Q ⟨ρ, δ, S, he, hst, q⟩ => ?_
  refine ⟨ρ, δ, S, he, hst, (okR.then q).mono fun w S1 H1 ρ1 f1 st1 p v r fs => ?_⟩
  refine ⟨ρ1, δ, S1, he.fr f1, st1, (okR.then p).mono fun l S2 H2 ρ2 f2 st2 p2 => ?_⟩
  refine ⟨ρ2, δ, S2, he.fr (f1.trans f2), st2, (okR.then p2).mono fun h S3 H3 ρ3 f3 st3 p3 => ?_⟩
  refine ⟨ρ3, δ, S3, he.fr (f1.trans (f2.trans f3)), st3, (okR.then p3).mono fun o S4 H4 ρ4 f4 st4 p4 => ?_⟩
  have fa := f1.trans (f2.trans (f3.trans f4))
  split at p4
  · rename_i c
    split at p4
    · exact p4.elim
    · rename_i hc
      rw [ok.eK]
      split at p4
      · rename_i ds hd
        split at p4
        · rename_i h1
          obtain ⟨b, xs, rfl, hq, lr⟩ := W.tq_rep hd (r.fr (f2.trans (f3.trans f4)))
          have rp := stepT_rep lr l h c
          refine ⟨c, b, xs, rfl, hc, rfl, .inr ⟨hq.sq, h1.1, by rw [← rp.length]; exact h1.2, fun p hp => p4 _ ρ4 (fr_new hp (st4.free hp)) (st4.new hp) _ (new_tup st4 rp hp) True.intro⟩⟩
        · exact p4.elim
      · split at p4
        · rename_i ds hd
          split at p4
          · rename_i h1
            obtain ⟨b, xs, rfl, hq, lr⟩ := W.lq_rep hd st4 (r.fr (f2.trans (f3.trans f4)))
            have el : ds.length = xs.length := lr.length
            have rp := permL_rep lr (idxS l h c xs.length)
            rw [el] at h1 p4
            refine ⟨c, b, xs, rfl, hc, rfl, .inl ⟨hq, by rw [← rp.length]; exact h1, fun p hp => p4 _ ρ4 (fr_new hp (st4.free hp)) (st4.new hp) _ (new_lst st4 rp hp) fun z e => ?_⟩⟩
            cases e
            exact fa.noneAt st4 hp
          · exact p4.elim
        · exact p4.elim
  · exact p4.elim
end
end MM
set_option maxRecDepth 100000
set_option maxHeartbeats 2000000
/-! MM, part Y: dicts whose keys are tuples, written as displays where they are used. -/
namespace MM
open PySem PySem.Spec L2
def keysT : List D → Option (List L2.Key)
  | [] => some []
  | d :: ds => match d.key, keysT ds with
    | some k, some ks => some (k :: ks)
    | _, _ => none
def lookT (k : List L2.Key) : List (List L2.Key × D) → Option D
  | [] => none
  | p :: r => if p.1 = k then some p.2 else lookT k r
def dputT (k : List L2.Key) (d : D) (kvs : List (List L2.Key × D)) : List (List L2.Key × D) :=
  if (kvs.any fun kv => decide (kv.1 = k)) = true then kvs.map (fun kv => if kv.1 = k then (kv.1, d) else kv) else kvs ++ [(k, d)]
def W.tdq (S : Sto) : W → Option (List (List L2.Key × D))
  | .val (.loc n) => match S[n]? with
    | some (.dtt kvs) => some kvs
    | _ => none
  | _ => none
/-- {}, the keys to come being tuples -/
def eDictT : ME := fun _ _ S => .ok (.tmp (.dtt [])) S
/-- d[(a, b)] -/
def eIxT (o : ME) (es : ML) : ME := fun T δ S => (o T δ S).then fun x S1 => (es T δ S1).then fun ds S2 => match x.tdq S2, keysT ds with
  | some kvs, some k => match lookT k kvs with
    | some d => if ds.length ≤ sizeLine then .ok (.val d) S2 else .bad
    | none => .bad
  | _, _ => .bad
/-- d[(a, b)] = e -/
def sSetIxT (o e : ME) (es : ML) : MS := fun T δ S => (bnd e T δ S).thenS δ fun d S1 => (o T δ S1).thenS δ fun x S2 => (es T δ S2).thenS δ fun ds S3 => match x, keysT ds with
  | .val (.loc n), some k => match S3[n]? with
    | some (.dtt kvs) => if kvs.length < sizeLine ∧ ds.length ≤ sizeLine then .nx δ (S3.set n (.dtt (dputT k d kvs))) else .bad
    | _ => .bad
  | _, _ => .bad
section
variable {cl : Bool} {I : Info} {N : List Str} {sc : Scope} {G : Gc} {T : FT} {Wx : WX} {H : Hp} {ρ : List Addr} {δ : MM.Env} {S : Sto} {σ : L2.St}
theorem keysT_rep : ∀ {ds : List D} {k : List Key} {vs : List V}, keysT ds = some k → RepL G H ρ ds vs → vs = k.map kV
  | [], _, _, e, .nil => by cases e; rfl
  | d :: ds, k, _, e, .cons r t => by
    unfold keysT at e
    split at e
    · rename_i k1 k2 h1 h2
      cases e
      rw [List.map_cons, ← keysT_rep h2 t, key_rep h1 r]
    · cases e
theorem lookT_rep {k : List Key} {d : D} : ∀ {ds : List (List Key × D)} {vs : List (List Key × V)}, RepT G H ρ ds vs → lookT k ds = some d → ∃ v, valV vs k = some v ∧ Rep G H ρ d v
  | _, _, .nil, e => by cases e
  | _, _, .cons (k := j) r t, e => by
    unfold lookT at e
    unfold valV
    rw [List.find?_cons]
    by_cases h : j = k
    · rw [if_pos h] at e
      cases e
      simp only [h, decide_true]
      exact ⟨_, rfl, r⟩
    · rw [if_neg h] at e
      simp only [h, decide_false]
      exact lookT_rep t e
theorem sim_dictT {pos} : SimE cl I N sc (.Dict [] [] pos) eDictT := fun G T Wx X hG ok => by
  refine pe_dnewT.weak fun σ H Q ⟨ρ, δ, S, he, hs, q⟩ => ?_
  intro p hp
  refine q _ ρ (fr_new hp (hs.free hp)) (hs.new hp) _ ⟨p, rfl, hs.free hp, [], upd_same, .nil⟩ fun b e => ?_
  cases e
  exact hp
theorem sim_ixT {a : Expr} {es : List Expr} {ma : ME} {ml : ML} {x1 p2 pos} (ha : SimE cl I N sc a ma) (hb : SimL cl I N sc es ml) (hs : PlainIx (.Tuple es x1 p2) := by exact fun _ _ => rfl) : SimE cl I N sc (.Subscript a (.Tuple es x1 p2) pos) (eIxT ma ml) := fun G T Wx X hG ok => by
  refine (pe_ix (ix_dict (hu1 ok.units)) (ha G T Wx X hG ok) (pe_tup (hb G T Wx X hG ok)) hs).weak fun σ H Q ⟨ρ, δ, S, he, hst, q⟩ => ?_
  refine ⟨ρ, δ, S, he, hst, (okR.then q).mono fun w S1 H1 ρ1 f1 st1 p v r fs => ?_⟩
  refine ⟨ρ1, δ, S1, he.fr f1, st1, (okR.then p).mono fun ds S2 H2 ρ2 f2 st2 p2 vs l => ?_⟩
  split at p2
  · rename_i kvs k hk hq
    split at p2
    · rename_i d hl
      split at p2
      · rename_i hz
        refine ⟨by rw [← l.length]; exact hz, fun b hb => ?_⟩
        unfold W.tdq at hk
        split at hk
        · split at hk
          · rename_i n ds' es'
            cases hk
            have r2 := r.fr f2
            cases r2 with
            | loc er =>
              obtain ⟨xs, h1, h2⟩ := st2.obj _ _ _ es' er
              obtain ⟨v2, h3, h4⟩ := lookT_rep h2 hl
              have ek := keysT_rep hq l
              have fN := fr_new (o := .tup vs) hb (st2.free hb)
              refine ⟨_, v2, rfl, ?_, p2 _ ρ2 fN (st2.new hb) v2 (h4.fr fN) True.intro⟩
              rw [← h3]
              have hne : ∀ a' u, H2 a' = some u → a' ≠ b := fun a' u e z => by rw [z, hb] at e; cases e
              refine DGet.t (k := k) (by rw [upd_ne (hne _ _ h1)]; exact h1) (by rw [upd_same, ek])
          · cases hk
        · cases hk
      · exact p2.elim
    · exact p2.elim
  · exact p2.elim
theorem putT_rep {k : List Key} {d : D} {v : V} {ds : List (List Key × D)} {vs : List (List Key × V)} (l : RepT G H ρ ds vs) (r : Rep G H ρ d v) : RepT G H ρ (dputT k d ds) (putK vs k v) := by
  have hany : ∀ {ds : List (List Key × D)} {vs : List (List Key × V)}, RepT G H ρ ds vs → (vs.any fun kv => decide (kv.1 = k)) = ds.any fun kv => decide (kv.1 = k) := fun {ds vs} l => by
    induction l with
    | nil => rfl
    | cons _ _ ih => rw [List.any_cons, List.any_cons, ih]
  have hmap : ∀ {ds : List (List Key × D)} {vs : List (List Key × V)}, RepT G H ρ ds vs → RepT G H ρ (ds.map fun kv => if kv.1 = k then (kv.1, d) else kv) (vs.map fun kv => if kv.1 = k then (kv.1, v) else kv) := fun {ds vs} l => by
    induction l with
    | nil => exact .nil
    | cons q t ih =>
      rename_i j _ _ _ _
      rw [List.map_cons, List.map_cons]
      by_cases h : j = k
      · simp only [h, if_true]
        exact .cons r ih
      · simp only [h, if_false]
        exact .cons q ih
  have happ : ∀ {ds : List (List Key × D)} {vs : List (List Key × V)}, RepT G H ρ ds vs → RepT G H ρ (ds ++ [(k, d)]) (vs ++ [(k, v)]) := fun {ds vs} l => by
    induction l with
    | nil => exact .cons r .nil
    | cons q t ih => exact .cons q ih
  unfold dputT putK
  rw [hany l]
  split
  · exact hmap l
  · exact happ l
theorem RepT.length : ∀ {ds : List (List Key × D)} {vs : List (List Key × V)}, RepT G H ρ ds vs → ds.length = vs.length
  | _, _, .nil => rfl
  | _, _, .cons _ t => by rw [List.length_cons, List.length_cons, RepT.length t]
def rSetT : TSet := fun o i v H Q => ∃ a b kvs k, o = .ref a ∧ i = .ref b ∧ H a = some (.dT kvs) ∧ H b = some (.tup (k.map kV)) ∧ kvs.length < sizeLine ∧ Q (upd H a (.dT (putK kvs k v)))
theorem set_T {X : Cx} (hu : X.A.units + 64 < cLine) : PSet X rSetT := by
  intro pins s σ H o i v ov iv u Q I ro ri rv ⟨a, b, kvs, k, e1, e2, h1, h2, hl, q⟩
  subst e1 e2
  obtain rfl : ov = Value.ref a := ro
  exact d_setItem (hu1 hu) I (DPut.t h1 h2 hl) ri rv fun s4 I4 => ⟨_, I4, q⟩
theorem sims_setIxT {o e : Expr} {es : List Expr} {mo me : ME} {ml : ML} {x1 p2} {pos pos' : Pos} (ho : SimE true I N sc o mo) (hi : SimL true I N sc es ml) (hv : SimE true I N sc e me) (hs : ∀ env, swapsWithSole [.Subscript o (.Tuple es x1 p2) pos'] e pos.line env = pure false := by intro _; rfl) (hw : ∀ env, swappedStores [.Subscript o (.Tuple es x1 p2) pos'] e env = pure none := by intro _; rfl)
    (hsb : ∀ X : Cx, ∀ to ti t, PE X o to → PE X (.Tuple es x1 p2) ti → PSet X t → PG X (.Subscript o (.Tuple es x1 p2) pos') (gSub to ti t) := by exact fun X to ti t h1 h2 h3 => pg_sub h1 h2 h3) : SimS I N sc (.Assign [.Subscript o (.Tuple es x1 p2) pos'] e pos) (sSetIxT mo me ml) := fun G T Wx X hG ok => by
  refine (ps_asg (hv G T Wx X hG ok.toXOk0) (hsb X _ _ _ (ho G T Wx X hG ok.toXOk0) (pe_tup (hi G T Wx X hG ok.toXOk0)) (set_T ok.units)) (hs X.env) (hw X.env)).weak fun D σ H ⟨ρ, δ, S, he, hs, q⟩ => ?_
  refine ⟨ρ, δ, S, he, hs, (bnd_ok (okF.thenS he q)).mono fun w S1 H1 ρ1 f1 st1 p v r fs => ?_⟩
  obtain ⟨d, S2, ρ2, rd, st2, f2, p⟩ := p v r fs
  refine ⟨ρ2, δ, S2, he.fr f2, st2, (okF.thenS (he.fr f2) p).mono fun w3 S3 H3 ρ3 f3 st3 p3 v3 r3 fs3 => ?_⟩
  refine ⟨ρ3, δ, S3, he.fr (f2.trans f3), st3, (okF.thenS (he.fr (f2.trans f3)) p3).mono fun ds S4 H4 ρ4 f4 st4 p4 vs l => ?_⟩
  split at p4
  · rename_i n k hq
    split at p4
    · rename_i kvs hk
      split at p4
      · rename_i hz
        refine ⟨by rw [← l.length]; exact hz.2, fun b hb => ?_⟩
        have r4 := r3.fr f4
        cases r4 with
        | loc er =>
          rename_i aa
          obtain ⟨xs, h1, h2⟩ := st4.obj _ _ _ hk er
          have ek := keysT_rep hq l
          have fN := fr_new (o := .tup vs) hb (st4.free hb)
          have stN := st4.new (o := .tup vs) hb
          have hne : ∀ a' u, H4 a' = some u → a' ≠ b := fun a' u e z => by rw [z, hb] at e; cases e
          have h1N : upd H4 b (.tup vs) aa = some (.dT xs) := by rw [upd_ne (hne _ _ h1)]; exact h1
          have h2N : RepT G (upd H4 b (.tup vs)) ρ4 kvs xs := RepT.sub fN.sub h2
          have rdN : Rep G (upd H4 b (.tup vs)) ρ4 d v := (rd.fr (f3.trans f4)).fr fN
          obtain ⟨st5, f5⟩ := stN.put (u := .dT (putK xs k v)) (o := .dtt (dputT k d kvs)) er fun sb => ⟨_, upd_same, putT_rep (RepT.sub sb h2N) (rdN.sub sb)⟩
          refine ⟨_, b, xs, k, rfl, rfl, h1N, by rw [upd_same, ek], by rw [← h2.length]; exact hz.1, ?_⟩
          exact p4 σ _ ρ4 (fN.trans f5) st5 (he.fr (f2.trans (f3.trans (f4.trans (fN.trans f5)))))
      · exact p4.elim
    · exact p4.elim
  · exact p4.elim
end
end MM
set_option maxRecDepth 100000
set_option maxHeartbeats 2000000
/-! MM, part Z: dicts of the module. -/
namespace MM
open PySem PySem.Spec L2
def rdKd (K : PySem.W.Frag) (n : Nat) : List DictEntry → Option (List (Str × D))
  | [] => some []
  | e :: r => match e.key, readD K n e.val, rdKd K n r with
    | .str x _, some d, some ds => some ((x, d) :: ds)
    | _, _, _ => none
theorem rdKd_ok {G : Gc} {n : Nat} {a : Addr} {es : Array DictEntry} {m : Nat} (hl : G.K.lookup a = some ⟨.type "dict", none, .dict es m, #[]⟩) {kvs : List (Str × D)} (h : rdKd G.K n es.toList = some kvs) (z : Str) :
    (∀ d, lookF z kvs = some d → ∃ u v, PySem.W.nsIn G.K a z = some (some u) ∧ RelV v u ∧ ∀ H ρ, Rep G H ρ d v) ∧ (lookF z kvs = none → PySem.W.nsIn G.K a z = some none) := by
  have key : ∀ (l : List DictEntry) (kvs : List (Str × D)), rdKd G.K n l = some kvs → (∀ d, lookF z kvs = some d → ∃ e v, l.find? (·.key.isStr z) = some e ∧ RelV v e.val ∧ ∀ H ρ, Rep G H ρ d v) ∧ (lookF z kvs = none → l.find? (·.key.isStr z) = none ∧ l.any (·.refKey) = false) := by
    intro l
    induction l with
    | nil =>
      intro kvs h
      cases h
      exact ⟨(fun d e => by cases e), fun _ => ⟨rfl, rfl⟩⟩
    | cons e r ih =>
      intro kvs h
      unfold rdKd at h
      split at h
      · rename_i x t d ds h1 h2 h3
        cases h
        obtain ⟨i1, i2⟩ := ih ds h3
        obtain ⟨v, rv, q⟩ := readD_ok n e.val d h2
        unfold lookF
        rw [List.find?_cons, List.any_cons]
        have ek : e.key.isStr z = decide (x = z) := by
          rw [h1]
          show (x == z) = _
          rfl
        by_cases hx : x = z
        · rw [if_pos hx, ek, decide_eq_true hx]
          refine ⟨fun d' e' => ?_, fun e' => by cases e'⟩
          cases e'
          exact ⟨e, v, rfl, rv, fun H ρ => q G H ρ rfl⟩
        · rw [if_neg hx, ek, decide_eq_false hx]
          refine ⟨i1, fun e' => ⟨(i2 e').1, ?_⟩⟩
          rw [(i2 e').2]
          have : e.refKey = false := by
            unfold DictEntry.refKey
            rw [h1]
          rw [this]; rfl
      · cases h
  obtain ⟨k1, k2⟩ := key es.toList kvs h
  unfold PySem.W.nsIn
  rw [hl]
  dsimp only
  refine ⟨fun d e => ?_, fun e => ?_⟩
  · obtain ⟨en, v, h1, h2, h3⟩ := k1 d e
    rw [h1]
    exact ⟨en.val, v, rfl, h2, h3⟩
  · obtain ⟨h1, h2⟩ := k2 e
    rw [h1, h2]
    rfl
theorem kdW_mk {G : Gc} {w : World} {x : Str} {n : Nat} {a : Addr} {es : Array DictEntry} {m : Nat} {kvs : List (Str × D)} (hg : G.mg x = some (.ref a)) (hl : G.K.lookup a = some ⟨.type "dict", none, .dict es m, #[]⟩) (hk : PySem.W.KeysLit w.params es.toList) (lo : (a == sysModules) = false)
    (h : rdKd G.K n es.toList = some kvs) : KdW w G x kvs := ⟨a, es, m, hg, ⟨hl, hk, lo⟩, rdKd_ok hl h⟩
/-- D[e], D a dict of the module -/
def eKIx (kvs : List (Str × D)) (e : ME) : ME := fun T δ S => (e T δ S).then fun y S1 => match y with
  | .val (.str z) => match lookF z kvs with
    | some d => .ok (.val d) S1
    | none => .bad
  | _ => .bad
def cKIn (kvs : List (Str × D)) (e : ME) : MT := fun T δ S => (e T δ S).then fun y S1 => match y with
  | .val (.str z) => .ok (lookF z kvs).isSome S1
  | _ => .bad
section
variable {cl : Bool} {I : Info} {N : List Str} {sc : Scope} {G : Gc} {T : FT} {Wx : WX} {H : Hp} {ρ : List Addr} {δ : MM.Env} {S : Sto} {σ : L2.St}
theorem ix_kd {X : Cx} {d : Addr} {es : Array DictEntry} {n : Nat} (D : KDict X.K X.w d es n) : IxR X (fun x y H Q => ∃ (z : Str) (u0 : Value) (v0 : V), x = .ref d ∧ y = .str z ∧ PySem.W.nsIn X.K d z = some (some u0) ∧ RelV v0 u0 ∧ Q v0 H) := by
  intro value slice pins s σ H x y o i Q I rx ry ⟨z, u0, v0, e1, e2, e3, rv, q⟩ hs
  subst e1 e2
  obtain rfl : o = Value.ref d := rx
  have hT := kd_type D I
  unfold PyProof.Rows.subscriptTail
  refine wpAny_bind ?_
  rw [getitemInPython_of_ne hT.not_modules]
  refine wpAny_bind (wpAny_specialOf hT PySem.F.slot_dict_getitem.lookup ?_)
  have fin : wpAny (model X.prog X.w) X.A (subscripted slice false (.ref d) i) (fun r s₃ => wpAny (model X.prog X.w) X.A (letTemporaryGo value (.ref d) r >>= fun _ => pure r) (EP X pins σ Q) X.xe s₃) X.xe s := by
    rw [hs]
    refine wpAny_operating ?_
    refine thn (op_item_kd D pins s σ H (.ref d) (.str z) (.ref d) i (fun w H' => Q w H') I rfl ry ⟨z, u0, v0, rfl, rfl, e3, rv, q⟩) fun w' s3 ⟨zz, H', I3, rw', q3⟩ => ?_
    exact wpAny_bind (wpAny_letTemporaryGo (wpAny_pure ⟨zz, H', I3, rw', q3⟩))
  first
    | exact wpAny_pure (wpAny_bind fin)
    | exact wpAny_bind (wpAny_pure (wpAny_bind fin))
    | exact wpAny_bind fin
theorem sim_kix {x : Str} {b : Expr} {mb : ME} {kvs : List (Str × D)} {p pos} (i : Nat) (hb : SimE cl I N sc b mb) (hi : I.kds[i]? = some (x, kvs) := by rfl) (hg : glob sc x = true := by rfl) (hd : (x == ("__debug__" : Str)) = false := by decide) (hs : PlainIx b := by exact fun _ _ => rfl) :
    SimE cl I N sc (.Subscript (.Name x p) b pos) (eKIx kvs mb) := fun G T Wx X hG ok => by
  obtain ⟨a, es, n, h1, h2, h3⟩ := ok.kd i x kvs hi
  have D : KDict X.K X.w a es n := by rw [ok.eK]; exact h2
  refine (pe_ix (ix_kd D) (pe_glob (v := .ref a) (ok.gl hg) (by rw [ok.eM]; exact h1) rfl hd) (hb G T Wx X hG ok) hs).weak fun σ H Q ⟨ρ, δ, S, he, hst, q⟩ => ?_
  refine ⟨ρ, δ, S, he, hst, (okR.then q).mono fun w S1 H1 ρ1 f1 st1 p v r fs => ?_⟩
  split at p
  · rename_i z
    split at p
    · rename_i d hl
      cases r
      obtain ⟨u, v0, e1, e2, e3⟩ := (h3 z).1 d hl
      exact ⟨z, u, v0, rfl, rfl, by rw [ok.eK]; exact e1, e2, p H1 ρ1 (Fr.refl _ _) st1 v0 (e3 H1 ρ1) True.intro⟩
    · exact p.elim
  · exact p.elim
theorem simt_kin {x : Str} {b : Expr} {mb : ME} {kvs : List (Str × D)} {p pos} (i : Nat) (hb : SimE cl I N sc b mb) (hi : I.kds[i]? = some (x, kvs) := by rfl) (hg : glob sc x = true := by rfl) (hd : (x == ("__debug__" : Str)) = false := by decide) (hm : behindInMarks .In (.Name x p) = false := by rfl) :
    SimT cl I N sc (.Compare b [.In] [.Name x p] pos) (cKIn kvs mb) := fun G T Wx X hG ok => by
  obtain ⟨a, es, n, h1, h2, h3⟩ := ok.kd i x kvs hi
  have D : KDict X.K X.w a es n := by rw [ok.eK]; exact h2
  refine (pt_cmpR (op_in_kd D) (hb G T Wx X hG ok) (pe_glob (v := .ref a) (ok.gl hg) (by rw [ok.eM]; exact h1) rfl hd) hm).weak fun σ H Q ⟨ρ, δ, S, he, hst, q⟩ => ?_
  refine ⟨ρ, δ, S, he, hst, (okR.then q).mono fun w S1 H1 ρ1 f1 st1 p v r fs => ?_⟩
  split at p
  · rename_i z
    cases r
    have p := p H1 ρ1 (Fr.refl _ _) st1
    cases e : lookF z kvs with
    | none =>
      rw [e] at p
      exact ⟨z, none, rfl, rfl, by rw [ok.eK]; exact (h3 z).2 e, _, rfl, p⟩
    | some d =>
      rw [e] at p
      obtain ⟨u, v0, e1, _⟩ := (h3 z).1 d e
      exact ⟨z, some u, rfl, rfl, by rw [ok.eK]; exact e1, _, rfl, p⟩
  · exact p.elim
theorem sim_kin {x : Str} {b : Expr} {mb : ME} {kvs : List (Str × D)} {p pos} (i : Nat) (hb : SimE cl I N sc b mb) (hi : I.kds[i]? = some (x, kvs) := by rfl) (hg : glob sc x = true := by rfl) (hd : (x == ("__debug__" : Str)) = false := by decide) (hm : behindInMarks .In (.Name x p) = false := by rfl) :
    SimE cl I N sc (.Compare b [.In] [.Name x p] pos) (eT (cKIn kvs mb)) := fun G T Wx X hG ok => by
  obtain ⟨a, es, n, h1, h2, h3⟩ := ok.kd i x kvs hi
  have D : KDict X.K X.w a es n := by rw [ok.eK]; exact h2
  refine (pe_cmpR (op_in_kd D) (hb G T Wx X hG ok) (pe_glob (v := .ref a) (ok.gl hg) (by rw [ok.eM]; exact h1) rfl hd) hm).weak fun σ H Q ⟨ρ, δ, S, he, hst, q⟩ => ?_
  refine ⟨ρ, δ, S, he, hst, (okR.then (okR.then q)).mono fun w S1 H1 ρ1 f1 st1 p v r fs => ?_⟩
  split at p
  · rename_i z
    cases r
    have p := p H1 ρ1 (Fr.refl _ _) st1 H1 ρ1 (Fr.refl _ _) st1
    cases e : lookF z kvs with
    | none =>
      rw [e] at p
      exact ⟨z, none, rfl, rfl, by rw [ok.eK]; exact (h3 z).2 e, p _ (.bl _) True.intro⟩
    | some d =>
      rw [e] at p
      obtain ⟨u, v0, e1, _⟩ := (h3 z).1 d e
      exact ⟨z, some u, rfl, rfl, by rw [ok.eK]; exact e1, p _ (.bl _) True.intro⟩
  · exact p.elim
end
end MM
set_option maxRecDepth 100000
/-! MM, part P: reckoning with the machine's terms. -/
namespace MM
open PySem PySem.Spec L2
section
variable {T : FT} {δ : MM.Env} {S : Sto}
@[simp] theorem ap_bnd (m : ME) : bnd m T δ S = (m T δ S).then fun w S1 => .ok (bindW w S1).1 (bindW w S1).2 := rfl
@[simp] theorem ap_begin (f : Fd) (ds : List D) : begin f ds = ds.map some ++ List.replicate (f.slots - f.pars) none := rfl
@[simp] theorem ap_eC (d : D) : eC d T δ S = .ok (.val d) S := rfl
theorem ap_eV (i : Nat) : eV i T δ S = match δ[i]? with
  | some (some d) => .ok (.val d) S
  | _ => .bad := rfl
@[simp] theorem eV_0 {d : D} {δ} : eV 0 T (some d :: δ) S = .ok (.val d) S := rfl
@[simp] theorem eV_1 {d : D} {a δ} : eV 1 T (a :: some d :: δ) S = .ok (.val d) S := rfl
@[simp] theorem eV_2 {d : D} {a b δ} : eV 2 T (a :: b :: some d :: δ) S = .ok (.val d) S := rfl
@[simp] theorem eV_3 {d : D} {a b c δ} : eV 3 T (a :: b :: c :: some d :: δ) S = .ok (.val d) S := rfl
@[simp] theorem eV_4 {d : D} {a b c e δ} : eV 4 T (a :: b :: c :: e :: some d :: δ) S = .ok (.val d) S := rfl
@[simp] theorem eV_5 {d : D} {a b c e f δ} : eV 5 T (a :: b :: c :: e :: f :: some d :: δ) S = .ok (.val d) S := rfl
@[simp] theorem eV_6 {d : D} {a b c e f g δ} : eV 6 T (a :: b :: c :: e :: f :: g :: some d :: δ) S = .ok (.val d) S := rfl
@[simp] theorem eV_7 {d : D} {a b c e f g h δ} : eV 7 T (a :: b :: c :: e :: f :: g :: h :: some d :: δ) S = .ok (.val d) S := rfl
@[simp] theorem eV_8 {d : D} {a b c e f g h i δ} : eV 8 T (a :: b :: c :: e :: f :: g :: h :: i :: some d :: δ) S = .ok (.val d) S := rfl
@[simp] theorem eV_9 {d : D} {a b c e f g h i j δ} : eV 9 T (a :: b :: c :: e :: f :: g :: h :: i :: j :: some d :: δ) S = .ok (.val d) S := rfl
@[simp] theorem eV_10 {d : D} {a b c e f g h i j l δ} : eV 10 T (a :: b :: c :: e :: f :: g :: h :: i :: j :: l :: some d :: δ) S = .ok (.val d) S := rfl
@[simp] theorem ap_lNil : lNil T δ S = .ok [] S := rfl
@[simp] theorem ap_lCons (e : ME) (es : ML) : lCons e es T δ S = (bnd e T δ S).then fun d S1 => (es T δ S1).then fun ds S2 => .ok (d :: ds) S2 := rfl
@[simp] theorem ap_eTup (es : ML) : eTup es T δ S = (es T δ S).then fun ds S1 => if ds.length ≤ sizeLine then .ok (.val (.tup ds)) S1 else .bad := rfl
@[simp] theorem ap_eLst (es : ML) : eLst es T δ S = (es T δ S).then fun ds S1 => if ds.length ≤ sizeLine then .ok (.tmp (.lst ds)) S1 else .bad := rfl
def o2R (o : Option W) (S : Sto) : R W := match o with
  | some w => .ok w S
  | none => .bad
def o2B (o : Option Bool) (S : Sto) : R Bool := match o with
  | some w => .ok w S
  | none => .bad
@[simp] theorem o2R_some (w : W) : o2R (some w) S = .ok w S := rfl
@[simp] theorem o2R_none : o2R none S = .bad := rfl
@[simp] theorem o2B_some (w : Bool) : o2B (some w) S = .ok w S := rfl
@[simp] theorem o2B_none : o2B none S = .bad := rfl
@[simp] theorem ap_eBin (f : B2) (a b : ME) : eBin f a b T δ S = (a T δ S).then fun x S1 => (b T δ S1).then fun y S2 => o2R (f x y S2) S2 := rfl
@[simp] theorem ap_eUn (f : B1) (a : ME) : eUn f a T δ S = (a T δ S).then fun x S1 => o2R (f x S1) S1 := rfl
@[simp] theorem ap_tE (a : ME) : tE a T δ S = (a T δ S).then fun x S1 => o2B (x.truth S1) S1 := rfl
@[simp] theorem ap_tCmp (f : C2) (a b : ME) : tCmp f a b T δ S = (a T δ S).then fun x S1 => (b T δ S1).then fun y S2 => o2B (f x y S2) S2 := rfl
@[simp] theorem ap_tAnd (a b : MT) : tAnd a b T δ S = (a T δ S).then fun x S1 => if x = true then b T δ S1 else .ok false S1 := rfl
@[simp] theorem ap_tOr (a b : MT) : tOr a b T δ S = (a T δ S).then fun x S1 => if x = true then .ok true S1 else b T δ S1 := rfl
@[simp] theorem ap_tNot (a : MT) : tNot a T δ S = (a T δ S).then fun x S1 => .ok (!x) S1 := rfl
@[simp] theorem ap_eT (a : MT) : eT a T δ S = (a T δ S).then fun x S1 => .ok (.val (.bl x)) S1 := rfl
@[simp] theorem ap_tYes : tYes T δ S = .ok true S := rfl
@[simp] theorem ap_eAnd (a b : ME) : eAnd a b T δ S = (bnd a T δ S).then fun x S1 => match (W.val x).truth S1 with
  | some true => b T δ S1
  | some false => .ok (.val x) S1
  | none => .bad := rfl
@[simp] theorem ap_eOr (a b : ME) : eOr a b T δ S = (bnd a T δ S).then fun x S1 => match (W.val x).truth S1 with
  | some true => .ok (.val x) S1
  | some false => b T δ S1
  | none => .bad := rfl
@[simp] theorem ap_eIf (c : MT) (a b : ME) : eIf c a b T δ S = (c T δ S).then fun x S1 => if x = true then a T δ S1 else b T δ S1 := rfl
def o2i (w : W) (S : Sto) : R (Option Int) := match w with
  | .val (.int i) => .ok (some i) S
  | _ => .bad
@[simp] theorem o2i_int (i : Int) : o2i (.val (.int i)) S = .ok (some i) S := rfl
@[simp] theorem ap_eSl_nn (a : ME) : eSl a none none T δ S = (a T δ S).then fun x S1 => o2R (slW x none none S1) S1 := rfl
@[simp] theorem ap_eSl_sn (a l : ME) : eSl a (some l) none T δ S = (a T δ S).then fun x S1 => ((l T δ S1).then fun i S2 => o2i i S2).then fun l S2 => o2R (slW x l none S2) S2 := rfl
@[simp] theorem ap_eSl_ns (a h : ME) : eSl a none (some h) T δ S = (a T δ S).then fun x S1 => ((h T δ S1).then fun i S2 => o2i i S2).then fun h S2 => o2R (slW x none h S2) S2 := rfl
@[simp] theorem ap_eSl_ss (a l h : ME) : eSl a (some l) (some h) T δ S = (a T δ S).then fun x S1 => ((l T δ S1).then fun i S2 => o2i i S2).then fun l S2 => ((h T δ S2).then fun i S3 => o2i i S3).then fun h S3 => o2R (slW x l h S3) S3 := rfl
@[simp] theorem ap_eCall (f : Nat) (es : ML) : eCall f es T δ S = gc S ((es T δ S).then fun ds S1 => T f ds S1) := rfl
@[simp] theorem ap_eCallK (f np nk : Nat) (perm : List Nat) (es ks : ML) : eCallK f np nk perm es ks T δ S = gc S ((es T δ S).then fun ds S1 => (ks T δ S1).then fun zs S2 => if ds.length = np ∧ zs.length = nk then T f (permL perm (ds ++ zs)) S2 else .bad) := rfl
/-! statements -/
@[simp] theorem ap_sNil : sNil T δ S = .nx δ S := rfl
def Fl.seq (f : Fl) (b : MM.Env → Sto → Fl) : Fl := match f with
  | .nx δ1 S1 => b δ1 S1
  | f => f
@[simp] theorem seq_nx (δ S b) : Fl.seq (.nx δ S) b = b δ S := rfl
@[simp] theorem seq_rt (w S b) : Fl.seq (.rt w S) b = .rt w S := rfl
@[simp] theorem seq_bk (w S b) : Fl.seq (.bk w S) b = .bk w S := rfl
@[simp] theorem seq_ct (w S b) : Fl.seq (.ct w S) b = .ct w S := rfl
@[simp] theorem seq_exc (c ds δ S b) : Fl.seq (.exc c ds δ S) b = .exc c ds δ S := rfl
@[simp] theorem seq_bad (b) : Fl.seq .bad b = .bad := rfl
@[simp] theorem ap_sSeq (a b : MS) : sSeq a b T δ S = (a T δ S).seq (b T) := rfl
@[simp] theorem ap_sE (e : ME) : sE e T δ S = (e T δ S).thenS δ fun _ S1 => .nx δ S1 := rfl
@[simp] theorem ap_sRet (e : ME) : sRet e T δ S = (e T δ S).thenS δ fun w S1 => .rt w S1 := rfl
@[simp] theorem ap_sRetN : sRetN T δ S = .rt (.val .non) S := rfl
@[simp] theorem ap_sBreak : sBreak T δ S = .bk δ S := rfl
@[simp] theorem ap_sCont : sCont T δ S = .ct δ S := rfl
@[simp] theorem ap_sIf (c : MT) (a b : MS) : sIf c a b T δ S = (c T δ S).thenS δ fun x S1 => if x = true then a T δ S1 else b T δ S1 := rfl
@[simp] theorem ap_sAsg (i : Nat) (e : ME) : sAsg i e T δ S = (bnd e T δ S).thenS δ fun d S1 => if i < δ.length then .nx (δ.set i (some d)) S1 else .bad := rfl
def o2N (o : Option MM.Env) (S : Sto) : Fl := match o with
  | some δ => .nx δ S
  | none => .bad
@[simp] theorem o2N_some (δ) : o2N (some δ) S = .nx δ S := rfl
@[simp] theorem ap_sPar (is : List Nat) (es : ML) : sPar is es T δ S = (es T δ S).thenS δ fun ds S1 => o2N (setAll is ds δ) S1 := rfl
@[simp] theorem ap_sAsgT (is : List Nat) (e : ME) : sAsgT is e T δ S = (e T δ S).thenS δ fun w S1 => match w.any S1 with
  | some ds => o2N (setAll is ds δ) S1
  | none => .bad := rfl
@[simp] theorem ap_sSetIx (o i e : ME) : sSetIx o i e T δ S = (bnd e T δ S).thenS δ fun d S1 => (o T δ S1).thenS δ fun x S2 => (i T δ S2).thenS δ fun y S3 => match setW x y d S3 with
  | some S4 => .nx δ S4
  | none => .bad := rfl
@[simp] theorem ap_sRaise (c n : Nat) (es : ML) : sRaise c n es T δ S = (es T δ S).thenS δ fun ds S1 => if ds.length = n then .exc c ds δ S1 else .bad := rfl
@[simp] theorem ap_iE (e : ME) : iE e T δ S = (e T δ S).then fun x S1 => match x with
  | .val (.tup ds) => .ok (.items ds) S1
  | .val (.frz ds) => .ok (.items ds) S1
  | .val (.scr ds) => .ok (.items ds) S1
  | .val (.str s) => .ok (.items (signs s)) S1
  | .tmp (.lst ds) => .ok (.items ds) S1
  | .val (.loc n) => match S1[n]? with
    | some (.lst _) => .ok (.live n none) S1
    | _ => .bad
  | _ => .bad := rfl
theorem ap_sFld (f : Str) (o e : ME) : sFld f o e T δ S = (bnd e T δ S).thenS δ fun d S1 => (o T δ S1).thenS δ fun x S2 => match x with
  | .val (.loc n) => match S2[n]? with
    | some (.ins c fs) => if fs.length < 900 then .nx δ (S2.set n (.ins c (putF f d fs))) else .bad
    | _ => .bad
  | _ => .bad := rfl
theorem ap_eMeth (m : Str) (ms : List (Nat × Nat)) (o : ME) (es : ML) : eMeth m ms o es T δ S = gc S ((bnd o T δ S).then fun x S1 => match x with
  | .loc n => match S1[n]? with
    | some (.ins c fs) => match ms.lookup c, lookF m fs with
      | some f, none => (es T δ S1).then fun ds S2 => T f (.loc n :: ds) S2
      | _, _ => .bad
    | _ => .bad
  | _ => .bad) := rfl
theorem ap_eNew (c f : Nat) (es : ML) : eNew c f es T δ S = (es T δ S).then fun ds S1 => (T f (.loc S1.length :: ds) (S1 ++ [.ins c []])).nox.then fun w S2 => match w with
  | .val .non => .ok (.val (.loc S1.length)) S2
  | _ => .bad := rfl
theorem ap_iRange1 (hi : ME) : iRange1 hi T δ S = (hi T δ S).then fun b S2 => match b with
  | .val (.int j) => if small62 j = true then .ok (.items (span 0 j.toNat)) S2 else .bad
  | _ => .bad := rfl
theorem ap_sFor (it : MI) (g : Tg) (body : MS) : sFor it g body T δ S = (it T δ S).thenS δ fun src S1 => match src with
  | .items ds => loopI g (body T) ds δ S1
  | .live n en => loopL g (body T) n en (lenAt n S1) 0 δ S1 := rfl
@[simp] theorem ap_eFld (f : Str) (o : ME) : eFld f o T δ S = (o T δ S).then fun x S1 => match x with
  | .val (.loc n) => match S1[n]? with
    | some (.ins _ fs) => match lookF f fs with
      | some d => .ok (.val d) S1
      | none => .bad
    | _ => .bad
  | _ => .bad := rfl
@[simp] theorem ap_eEff1 (f : E1) (a : ME) : eEff1 f a T δ S = (a T δ S).then fun x S1 => match f x S1 with
  | some (w, S2) => .ok w S2
  | none => .bad := rfl
@[simp] theorem ap_eEff2 (chk : W → Sto → Bool) (f : E2) (a b : ME) : eEff2 chk f a b T δ S = (a T δ S).then fun x S1 => if chk x S1 = true then (b T δ S1).then fun y S2 => match f x y S2 with
    | some (w, S3) => .ok w S3
    | none => .bad
  else .bad := rfl
@[simp] theorem bAdd_int (i j : Int) : bAdd (.val (.int i)) (.val (.int j)) S = some (.val (.int (i + j))) := rfl
theorem bAdd_tup (a b : List D) (h : a.length + b.length ≤ sizeLine) : bAdd (.val (.tup a)) (.val (.tup b)) S = some (.val (.tup (a ++ b))) := by simp [bAdd, h]
theorem bAdd_tmp (a b : List D) (h : a.length + b.length ≤ sizeLine) : bAdd (.tmp (.lst a)) (.tmp (.lst b)) S = some (.tmp (.lst (a ++ b))) := by simp [bAdd, W.lr, h]
theorem bAdd_tl {n : Nat} {b : List D} (a : List D) (hb : S[n]? = some (.lst b)) (h : a.length + b.length ≤ sizeLine) : bAdd (.tmp (.lst a)) (.val (.loc n)) S = some (.tmp (.lst (a ++ b))) := by simp [bAdd, W.lr, hb, h]
@[simp] theorem uTuple_tmp (a : List D) : uTuple (.tmp (.lst a)) S = some (.val (.tup a)) := rfl
@[simp] theorem bSub_int (i j : Int) : bSub (.val (.int i)) (.val (.int j)) S = some (.val (.int (i - j))) := rfl
theorem bMul_l (i j : Int) (h : i.natAbs < 18446744073709551616) : bMul (.val (.int i)) (.val (.int j)) S = some (.val (.int (i * j))) := by
  have : (small64 i || small64 j) = true := by unfold small64; rw [decide_eq_true h]; rfl
  unfold bMul
  dsimp only
  rw [if_pos this]
theorem bMul_r (i j : Int) (h : j.natAbs < 18446744073709551616) : bMul (.val (.int i)) (.val (.int j)) S = some (.val (.int (i * j))) := by
  have : (small64 i || small64 j) = true := by unfold small64; rw [decide_eq_true h, Bool.or_true]
  unfold bMul
  dsimp only
  rw [if_pos this]
theorem log2_small {n : Nat} (h : n < 18446744073709551616) : n.log2 < 9000 := by
  by_cases h0 : n = 0
  · subst h0; decide
  · have : n.log2 < 64 := (Nat.log2_lt h0).mpr (by simpa using h)
    omega
@[simp] theorem bDiv_64 (i j : Int) (h1 : 0 < j) (h2 : j < 18446744073709551616) : bDiv (.val (.int i)) (.val (.int j)) S = some (.val (.int (i / j))) := by
  unfold bDiv
  dsimp only
  rw [if_pos ⟨h1, log2_small (by omega)⟩]
@[simp] theorem clean_int (L : Nat) (i : Int) : (D.int i).clean L = true := (by unfold D.clean; exact rfl)
@[simp] theorem clean_str (L : Nat) (i : Str) : (D.str i).clean L = true := (by unfold D.clean; exact rfl)
@[simp] theorem clean_bl (L : Nat) (i : Bool) : (D.bl i).clean L = true := (by unfold D.clean; exact rfl)
@[simp] theorem clean_non (L : Nat) : D.non.clean L = true := (by unfold D.clean; exact rfl)
@[simp] theorem clean_tup (L : Nat) (ds : List D) : (D.tup ds).clean L = cleanL L ds := (by rw [D.clean])
@[simp] theorem clean_nil (L : Nat) : cleanL L [] = true := (by rw [cleanL])
@[simp] theorem clean_cons (L : Nat) (d : D) (ds : List D) : cleanL L (d :: ds) = (d.clean L && cleanL L ds) := (by rw [cleanL])
@[simp] theorem clean_lst (L : Nat) (ds : List D) : (O.lst ds).clean L = cleanL L ds := (by rw [O.clean])
@[simp] theorem bMod_int (i j : Int) : bMod (.val (.int i)) (.val (.int j)) S = if 0 < j then some (.val (.int (i % j))) else none := rfl
@[simp] theorem eqW_int (i j : Int) : eqW (.val (.int i)) (.val (.int j)) S = some (decide (i = j)) := rfl
@[simp] theorem eqW_str (i j : Str) : eqW (.val (.str i)) (.val (.str j)) S = some (decide (i = j)) := rfl
@[simp] theorem cLt_int (i j : Int) : cLt (.val (.int i)) (.val (.int j)) S = some (decide (i < j)) := rfl
@[simp] theorem cLe_int (i j : Int) : cLe (.val (.int i)) (.val (.int j)) S = some (decide (i ≤ j)) := rfl
@[simp] theorem cGt_int (i j : Int) : cGt (.val (.int i)) (.val (.int j)) S = some (decide (j < i)) := rfl
@[simp] theorem cGe_int (i j : Int) : cGe (.val (.int i)) (.val (.int j)) S = some (decide (j ≤ i)) := rfl
@[simp] theorem bC_ap (f : C2) (x y : W) : bC f x y S = (f x y S).map fun b => .val (.bl b) := by unfold bC; cases f x y S <;> rfl
@[simp] theorem cNot_ap (f : C2) (x y : W) : cNot f x y S = (f x y S).map fun b => !b := by unfold cNot; cases f x y S <;> rfl
@[simp] theorem truth_bl (b : Bool) : (W.val (.bl b)).truth S = some b := rfl
@[simp] theorem bIx_tup (ds : List D) (i : Int) : bIx (.val (.tup ds)) (.val (.int i)) S = (atI ds i).map .val := rfl
@[simp] theorem bIx_tmp (ds : List D) (i : Int) : bIx (.tmp (.lst ds)) (.val (.int i)) S = (atI ds i).map .val := rfl
theorem bIx_loc {n : Nat} {ds : List D} (h : S[n]? = some (.lst ds)) (i : Int) : bIx (.val (.loc n)) (.val (.int i)) S = (atI ds i).map .val := by
  simp [bIx, W.lq, h]
@[simp] theorem uInt_int (i : Int) : uInt (.val (.int i)) S = some (.val (.int i)) := rfl
@[simp] theorem uInt_bl (b : Bool) : uInt (.val (.bl b)) S = some (.val (.int (if b then 1 else 0))) := rfl
@[simp] theorem uAbs_int (i : Int) : uAbs (.val (.int i)) S = some (.val (.int (if i < 0 then -i else i))) := rfl
@[simp] theorem uLen_tup (ds : List D) : uLen (.val (.tup ds)) S = some (.val (.int ds.length)) := rfl
@[simp] theorem uLen_tmp (ds : List D) : uLen (.tmp (.lst ds)) S = some (.val (.int ds.length)) := rfl
theorem uLen_loc {n : Nat} {ds : List D} (h : S[n]? = some (.lst ds)) : uLen (.val (.loc n)) S = some (.val (.int ds.length)) := by
  simp [uLen, W.any, W.tq, W.lq, h]
theorem lm_loc {n : Nat} {ds : List D} (h : S[n]? = some (.lst ds)) : (W.val (.loc n)).lm S = some ds := by simp [W.lm, h]
theorem lq_loc {n : Nat} {ds : List D} (h : S[n]? = some (.lst ds)) : (W.val (.loc n)).lq S = some ds := by simp [W.lq, h]
@[simp] theorem atI_1 {α : Type} (x y : α) (xs : List α) : atI (x :: y :: xs) 1 = some y := by
  rw [show (1 : Int) = ((1 : Nat) : Int) from rfl]
  exact atI_nat rfl
@[simp] theorem atI_2 {α : Type} (x y z : α) (xs : List α) : atI (x :: y :: z :: xs) 2 = some z := by
  rw [show (2 : Int) = ((2 : Nat) : Int) from rfl]
  exact atI_nat rfl
theorem cut_from {α : Type} (xs : List α) (k : Nat) (h : k ≤ xs.length) : cut xs (some (k : Int)) none = xs.drop k := by
  unfold cut
  rw [HT.sIx_nat, HT.sIx_none, Nat.min_eq_left h]
  rw [List.take_of_length_le (by simp)]
theorem cut_to {α : Type} (xs : List α) (k : Nat) : cut xs none (some (k : Int)) = xs.take k := by
  unfold cut
  rw [HT.sIx_nat, HT.sIx_none]
  simp [List.take_eq_take_iff]
@[simp] theorem cut_1 {α : Type} (x : α) (xs : List α) : cut (x :: xs) (some 1) none = xs := cut_from (x :: xs) 1 (by simp)
@[simp] theorem slW_tup (ds : List D) (lo hi : Option Int) : slW (.val (.tup ds)) lo hi S = some (.val (.tup (cut ds lo hi))) := rfl
theorem slW_loc {n : Nat} {ds : List D} (h : S[n]? = some (.lst ds)) (lo hi : Option Int) : slW (.val (.loc n)) lo hi S = some (.tmp (.lst (cut ds lo hi))) := by
  unfold slW
  simp [lq_loc h]
@[simp] theorem slW_frz (ds : List D) (lo hi : Option Int) : slW (.val (.frz ds)) lo hi S = some (.tmp (.lst (cut ds lo hi))) := rfl
@[simp] theorem slW_tmp (ds : List D) (lo hi : Option Int) : slW (.tmp (.lst ds)) lo hi S = some (.tmp (.lst (cut ds lo hi))) := rfl
@[simp] theorem atI_0 {α : Type} (x : α) (xs : List α) : atI (x :: xs) 0 = some x := by
  rw [show (0 : Int) = ((0 : Nat) : Int) from rfl]
  exact atI_nat rfl
theorem ap_eLc (it : MI) (vs : List Nat) (g : Tg) (t : MT) (elt : ME) : eLc it vs g t elt T δ S = (it T δ S).then fun src S1 =>
  (match src with
    | .items ds => if ds.length ≤ sizeLine then compI g (t T) (bnd elt T) (wipeD δ vs) ds S1 else .bad
    | .live n en => if lenAt n S1 ≤ sizeLine then compL g (t T) (bnd elt T) (wipeD δ vs) n en (lenAt n S1) 0 S1 else .bad).then fun ys S2 => .ok (.tmp (.lst ys)) S2 := rfl
@[simp] theorem nox_ok {α : Type} (a : α) (S : Sto) : (R.ok a S).nox = .ok a S := rfl
@[simp] theorem ty_bi : (Ty.bool == Ty.int) = false := by decide
@[simp] theorem uIs_tup (t : Ty) (ds : List D) : uIs t (.val (.tup ds)) S = some (.val (.bl (t == .tuple))) := rfl
@[simp] theorem uIs_str (t : Ty) (s : Str) : uIs t (.val (.str s)) S = some (.val (.bl (t == .str))) := rfl
@[simp] theorem uIs_int (t : Ty) (s : Int) : uIs t (.val (.int s)) S = some (.val (.bl (t == .int))) := rfl
@[simp] theorem uIs_bl (t : Ty) (s : Bool) : uIs t (.val (.bl s)) S = some (.val (.bl (t == .bool || t == .int))) := rfl
theorem small62_ok {n : Nat} (hn : n ≤ 1000000) : small62 (n : Int) = true := by
  unfold small62
  exact decide_eq_true (by omega)
theorem range1_ok {hi : ME} {n : Nat} {S' : Sto} (h : hi T δ S = .ok (.val (.int n)) S') (hn : n ≤ 1000000) : iRange1 hi T δ S = .ok (.items (span 0 n)) S' := by
  rw [ap_iRange1, h]
  simp only [then_ok, small62_ok hn, if_true, Int.toNat_natCast]
theorem sFor_items {it : MI} {g : Tg} {body : MS} {ds : List D} {S' : Sto} (h : it T δ S = .ok (.items ds) S') : sFor it g body T δ S = loopI g (body T) ds δ S' := by
  rw [ap_sFor, h]; rfl
theorem atI_get {α : Type} {xs : List α} {i : Nat} (h : i < xs.length) : atI xs (i : Int) = some xs[i] := atI_nat (List.getElem?_eq_getElem h)
theorem pop_loc {n : Nat} {ds : List D} {d : D} (h : S[n]? = some (.lst (ds ++ [d]))) : fPop (.val (.loc n)) S = some (.val d, S.set n (.lst ds)) := by
  simp [fPop, h]
theorem app_loc {n : Nat} {ds : List D} {d : D} (h : S[n]? = some (.lst ds)) (hl : ds.length < sizeLine) : fAppend (.val (.loc n)) (.val d) S = some (.val .non, S.set n (.lst (ds ++ [d]))) := by
  simp [fAppend, h, hl]
theorem ext_loc {n : Nat} {ds es : List D} (h : S[n]? = some (.lst ds)) (hl : ds.length + es.length ≤ sizeLine) : fExtend (.val (.loc n)) (.tmp (.lst es)) S = some (.val .non, S.set n (.lst (ds ++ es))) := by
  simp [fExtend, h, hl, W.lr]
theorem isL_loc {n : Nat} {ds : List D} (h : S[n]? = some (.lst ds)) : isL (.val (.loc n)) S = true := by
  simp [isL, W.lm, h]
/-! ### calls -/
theorem Kept.app (X : Sto) : Kept S (S ++ X) := ⟨by simp, fun n hn => .inl (List.getElem?_append_left hn)⟩
theorem Kept.rfl' : Kept S S := ⟨Nat.le_refl _, fun _ _ => .inl rfl⟩
@[simp] theorem gc_val {d : D} (X : Sto) (h : d.clean S.length = true) : gc S (.ok (.val d) (S ++ X)) = .ok (.val d) S := by
  unfold gc
  simp [h, Kept.app X]
@[simp] theorem gc_val0 {d : D} (h : d.clean S.length = true) : gc S (.ok (.val d) S) = .ok (.val d) S := by
  have := gc_val [] h
  rwa [List.append_nil] at this
@[simp] theorem gc_tmp {o : O} (X : Sto) (h : o.clean S.length = true) : gc S (.ok (.tmp o) (S ++ X)) = .ok (.tmp o) S := by
  unfold gc
  simp [h, Kept.app X]
@[simp] theorem gc_tmp0 {o : O} (h : o.clean S.length = true) : gc S (.ok (.tmp o) S) = .ok (.tmp o) S := by
  have := gc_tmp [] h
  rwa [List.append_nil] at this
theorem gc_loc {o : O} (X : Sto) {n : Nat} (hn : S.length ≤ n) (ho : (S ++ X)[n]? = some o) (h : o.clean S.length = true) : gc S (.ok (.val (.loc n)) (S ++ X)) = .ok (.tmp o) S := by
  unfold gc
  simp only [Kept.app X, if_true, D.clean, ho, h]
  rw [if_neg (by simp; omega)]
  simp
@[simp] theorem gc_exc {c : Nat} {ds : List D} (X : Sto) (h : cleanL S.length ds = true) : gc S (.exc c ds (S ++ X)) = .exc c ds S := by
  unfold gc
  simp [h, Kept.app X]
@[simp] theorem gc_exc0 {c : Nat} {ds : List D} (h : cleanL S.length ds = true) : gc S (.exc c ds S) = .exc c ds S := by
  have := gc_exc (c := c) (ds := ds) (S := S) [] h
  rwa [List.append_nil] at this
theorem sem_eq {fs : List Fd} {k i : Nat} {f : Fd} {ds : List D} (h : fs[i]? = some f) (hl : ds.length = f.pars) : sem fs (k + 1) i ds S = gc S (fin (f.body (sem fs k) (begin f ds) S)) := by
  show (match fs[i]? with | some f => _ | none => _) = _
  rw [h]
  simp [hl]
@[simp] theorem seq_o2N (δ b) : (o2N (some δ) S).seq b = b δ S := rfl
/-- a call that changes the store: what it changed names nothing new -/
theorem gc_kept {d : D} {S' : Sto} (hk : Kept S S') (h : d.clean S.length = true) : gc S (.ok (.val d) S') = .ok (.val d) (S'.take S.length) := by
  unfold gc
  simp [hk, h]
theorem gc_keptT {o : O} {S' : Sto} (hk : Kept S S') (h : o.clean S.length = true) : gc S (.ok (.tmp o) S') = .ok (.tmp o) (S'.take S.length) := by
  unfold gc
  simp [hk, h]
theorem gc_keptL {o : O} {S' : Sto} {n : Nat} (hk : Kept S S') (hn : S.length ≤ n) (ho : S'[n]? = some o) (h : o.clean S.length = true) : gc S (.ok (.val (.loc n)) S') = .ok (.tmp o) (S'.take S.length) := by
  unfold gc
  simp only [hk, if_true, D.clean, ho, h]
  rw [if_neg (by simp; omega)]
theorem gc_keptX {c : Nat} {ds : List D} {S' : Sto} (hk : Kept S S') (h : cleanL S.length ds = true) : gc S (.exc c ds S') = .exc c ds (S'.take S.length) := by
  unfold gc
  simp [hk, h]
/-- a call that keeps the store's length: its own changes stay -/
theorem gc_len {d : D} {S' : Sto} (hl : S'.length = S.length) (h : d.clean S.length = true) : gc S (.ok (.val d) S') = .ok (.val d) S' := by
  have e : S'.take S.length = S' := by rw [← hl]; exact List.take_length
  unfold gc
  simp only [h, if_true, e]
  split <;> rfl
/-! ### loops -/
theorem loopI_inv {g : Tg} {body : MM.Env → Sto → Fl} {P : Nat → MM.Env → Sto → Prop} : ∀ {ds : List D} {k : Nat} {δ : MM.Env} {S : Sto}, P k δ S →
    (∀ i d δ S, ds[i]? = some d → P (k + i) δ S → ∃ δ1 δ2 S2, g d δ = some δ1 ∧ (body δ1 S = .nx δ2 S2 ∨ body δ1 S = .ct δ2 S2) ∧ P (k + i + 1) δ2 S2) →
    ∃ δ' S', loopI g body ds δ S = .nx δ' S' ∧ P (k + ds.length) δ' S'
  | [], k, δ, S, h, _ => ⟨δ, S, rfl, h⟩
  | d :: ds, k, δ, S, h, st => by
    obtain ⟨δ1, δ2, S2, h1, h2, h3⟩ := st 0 d δ S rfl h
    obtain ⟨δ', S', e, q⟩ := loopI_inv (k := k + 1) (ds := ds) h3 fun i d δ S hi hp => by
      have := st (i + 1) d δ S (by simpa using hi) (by rw [show k + (i + 1) = k + 1 + i by omega]; exact hp)
      rw [show k + (i + 1) + 1 = k + 1 + i + 1 by omega] at this
      exact this
    refine ⟨δ', S', ?_, by rw [List.length_cons, show k + (ds.length + 1) = k + 1 + ds.length by omega]; exact q⟩
    unfold loopI
    rw [h1]
    rcases h2 with h2 | h2 <;> simp only [h2] <;> exact e
theorem loopL_inv {g : Tg} {body : MM.Env → Sto → Fl} {n : Nat} {ds : List D} {P : Nat → MM.Env → Sto → Prop} (hP : ∀ i δ S, P i δ S → S[n]? = some (.lst ds))
    (st : ∀ i d δ S, ds[i]? = some d → P i δ S → ∃ δ1 δ2 S2, g d δ = some δ1 ∧ (body δ1 S = .nx δ2 S2 ∨ body δ1 S = .ct δ2 S2) ∧ P (i + 1) δ2 S2) :
    ∀ {fuel k : Nat} {δ : MM.Env} {S : Sto}, k + fuel = ds.length → P k δ S → ∃ δ' S', loopL g body n none fuel k δ S = .nx δ' S' ∧ P ds.length δ' S'
  | 0, k, δ, S, hk, h => by
    refine ⟨δ, S, ?_, by rw [← hk]; exact h⟩
    unfold loopL liveAt
    simp [hP k δ S h, List.getElem?_eq_none (show ds.length ≤ k by omega)]
  | fuel + 1, k, δ, S, hk, h => by
    have hlt : k < ds.length := by omega
    obtain ⟨δ1, δ2, S2, h1, h2, h3⟩ := st k ds[k] δ S (List.getElem?_eq_getElem hlt) h
    obtain ⟨δ', S', e, q⟩ := loopL_inv hP st (fuel := fuel) (k := k + 1) (by omega) h3
    refine ⟨δ', S', ?_, q⟩
    unfold loopL liveAt
    simp only [hP k δ S h, List.getElem?_eq_getElem hlt, Option.map_some]
    rw [h1]
    rcases h2 with h2 | h2 <;> simp only [h2] <;> exact e
theorem compI_inv {g : Tg} {t : MM.Env → Sto → R Bool} {elt : MM.Env → Sto → R D} {δ : MM.Env} {P : Sto → Prop} {Q : D → Prop} (st : ∀ d S, P S → ∃ δ1 x S2, g d δ = some δ1 ∧ t δ1 S = .ok true S ∧ elt δ1 S = .ok x S2 ∧ P S2 ∧ Q x) :
    ∀ {ds : List D} {S : Sto}, P S → ∃ xs S', compI g t elt δ ds S = .ok xs S' ∧ P S' ∧ xs.length = ds.length ∧ ∀ x ∈ xs, Q x
  | [], S, h => ⟨[], S, rfl, h, rfl, by simp⟩
  | d :: ds, S, h => by
    obtain ⟨δ1, x, S2, h1, h2, h3, h4, h5⟩ := st d S h
    obtain ⟨xs, S', e, q, hl, hq⟩ := compI_inv st (ds := ds) h4
    refine ⟨x :: xs, S', ?_, q, by simp [hl], fun y hy => ?_⟩
    · unfold compI
      simp [h1, h2, h3, e]
    · rcases List.mem_cons.mp hy with rfl | hy
      · exact h5
      · exact hq y hy
theorem span_get {n i : Nat} {d : D} (h : (span 0 n)[i]? = some d) : d = .int i ∧ i < n := by
  unfold span at h
  rw [List.getElem?_map] at h
  obtain ⟨j, h1, h2⟩ := Option.map_eq_some_iff.mp h
  have hi : i < n := by
    have := (List.getElem?_eq_some_iff.mp h1).1
    simpa using this
  rw [List.getElem?_eq_getElem (by simpa using hi), List.getElem_range] at h1
  cases h1
  refine ⟨?_, hi⟩
  rw [← h2]
  simp
@[simp] theorem span_len (lo : Int) (n : Nat) : (span lo n).length = n := by simp [span]
end
end MM
set_option maxRecDepth 100000
set_option maxHeartbeats 2000000
/-! MN, part A: any, all of a generator expression over anything that PI serves, the element any expression that gives a truth. -/
namespace MN
open PySem PySem.Spec PyProof.Rows L2 GenW

/-- the generator's frame, woken by any's or all's loop -/
abbrev gxc (X : Cx) (s : Shared) (H : Hp) (cenv : Env) (fp : List Addr) (pn : List (Addr × Obj)) : Cx :=
  { X with A := X.A.in1.in1.deeper cenv, s_0 := s, H_0 := H, env := cenv, outer := X.stack, stack := cenv :: X.stack, ex := fp, fn := fun _ => false, pn := pn, xe := fun _ _ => False }

section
variable {X : Cx} {pins : List (Addr × Obj)} {σ : L2.St} {H : Hp} {s : Shared}
theorem over_gx {A : Around} {elt : Expr} {gs : List Comprehension} {scope : Scope} {pos : Pos} {it acc : Value} {env : Env} : A.over (.compLoop (.GeneratorExp elt gs scope pos) 0 it acc env) [] = A.deeper env := by
  first
    | rfl
    | (obtain ⟨hd, d, fr, gs, u⟩ := A; simp [Around.over, Around.deeper, marksOver, frameCount, unitsOf, envsOf, guardsOf, pushEnvs, pushGuards, Code.envs, Code.env?, Code.isFrame, Code.guards, Code.isGuard, Code.weight, Code.frames, Code.isCreation, Code.isCaller, Code.cUnits])
theorem over_gx0 {A : Around} {elt : Expr} {gs : List Comprehension} {scope : Scope} {pos : Pos} {it acc : Value} {env : Env} : A.over (.compStart (.GeneratorExp elt gs scope pos) 0 it acc env) [] = A.deeper env := by
  first
    | rfl
    | (obtain ⟨hd, d, fr, gs, u⟩ := A; simp [Around.over, Around.deeper, marksOver, frameCount, unitsOf, envsOf, guardsOf, pushEnvs, pushGuards, Code.envs, Code.env?, Code.isFrame, Code.guards, Code.isGuard, Code.weight, Code.frames, Code.isCreation, Code.isCaller, Code.cUnits])

/-- the frame as it is made -/
theorem gx_start {scope : Scope} {own : List (Str × Nat)} {fp : List Addr} {code itv : Value} {h' : Heap} {go fo : Obj} {G : Array GenState} {tk : Nat} (I : Inv X pins σ H s) (ok : BlkOk X.N X.env.scope scope own) (hcell : ∀ y ∈ scope.names, y.2 ≠ .cell) (hN : X.N.Nodup) (hfp : ∀ b ∈ fp, FpOk X pins H b ∧ b < s.heap.objs.size)
    (hns : h'.Ns s.heap.objs.size (fun y => if y = ".0" then some itv else none)) (hs : Heap.SameBut s.heap.objs.size (s.heap.push fo) h') (hG : AllBare G) (hgo : (h'.push go).get? h'.objs.size = some go) (hgd : ∀ v, go.data ≠ .cell v) :
    Inv (gxc X s H (genEnv scope (cloFrom X.env.cells scope.names []) s.heap.objs.size code builtinsNs X.env) fp [(h'.objs.size, go)]) [] (wipe σ (own.map (·.2))) H { s with gens := G, toks := tk, heap := h'.push go } := by
  have hfree : ∀ y ∈ scope.names, y.2 = .free → ∃ c, X.env.cells.lookup y.1 = some c := fun y hy e => by
    rcases ok.free y hy e with k | k
    · exact I.ok.has _ (.inl k)
    · exact I.ok.has _ (.inr k)
  have hsz : h'.objs.size = s.heap.objs.size + 1 := by rw [hs.1, Heap.size_push]
  have kp : ∀ b o, s.heap.get? b = some o → (h'.push go).get? b = some o := fun b o e =>
    Heap.get?_push_of_some _ (hs.extBut b o (Nat.ne_of_lt (Heap.lt_size e)) (Heap.get?_push_of_some _ e))
  have cm : ∀ {y c}, (y, c) ∈ cloFrom X.env.cells scope.names [] → X.env.cells.lookup y = some c ∧ c < s.heap.objs.size ∧ (y, NameKind.free) ∈ scope.names := fun {y c} hm => by
    rcases cloFrom_mem hm with hm | ⟨h1, rfl⟩
    · cases hm
    · obtain ⟨c, hc⟩ := hfree _ h1 rfl
      rw [hc]
      obtain ⟨w, z⟩ := I.cell _ _ hc
      exact ⟨rfl, z.lt, h1⟩
  have mem : ∀ {y c}, (cloFrom X.env.cells scope.names []).lookup y = some c → X.env.cells.lookup y = some c ∧ c < s.heap.objs.size ∧ (y, NameKind.free) ∈ scope.names := fun {y c} e => cm (PySem.mem_of_lookup e)
  have okB : (gxc X s H (genEnv scope (cloFrom X.env.cells scope.names []) s.heap.objs.size code builtinsNs X.env) fp [(h'.objs.size, go)]).Ok := by
    refine ⟨I.ok.mod, ok.kind, I.ok.glob, rfl, Nat.le_refl _, fun y z c e1 e2 => ?_, fun y hy => ?_, fun y c z e => (by cases z), I.ok.hd, Around.frames_deeper I.ok.frames, .inr ⟨rfl, rfl⟩, fun b hb => ⟨?_, fun y c e z => ?_⟩, I.bs, Nat.le_trans I.ok.bsz I.sz, fun b o e hb => ?_, fun b hb z => ?_, I.stack, I.stkFree⟩
    · exact I.ok.inj y z c (mem e1).1 (mem e2).1
    · have hy : scope.names.lookup y = some .cell ∨ scope.names.lookup y = some .free := hy
      rcases hy with hy | hy
      · exact absurd rfl (hcell _ (PySem.mem_of_lookup hy))
      · obtain ⟨c', e'⟩ := mem_lookup (cloFrom_has (cells := X.env.cells) (acc := []) (PySem.mem_of_lookup hy))
        exact ⟨c', e'⟩
    · exact Nat.ne_of_lt (hfp b hb).2
    · exact (hfp b hb).1.2.2.2.2.1 y c (mem e).1 z
    · rcases (hfp b hb).1.2.2.2.1 with z | z
      · exact I.ok.noex b o e z
      · exact absurd (Nat.lt_of_lt_of_le (Heap.lt_size e) (Nat.le_trans I.ok.bsz z)) (Nat.lt_irrefl _)
    · rcases List.mem_cons.mp (I.stkSub b z) with z | z
      · exact (hfp b hb).1.2.1 z
      · exact (hfp b hb).1.2.2.1 z
  refine ⟨okB, rfl, hG, Un.kept kp, ⟨_, hns.push _, fun i y av e1 e2 e3 => ?_⟩, fun y c e => ?_, ?_, fun y c e => ?_, fun p hp => ?_, I.hok.kept kp, by rw [wipe_length]; exact I.len⟩
  · obtain ⟨e2, hne⟩ := wipe_some e2
    have hfr : scope.names.lookup y = some .free := by
      have no : ∀ k', scope.names.lookup y = some k' → ¬ (k' = .local ∨ k' = .cell) := fun k' e hh => by
        rcases ok.own _ (PySem.mem_of_lookup e) hh with e' | e'
        · obtain ⟨p, hp, hpy⟩ := List.mem_map.mp e'
          have e3 := ok.ix p hp
          have : p.1 = y := hpy
          rw [this] at e3
          exact hne (List.mem_map.mpr ⟨p, hp, nodup_ix hN e3 e1⟩)
        · exact e' (List.mem_of_getElem? e1)
      have e3 : Vis scope y := e3
      rcases e3 with e3 | e3 | e3
      · exact absurd (.inl rfl) (no _ e3)
      · exact absurd (.inr rfl) (no _ e3)
      · exact e3
    obtain ⟨m, hn, hl⟩ := I.loc
    have hvis : Vis X.env.scope y := (ok.free _ (PySem.mem_of_lookup hfr) rfl).elim (fun k => .inr (.inl k)) (fun k => .inr (.inr k))
    obtain ⟨w, r, q⟩ := hl i y av e1 e2 hvis
    refine ⟨w, r, .inr ⟨.inr hfr, ?_⟩⟩
    obtain ⟨c', e'⟩ := mem_lookup (cloFrom_has (cells := X.env.cells) (acc := []) (PySem.mem_of_lookup hfr))
    obtain ⟨h2, _, _⟩ := mem e'
    rcases q with ⟨k, _⟩ | ⟨_, c', e', z⟩
    · have k : X.env.scope.names.lookup y = some .local := k
      rcases ok.free _ (PySem.mem_of_lookup hfr) rfl with k' | k' <;> rw [show X.env.scope.names.lookup y = _ from k'] at k <;> cases k
    · rw [h2] at e'; cases e'
      exact ⟨_, by assumption, z.keeps kp⟩
  · obtain ⟨h1, _, _⟩ := mem e
    obtain ⟨w, z⟩ := I.cell y c h1
    exact ⟨w, z.keeps kp⟩
  · exact I.hok.fresh (Nat.le_refl _)
  · exact I.freeC y c (mem e).1
  · have hp : p = (h'.objs.size, go) := by simpa using hp
    subst hp
    have hge : s.heap.objs.size ≤ h'.objs.size := by omega
    refine ⟨hgo, I.hok.fresh hge, ?_, ?_, hgd⟩
    · show h'.objs.size ≠ s.heap.objs.size
      omega
    · intro z
      rcases List.mem_cons.mp (I.stkSub _ z) with z | z
      · have h9 := I.lt
        rw [← z] at h9
        exact absurd (Nat.lt_of_lt_of_le h9 hge) (Nat.lt_irrefl _)
      · exact I.nofs hge z

/-- any (dflt false) or all (dflt true): J the turns, W by the turn and a measure -/
def tAgg (P : Addr) (dflt : Bool) (wi : TI) (g : TG) (tt : TT) (te : TE) (vs : List Nat) : TE := fun σ H Q => wi σ H fun J H1 => GxR.TabG H1 P ∧ ∀ H1', GxR.Tabbed P H1 H1' → ∃ W : Nat → Nat → Hp → Prop, (∃ m, W 0 m H1') ∧ ∀ i m H, W i m H →
  (J.stop i H ∧ Q (.bl dflt) H) ∨ (J.go i H ∧ ∃ Nx : Hp → Prop, (∀ H', Nx H' → ∃ m', m' < m ∧ W (i + 1) m' H') ∧ ∀ x H', J.yld i H x H' → g x (wipe σ vs) H' fun σ2 H2 => wipe σ2 vs = wipe σ vs ∧ tt σ2 H2 fun b H3 =>
    if b = true then te σ2 H3 fun y H4 => ∃ c, y = .bl c ∧ if c = dflt then Nx H4 else Q (.bl c) H4 else Nx H3)
def GRb (Xg : Cx) (τ : L2.St) (Qd : Hp → Prop) : GenEnd := fun _ _ r s => r = .ok .next ∧ ∃ H, Inv Xg [] τ H s ∧ Qd H
def GYb (Xg : Cx) (τ : L2.St) (dflt : Bool) (Qb : Bool → Hp → Prop) : Protocol := fun _ _ v s kap => ∃ b H, v = .bool b ∧ Inv Xg [] τ H s ∧
  if b = dflt then ∀ s' : Shared, s'.heap = s.heap → s'.os = s.os → AllBare s'.gens → kap (.send .none) s' else Qb b H
theorem inv_same {τ : L2.St} {s' : Shared} (I : Inv X pins τ H s) (hh : s'.heap = s.heap) (ho : s'.os = s.os) (hb : AllBare s'.gens) : Inv X pins τ H s' :=
  ⟨I.ok, ho.trans I.os, hb, by rw [hh]; exact I.base, by rw [hh]; exact I.loc, by rw [hh]; exact I.cell, I.free, I.freeC, by rw [hh]; exact I.pin, by rw [hh]; exact I.hok, I.len⟩

/-- the loop within the frame -/
theorem seg_gx {A : Around} {Xg : Cx} {σ0 : L2.St} {vs : List Nat} {dflt : Bool} {elt tg iter : Expr} {ifs : List Expr} {scope : Scope} {pos : Pos} {it : Addr} {fp : List Addr} {tn : Nat → Heap → Prop} {J : It} {g : TG} {tt : TT} {te : TE} {Q : VK} {W : Nat → Nat → Hp → Prop}
    (hA : A.deeper Xg.env = Xg.A) (hx : Xg.xe = fun _ _ => False) (hpn : ∀ b ∈ fp, ∀ p ∈ Xg.pn, p.1 ≠ b) (hex : Xg.ex = fp) (hc : Xg.calm = true) (hco : Xg.env.scope.isCoroutine = false) (T : Turn Xg.prog Xg.w Xg.K tg J fp it tn) (pg : PG Xg tg g) (pt : PTs Xg ifs tt) (pe : PE Xg elt te)
    (turn : ∀ i m H, W i m H → (J.stop i H ∧ Q (.bl dflt) H) ∨ (J.go i H ∧ ∃ Nx : Hp → Prop, (∀ H', Nx H' → ∃ m', m' < m ∧ W (i + 1) m' H') ∧ ∀ x H', J.yld i H x H' → g x (wipe σ0 vs) H' fun σ2 H2 => wipe σ2 vs = wipe σ0 vs ∧ tt σ2 H2 fun b H3 =>
      if b = true then te σ2 H3 fun y H4 => ∃ c, y = .bl c ∧ if c = dflt then Nx H4 else Q (.bl c) H4 else Nx H3)) :
    ∀ m n i (s₀ s : Shared) (H : Hp), m < n → W i m H → Inv Xg [] (wipe σ0 vs) H s → tn i s.heap → (∀ b ∈ fp, H b = none) →
      Seg (model Xg.prog Xg.w) A (GRb Xg (wipe σ0 vs) (Q (.bl dflt))) (GYb Xg (wipe σ0 vs) dflt fun b H => Q (.bl b) H) n s₀ (.compLoop (.GeneratorExp elt [⟨tg, iter, ifs, 0⟩] scope pos) 0 (.ref it) .none Xg.env)
        ((model Xg.prog Xg.w).den (.compLoop (.GeneratorExp elt [⟨tg, iter, ifs, 0⟩] scope pos) 0 (.ref it) .none Xg.env)) [] s := by
  have stat : ∀ {σ' : L2.St} {H' : Hp} {s' : Shared}, Inv Xg [] σ' H' s' → (∀ b ∈ fp, H' b = none) → ∀ b ∈ fp, FpOk Xg [] H' b := fun {σ' H' s'} I' hn b hb =>
    have hb' : b ∈ Xg.ex := by rw [hex]; exact hb
    ⟨hn b hb, (I'.ok.exf b hb').1, I'.ok.exfs b hb', .inl hb', fun x c e => (I'.ok.exf b hb').2 x c e, fun p hp => hpn b hb p (by simpa using hp)⟩
  intro m
  induction m using Nat.strongRecOn with
  | ind m ih =>
    intro n i s₀ s H hmn w I st hn
    show Seg _ A _ _ _ s₀ _ ((compTurn (.GeneratorExp elt [⟨tg, iter, ifs, 0⟩] scope pos) 0 (.ref it) .none Xg.env).onRaise (leaving Xg.env)) [] s
    rw [compTurn_gen, Sem.onRaise_eq_wrap]
    refine seg_bind_wrap (wpAny_standAt ?_)
    rcases turn i m H w with ⟨stop, qq⟩ | ⟨go, Nx, hNx, step⟩
    · have td := T.done Xg rfl rfl rfl hc i [] s _ H (fun _ _ => False) I (stat I hn) st stop
      refine seg_bind_wrap ?_
      rw [over_gx, hA]
      refine thnF td fun r s6 ⟨hr, I6⟩ => ?_
      subst hr
      exact seg_end (.ok .next) ⟨rfl, H, I6, qq⟩
    · have ti := T.item Xg rfl rfl rfl hc i [] s _ H (fun _ _ => False) I (stat I hn) st go
      refine seg_bind_wrap ?_
      rw [over_gx, hA]
      refine thnF ti fun r s6 ⟨u, hr, h6⟩ => ?_
      subst hr
      refine seg_bind_wrap ?_
      rw [over_gx, hA]
      refine thnF h6 fun _ s7 ⟨x, H7, I7, r7, y7, st7, n7⟩ => ?_
      have I7' := I7.pinned (stat I7 n7) (T.obj _ _ st7)
      refine seg_bind_wrap ?_
      rw [over_gx, hA]
      have hg := pg.run _ s7 _ H7 x u _ I7' r7 (step x H7 y7)
      rw [hx] at hg
      refine thnF hg fun _ s8 ⟨σ8, H8, I8, hw8, q8⟩ => ?_
      refine seg_bind_wrap ?_
      rw [over_gx, hA]
      have ht := pt.run _ s8 σ8 H8 _ I8 q8
      rw [hx] at ht
      refine thnF ht fun b s9 ⟨H9, I9, q9⟩ => ?_
      have hl : (wipe σ0 vs).length = σ8.length := by rw [← hw8, wipe_length]
      have wk : ∀ {s' : Shared} {H' : Hp}, Inv Xg ([] ++ pinsAt fp s7.heap) σ8 H' s' → Inv Xg [] (wipe σ0 vs) H' s' ∧ tn (i + 1) s'.heap ∧ ∀ b ∈ fp, H' b = none := fun {s' H'} I' => by
        have pin' : ∀ b ∈ fp, ∀ o, s7.heap.get? b = some o → s'.heap.get? b = some o ∧ H' b = none := fun b hb o e =>
          let z := I'.pin (b, o) (List.mem_append_right _ (List.mem_append_right _ (mem_pinsAt hb e)))
          ⟨z.1, z.2.1⟩
        refine ⟨(I'.unpinned (pins := [])).weak hl (fun j v e => ?_), T.keep _ _ _ st7 fun b hb o e => (pin' b hb o e).1, fun b hb => ?_⟩
        · rw [← hw8] at e
          exact (wipe_some e).1
        · obtain ⟨o, e, _⟩ := T.obj _ _ st7 b hb
          exact (pin' b hb o e).2
      cases b with
      | false =>
        simp only [Bool.false_eq_true, if_false] at q9 ⊢
        obtain ⟨m', hm, w'⟩ := hNx H9 q9
        obtain ⟨z1, z2, z3⟩ := wk I9
        exact seg_again rfl (ih m' hm n (i + 1) _ _ H9 (by omega) w' z1 z2 z3)
      | true =>
        simp only [if_true] at q9 ⊢
        have hy : ∀ v, yieldOut Xg.env v = yieldValue v := fun v => by simp only [yieldOut, hco, Bool.false_eq_true, if_false]
        simp only [hy]
        rw [Sem.bind_eq_wrap', Sem.bind_eq_wrap', Sem.wrap_wrap, Sem.wrap_wrap]
        refine seg_wrap ?_
        rw [over_gx, hA]
        have he := pe.run _ s9 σ8 H9 _ I9 q9
        rw [hx] at he
        refine thnF he fun yv s10 ⟨z, H10, I10, r10, c, ez, q10⟩ => ?_
        subst ez
        obtain rfl : yv = Value.bool c := r10
        obtain ⟨z1, z2, z3⟩ := wk I10
        refine seg_at ?_
        by_cases hcd : c = dflt
        · rw [if_pos hcd] at q10
          obtain ⟨m', hm, w'⟩ := hNx H10 q10
          obtain ⟨n, rfl⟩ : ∃ k, n = k + 1 := ⟨n - 1, by omega⟩
          refine seg_yield rfl rfl rfl ⟨c, H10, rfl, z1, ?_⟩
          rw [if_pos hcd]
          intro s' hh ho hb
          refine seg_again rfl (ih m' hm n (i + 1) _ _ H10 (by omega) w' (inv_same z1 hh ho hb) (by rw [hh]; exact z2) z3)
        · rw [if_neg hcd] at q10
          obtain ⟨n, rfl⟩ : ∃ k, n = k + 1 := ⟨n - 1, by omega⟩
          refine seg_yield rfl rfl rfl ⟨c, H10, rfl, z1, ?_⟩
          rw [if_neg hcd]
          exact q10

theorem inv_keep {τ : L2.St} {s' : Shared} (I : Inv X pins τ H s) (hk : ∀ b o, s.heap.get? b = some o → s'.heap.get? b = some o) (ho : s'.os = s.os) (hb : AllBare s'.gens) : Inv X pins τ H s' :=
  I.call' (ch := []) ho (Un.kept hk) (I.hok.kept hk) hb fun b z => by simp at z

theorem bare_set {s : Shared} {g : Nat} {x : GenState} (h : AllBare s.gens) (hx : x.bare = true) : AllBare (s.setGen g x).gens := fun y hy => by
  obtain ⟨i, hi, e⟩ := Array.mem_iff_getElem.mp hy
  have hi' : i < s.gens.size := by
    have q : (s.setGen g x).gens.size = s.gens.size := setGen_size s g x
    rw [q] at hi; exact hi
  by_cases z : i = g
  · subst z
    have q : (s.setGen i x).gens[i]? = some x := by
      show (s.gens.setIfInBounds i x)[i]? = some x
      simp [hi']
    have q2 : (s.setGen i x).gens[i]? = some y := by rw [Array.getElem?_eq_getElem hi, e]
    rw [q] at q2; cases q2; exact hx
  · have q : (s.setGen g x).gens[i]? = s.gens[i]? := by
      show (s.gens.setIfInBounds g x)[i]? = _
      rw [Array.getElem?_setIfInBounds_ne (Ne.symm z)]
    have q2 : s.gens[i]? = some y := by rw [← q, Array.getElem?_eq_getElem hi, e]
    exact h y (Array.mem_of_getElem? q2)

theorem loop_any {A : Around} {Xg : Cx} {τ : L2.St} {Q : VK} {R : Result → Shared → Prop} {a g : Nat} {go : Obj} (hh : A.handled = none) (hroom : A.depth < recursionLimit) (hgo : ∀ h : Heap, h.get? a = some go → h.IsGen a g) (hpn : (a, go) ∈ Xg.pn)
    (hR : ∀ b H s', Inv Xg [] τ H s' → Q (.bl b) H → R (.ok (.ret (.bool b))) s') :
    ∀ n (s : Shared), s.heap.get? a = some go → s.heap.NoLimit → AllBare s.gens → (∃ gs, s.gens[g]? = some gs ∧ gs.Goes (model Xg.prog Xg.w) A.in1.in1 (GRb Xg τ (Q (.bl false))) (GYb Xg τ false fun b H => Q (.bl b) H) n (.send .none) (s.setGen g .running)) →
      codeAny (model Xg.prog Xg.w) A (.builtin "any.loop" ⟨[.ref a], []⟩) R s := by
  intro n
  induction n with
  | zero =>
    intro s ha hl hb ⟨gs, hgs, hgoes⟩
    have hlt : g < s.gens.size := by
      rcases Nat.lt_or_ge g s.gens.size with z | z
      · exact z
      · rw [Array.getElem?_eq_none z] at hgs; cases hgs
    refine codeAny_builtin F.entry_any_loop ?_
    rw [Around.under_plainId F.plain_any_loop _]
    show wpAny _ A.in1 (pyNext (.ref a) >>= _) _ _ s
    refine wpAny_bind (wpAny_pyNext_genexpQ (P := fun _ _ s₁ => ∃ H, Inv Xg [] τ H s₁ ∧ Q (.bl false) H) hh hl hroom (hgo _ ha) hgs hgoes (fun v s₁ gs' hb' hv => ?_) fun s₁ hp h' hk => ?_)
    · obtain ⟨b, H, rfl, I, q⟩ := hv
      by_cases hbd : b = false
      · rw [if_pos hbd] at q
        exact (q s₁ rfl rfl I.bare).elim
      · rw [if_neg hbd] at q
        obtain rfl : b = true := by cases b <;> simp_all
        refine wpAny_bind (wpAny_holding (wpAny_truthy_bool ?_))
        refine wpAny_bind (wpAny_letGo ?_)
        simp only [if_true, Bool.false_eq_true, if_false]
        refine wpAny_bind (wpAny_rule (wpAny_pure ?_))
        exact hR true H _ (inv_keep I (fun _ _ e => e) rfl (bare_set I.bare hb')) q
    · obtain ⟨H, I, q⟩ := hp
      refine wpAny_bind (wpAny_rule (wpAny_pure ?_))
      exact hR false H _ (inv_keep I hk rfl (bare_set I.bare rfl)) q
  | succ n ih =>
    intro s ha hl hb ⟨gs, hgs, hgoes⟩
    have hlt : g < s.gens.size := by
      rcases Nat.lt_or_ge g s.gens.size with z | z
      · exact z
      · rw [Array.getElem?_eq_none z] at hgs; cases hgs
    refine codeAny_builtin F.entry_any_loop ?_
    rw [Around.under_plainId F.plain_any_loop _]
    show wpAny _ A.in1 (pyNext (.ref a) >>= _) _ _ s
    refine wpAny_bind (wpAny_gsz hlt (wpAny_pyNext_genexpQ (P := fun _ _ s₁ => ∃ H, Inv Xg [] τ H s₁ ∧ Q (.bl false) H) hh hl hroom (hgo _ ha) hgs hgoes (fun v s₁ gs' hb' hv => ?_) fun s₁ hp h' hk => ?_))
    · intro hsz
      obtain ⟨b, H, rfl, I, q⟩ := hv
      by_cases hbd : b = false
      · rw [if_pos hbd] at q
        subst hbd
        refine wpAny_bind (wpAny_holding (wpAny_truthy_bool ?_))
        refine wpAny_bind (wpAny_letGo ?_)
        simp only [if_true, Bool.false_eq_true, if_false]
        refine wpAny_pure ⟨plainId_quiet F.plain_any_loop _, ih (s₁.setGen g gs') ((I.pin (a, go) (List.mem_append_left _ hpn)).1) I.nolimit (bare_set I.bare hb') ⟨gs', ?_, ?_⟩⟩
        · have hsz' : g + 1 ≤ (s₁.setGen g gs').gens.size := hsz
          rw [setGen_size] at hsz'
          show (s₁.gens.setIfInBounds g gs')[g]? = some gs'
          simp [show g < s₁.gens.size from hsz']
        · exact q ((s₁.setGen g gs').setGen g .running) rfl rfl (bare_set (s := s₁.setGen g gs') (bare_set I.bare hb') rfl)
      · rw [if_neg hbd] at q
        obtain rfl : b = true := by cases b <;> simp_all
        refine wpAny_bind (wpAny_holding (wpAny_truthy_bool ?_))
        refine wpAny_bind (wpAny_letGo ?_)
        simp only [if_true, Bool.false_eq_true, if_false]
        refine wpAny_bind (wpAny_rule (wpAny_pure ?_))
        exact hR true H _ (inv_keep I (fun _ _ e => e) rfl (bare_set I.bare hb')) q
    · intro _
      obtain ⟨H, I, q⟩ := hp
      refine wpAny_bind (wpAny_rule (wpAny_pure ?_))
      exact hR false H _ (inv_keep I hk rfl (bare_set I.bare rfl)) q

theorem loop_all {A : Around} {Xg : Cx} {τ : L2.St} {Q : VK} {R : Result → Shared → Prop} {a g : Nat} {go : Obj} (hh : A.handled = none) (hroom : A.depth < recursionLimit) (hgo : ∀ h : Heap, h.get? a = some go → h.IsGen a g) (hpn : (a, go) ∈ Xg.pn)
    (hR : ∀ b H s', Inv Xg [] τ H s' → Q (.bl b) H → R (.ok (.ret (.bool b))) s') :
    ∀ n (s : Shared), s.heap.get? a = some go → s.heap.NoLimit → AllBare s.gens → (∃ gs, s.gens[g]? = some gs ∧ gs.Goes (model Xg.prog Xg.w) A.in1.in1 (GRb Xg τ (Q (.bl true))) (GYb Xg τ true fun b H => Q (.bl b) H) n (.send .none) (s.setGen g .running)) →
      codeAny (model Xg.prog Xg.w) A (.builtin "all.loop" ⟨[.ref a], []⟩) R s := by
  intro n
  induction n with
  | zero =>
    intro s ha hl hb ⟨gs, hgs, hgoes⟩
    have hlt : g < s.gens.size := by
      rcases Nat.lt_or_ge g s.gens.size with z | z
      · exact z
      · rw [Array.getElem?_eq_none z] at hgs; cases hgs
    refine codeAny_builtin F.entry_all_loop ?_
    rw [Around.under_plainId F.plain_all_loop _]
    show wpAny _ A.in1 (pyNext (.ref a) >>= _) _ _ s
    refine wpAny_bind (wpAny_pyNext_genexpQ (P := fun _ _ s₁ => ∃ H, Inv Xg [] τ H s₁ ∧ Q (.bl true) H) hh hl hroom (hgo _ ha) hgs hgoes (fun v s₁ gs' hb' hv => ?_) fun s₁ hp h' hk => ?_)
    · obtain ⟨b, H, rfl, I, q⟩ := hv
      by_cases hbd : b = true
      · rw [if_pos hbd] at q
        exact (q s₁ rfl rfl I.bare).elim
      · rw [if_neg hbd] at q
        obtain rfl : b = false := by cases b <;> simp_all
        refine wpAny_bind (wpAny_holding (wpAny_truthy_bool ?_))
        refine wpAny_bind (wpAny_letGo ?_)
        simp only [if_true, Bool.false_eq_true, if_false]
        refine wpAny_bind (wpAny_rule (wpAny_pure ?_))
        exact hR false H _ (inv_keep I (fun _ _ e => e) rfl (bare_set I.bare hb')) q
    · obtain ⟨H, I, q⟩ := hp
      refine wpAny_bind (wpAny_rule (wpAny_pure ?_))
      exact hR true H _ (inv_keep I hk rfl (bare_set I.bare rfl)) q
  | succ n ih =>
    intro s ha hl hb ⟨gs, hgs, hgoes⟩
    have hlt : g < s.gens.size := by
      rcases Nat.lt_or_ge g s.gens.size with z | z
      · exact z
      · rw [Array.getElem?_eq_none z] at hgs; cases hgs
    refine codeAny_builtin F.entry_all_loop ?_
    rw [Around.under_plainId F.plain_all_loop _]
    show wpAny _ A.in1 (pyNext (.ref a) >>= _) _ _ s
    refine wpAny_bind (wpAny_gsz hlt (wpAny_pyNext_genexpQ (P := fun _ _ s₁ => ∃ H, Inv Xg [] τ H s₁ ∧ Q (.bl true) H) hh hl hroom (hgo _ ha) hgs hgoes (fun v s₁ gs' hb' hv => ?_) fun s₁ hp h' hk => ?_))
    · intro hsz
      obtain ⟨b, H, rfl, I, q⟩ := hv
      by_cases hbd : b = true
      · rw [if_pos hbd] at q
        subst hbd
        refine wpAny_bind (wpAny_holding (wpAny_truthy_bool ?_))
        refine wpAny_bind (wpAny_letGo ?_)
        simp only [if_true, Bool.false_eq_true, if_false]
        refine wpAny_pure ⟨plainId_quiet F.plain_all_loop _, ih (s₁.setGen g gs') ((I.pin (a, go) (List.mem_append_left _ hpn)).1) I.nolimit (bare_set I.bare hb') ⟨gs', ?_, ?_⟩⟩
        · have hsz' : g + 1 ≤ (s₁.setGen g gs').gens.size := hsz
          rw [setGen_size] at hsz'
          show (s₁.gens.setIfInBounds g gs')[g]? = some gs'
          simp [show g < s₁.gens.size from hsz']
        · exact q ((s₁.setGen g gs').setGen g .running) rfl rfl (bare_set (s := s₁.setGen g gs') (bare_set I.bare hb') rfl)
      · rw [if_neg hbd] at q
        obtain rfl : b = false := by cases b <;> simp_all
        refine wpAny_bind (wpAny_holding (wpAny_truthy_bool ?_))
        refine wpAny_bind (wpAny_letGo ?_)
        simp only [if_true, Bool.false_eq_true, if_false]
        refine wpAny_bind (wpAny_rule (wpAny_pure ?_))
        exact hR false H _ (inv_keep I (fun _ _ e => e) rfl (bare_set I.bare hb')) q
    · intro _
      obtain ⟨H, I, q⟩ := hp
      refine wpAny_bind (wpAny_rule (wpAny_pure ?_))
      exact hR true H _ (inv_keep I hk rfl (bare_set I.bare rfl)) q

/-- a generator expression is made: ready for any's or all's loop -/
theorem gx_make {c P : Addr} {elt tg iter : Expr} {ifs : List Expr} {gpos : Pos} {scope : Scope} {own : List (Str × Nat)} {dflt : Bool} {wi : TI} {g : TG} {tt : TT} {te : TE} {k : Nat} {Q : VK} {Q' : Value → Shared → Prop}
    (hr : Room k X.A) (hc : X.calm = true) (hN : X.N.Nodup) (TB : GxR.TabB X.base X.mg c P) (hcode : X.env.code = .ref c) (hco : scope.isCoroutine = false) (hcell : ∀ y ∈ scope.names, y.2 ≠ .cell) (h0 : scope.names.lookup (".0" : Str) = some NameKind.local)
    (ok : BlkOk X.N X.env.scope scope own) (hi : PI X tg iter wi)
    (hg : ∀ (s : Shared) (H : Hp) (cl : List (Str × Addr)) (C : Addr) (code : Value) (fp : List Addr) (pn : List (Addr × Obj)), PG (gxc X s H (genEnv scope cl C code builtinsNs X.env) fp pn) tg g)
    (ht : ∀ (s : Shared) (H : Hp) (cl : List (Str × Addr)) (C : Addr) (code : Value) (fp : List Addr) (pn : List (Addr × Obj)), PTs (gxc X s H (genEnv scope cl C code builtinsNs X.env) fp pn) ifs tt)
    (he : ∀ (s : Shared) (H : Hp) (cl : List (Str × Addr)) (C : Addr) (code : Value) (fp : List Addr) (pn : List (Addr × Obj)), PE (gxc X s H (genEnv scope cl C code builtinsNs X.env) fp pn) elt te)
    (hs : ∀ v, genFold iter X.env v = pure v) (I : Inv X pins σ H s) (h : tAgg P dflt wi g tt te (own.map (·.2)) σ H Q)
    (hQ : ∀ (Xg : Cx) (a ng : Addr) (go : Obj) (s5 : Shared) n, Xg.prog = X.prog → Xg.w = X.w → (∀ h : Heap, h.get? a = some go → h.IsGen a ng) → (a, go) ∈ Xg.pn → s5.heap.get? a = some go → s5.heap.NoLimit → AllBare s5.gens →
      (∃ gs, s5.gens[ng]? = some gs ∧ gs.Goes (model X.prog X.w) X.A.in1.in1 (GRb Xg (wipe σ (own.map (·.2))) (Q (.bl dflt))) (GYb Xg (wipe σ (own.map (·.2))) dflt fun b H => Q (.bl b) H) n (.send .none) (s5.setGen ng .running)) →
      (∀ H' s', Inv Xg [] (wipe σ (own.map (·.2))) H' s' → Inv X pins σ H' s') → Q' (.ref a) s5) :
    wpAny (model X.prog X.w) X.A (eval (.GeneratorExp elt [⟨tg, iter, ifs, 0⟩] scope gpos) X.env) Q' X.xe s := by
  have hfree : ∀ y ∈ scope.names, y.2 = .free → ∃ c, X.env.cells.lookup y.1 = some c := fun y hy e => by
    rcases ok.free y hy e with k | k
    · exact I.ok.has _ (.inl k)
    · exact I.ok.has _ (.inr k)
  refine wpAny_GeneratorExp_make hco (closure_ok hfree) hcell h0 ok.kind (by have := hr.dp; omega) ?_ hs
  refine thn (hi.run pins s σ H _ I h) fun xv s1 hx => thn hx fun itv s2 h2 => ?_
  obtain ⟨it, fp, tn, J, H2, e, I2, T, st2, f2, ⟨ps, hP, htr⟩, q⟩ := h2
  subst e
  refine ⟨I2.nolimit, ?_⟩
  have hPs : s2.heap.get? P = some { cls := .none, data := .fields ps } := I2.hok P _ hP
  have hPlt : P < s2.heap.objs.size := Heap.lt_size hPs
  have cd : PySem.W.CodeHd s2.heap c P := TB.code.keeps I2.bk
  have fpP : ∀ b ∈ fp, b ≠ P := fun b hb z => by
    have := (f2 b hb).1
    rw [z, hP] at this
    cases this
  have cont : ∀ (code : Value) (h3 : Heap) (tk : Nat) (ps' : Array Value), Heap.ExtBut P s2.heap h3 → h3.get? P = some { cls := .none, data := .fields ps' } → (∃ more, ps' = ps ++ more) → TriplesOk ps'.toList →
      wpAny (model X.prog X.w) X.A (builtinsFor X.env.globals X.env.builtins) (fun bi s₄ =>
        ∀ h', h'.Ns s₄.heap.objs.size (fun y => if y = ".0" then some (.ref it) else none) → Heap.SameBut s₄.heap.objs.size (s₄.heap.push { cls := .type "frame", data := .dict #[] }) h' →
          Q' (.ref h'.objs.size) { s₄ with
            gens := s₄.gens.push (.fresh (.compStart (.GeneratorExp elt [⟨tg, iter, ifs, 0⟩] scope gpos) 0 (.ref it) .none (genEnv scope (cloFrom X.env.cells scope.names []) s₄.heap.objs.size code bi X.env))),
            toks := s₄.toks + 1 + 1 + 1,
            heap := h'.push { cls := .type "generator", data := .fields #[.int s₄.gens.size 0, .str "<genexpr>" (s₄.toks + 1), .str (X.env.qual ++ "<genexpr>") (s₄.toks + 1 + 1)] } }) X.xe { s2 with heap := h3, toks := tk } := by
    intro code h3 tk ps' hx3 hP3 hmore ht3
    obtain ⟨bm, ob, e1, e2, e3, e4, e5, e6, e7, e8⟩ := TB.bm
    have keep3 : ∀ b u, b ≠ P → s2.heap.get? b = some u → h3.get? b = some u := fun b u hb e => hx3 b u hb e
    refine wpAny_builtinsFor (m := X.mg) (by rw [I2.ok.glob]; exact (I2.mod.glob.keeps I2.bk).extBut hx3 TB.gP) e1 e2 (keep3 _ _ e4 (I2.bk _ _ e5)) e6 e7 e8 ?_
    intro h' hns hsb
    obtain ⟨more, em⟩ := hmore
    subst em
    have I4 : Inv X pins σ (upd H2 P (.tbl (ps ++ more))) { s2 with heap := h3, toks := tk } :=
      GxR.inv_tab (more := more) (g' := s2.gens) (d' := s2.drawn) I2 hP keep3 hP3 I2.bare
    have f4 : ∀ b ∈ fp, FpOk X pins (upd H2 P (.tbl (ps ++ more))) b ∧ b < ({ s2 with heap := h3, toks := tk } : Shared).heap.objs.size := fun b hb => by
      obtain ⟨o, e, _⟩ := T.obj _ _ st2 b hb
      refine ⟨⟨?_, (f2 b hb).2⟩, Heap.lt_size (keep3 b o (fpP b hb) e)⟩
      rw [upd_ne (fpP b hb)]
      exact (f2 b hb).1
    obtain ⟨W, ⟨m0, w0⟩, turn⟩ := q (upd H2 P (.tbl (ps ++ more))) ⟨⟨ps ++ more, upd_same, ht3⟩, fun b hb => upd_ne hb⟩
    have main : ∀ (go : Obj) (nm qn : Value) (tk2 : Nat), go.cls = .type "generator" → go.data = .fields #[.int s2.gens.size 0, nm, qn] → go.slots = #[] → (∀ h : Heap, (h.push go).get? h.objs.size = some go) →
        Q' (.ref h'.objs.size) { s2 with
            gens := s2.gens.push (.fresh (.compStart (.GeneratorExp elt [⟨tg, iter, ifs, 0⟩] scope gpos) 0 (.ref it) .none (genEnv scope (cloFrom X.env.cells scope.names []) h3.objs.size code builtinsNs X.env))),
            toks := tk2, heap := h'.push go } := by
      intro go nm qn tk2 hgc hgd0 hgs hgp
      have hgen : ∀ h : Heap, h.get? h'.objs.size = some go → h.IsGen h'.objs.size s2.gens.size := fun h e => ⟨go, nm, qn, e, hgc, hgd0, hgs⟩
      have hgd : ∀ v, go.data ≠ .cell v := fun v z => by rw [hgd0] at z; cases z
      have hb5 : AllBare (s2.gens.push (.fresh (.compStart (.GeneratorExp elt [⟨tg, iter, ifs, 0⟩] scope gpos) 0 (.ref it) .none (genEnv scope (cloFrom X.env.cells scope.names []) h3.objs.size code builtinsNs X.env)))) := AllBare.push I2.bare rfl
      have I5 := gx_start (s := { s2 with heap := h3, toks := tk }) (code := code) (tk := tk2) I4 ok hcell hN f4 hns hsb hb5 (hgp _) hgd
      have sz5 : h'.objs.size = h3.objs.size + 1 := by
        rw [hsb.1]
        show (h3.push _).objs.size = _
        rw [Heap.size_push]
      have k5 : ∀ b o, h3.get? b = some o → (h'.push go).get? b = some o := fun b o e =>
        Heap.get?_push_of_some _ (hsb.extBut b o (Nat.ne_of_lt (Heap.lt_size e)) (Heap.get?_push_of_some _ e))
      have st5 : tn 0 (h'.push go) := T.keep _ _ _ st2 fun b hb o e => k5 b o (keep3 b o (fpP b hb) e)
      refine hQ (gxc X { s2 with heap := h3, toks := tk } (upd H2 P (.tbl (ps ++ more))) (genEnv scope (cloFrom X.env.cells scope.names []) h3.objs.size code builtinsNs X.env) fp [(h'.objs.size, go)]) h'.objs.size s2.gens.size go _ (m0 + 1) rfl rfl hgen (List.mem_singleton.mpr rfl) (hgp _) I5.nolimit hb5 ⟨_, Array.getElem?_push_size .., rfl, ?_⟩ fun H' s' I6 => ?_
      · have hnfp : ∀ b ∈ fp, (upd H2 P (.tbl (ps ++ more))) b = none := fun b hb => (f4 b hb).1.1
        have loop := seg_gx (A := X.A.in1.in1) (Xg := gxc X { s2 with heap := h3, toks := tk } (upd H2 P (.tbl (ps ++ more))) (genEnv scope (cloFrom X.env.cells scope.names []) h3.objs.size code builtinsNs X.env) fp [(h'.objs.size, go)])
          (σ0 := σ) (vs := own.map (·.2)) (dflt := dflt) (elt := elt) (tg := tg) (iter := iter) (ifs := ifs) (scope := scope) (pos := gpos) (it := it) (fp := fp) (tn := tn) (J := J) (Q := Q) (W := W) rfl rfl (fun b hb p hp z => ?_) rfl hc hco T (hg _ _ _ _ _ _ _) (ht _ _ _ _ _ _ _) (he _ _ _ _ _ _ _) turn m0 (m0 + 1) 0
        · have I7 := inv_same (s' := ({ s2 with gens := s2.gens.push (.fresh (.compStart (.GeneratorExp elt [⟨tg, iter, ifs, 0⟩] scope gpos) 0 (.ref it) .none (genEnv scope (cloFrom X.env.cells scope.names []) h3.objs.size code builtinsNs X.env))), toks := tk2, heap := h'.push go } : Shared).setGen s2.gens.size .running) I5 rfl rfl (bare_set hb5 rfl)
          have lp := fun s₀ => loop s₀ _ _ (Nat.lt_succ_self _) w0 I7 st5 hnfp
          show Seg _ _ _ _ _ _ _ ((compStart (.GeneratorExp elt [⟨tg, iter, ifs, 0⟩] scope gpos) 0 (.ref it) .none (genEnv scope (cloFrom X.env.cells scope.names []) h3.objs.size code builtinsNs X.env)).onRaise (leaving (genEnv scope (cloFrom X.env.cells scope.names []) h3.objs.size code builtinsNs X.env))) [] _
          unfold compStart
          rw [Sem.onRaise_eq_wrap]
          show Seg _ _ _ _ _ _ _ ((ask >>= _).wrap _ _ _ _) [] _
          refine seg_bind_wrap (wpAny_askSetting ?_)
          split
          · exact seg_again rfl (lp _)
          · first
              | exact seg_bind_wrap (wpAny_rule (seg_bind_wrap (wpAny_standAt (seg_bind_wrap (T.self _ 0 _ _ _ st5 (seg_again rfl (lp _)))))))
              | (refine seg_bind_wrap (wpAny_rule ?_); show Seg _ _ _ _ _ _ _ ((standAt iter.pos >>= _).wrap _ _ _ _) [] _; exact seg_bind_wrap (wpAny_standAt (seg_bind_wrap (T.self _ 0 _ _ _ st5 (seg_again rfl (lp _))))))
        · have hp : p = (h'.objs.size, go) := by simpa using hp
          subst hp
          have h8 := (f4 b hb).2
          have h9 : b < h3.objs.size := h8
          have h10 : h'.objs.size = b := z
          rw [← h10, sz5] at h9
          exact absurd h9 (Nat.not_lt.mpr (Nat.le_succ _))
      · exact I4.call' (ch := fp) I6.os I6.base I6.hok I6.bare fun b hb => ⟨(f4 b hb).1.2.2.2.1, (f4 b hb).1.2.1, (f4 b hb).1.2.2.2.2.1, (f4 b hb).1.2.2.2.2.2⟩
    exact main _ _ _ _ rfl rfl rfl fun h => Heap.get?_push_size _ rfl
  cases hf : codeAmong gpos ps.toList with
  | none =>
    refine wpAny_genexprCodeX hcode (cd.code hPs htr) (cd.tab hPs) hf fun c' h' tk hx hge hlt hco' _ htab' _ => ?_
    obtain ⟨o1, vs, f1, tf, fl, tg, inF, tx, tt, op, _, _, _, _, _, _, _, _, _, htr, _⟩ := hco'
    exact cont _ h' tk _ hx htab'.2 ⟨_, rfl⟩ htr
  | some cv =>
    refine wpAny_genexprCode_hit hcode (cd.code hPs htr) hf ?_
    exact cont cv s2.heap s2.toks ps (Heap.ExtBut.refl _ _) hPs ⟨#[], by simp⟩ htr

theorem pe_anyG {c P : Addr} {elt tg iter : Expr} {ifs : List Expr} {p pos gpos : Pos} {scope : Scope} {own : List (Str × Nat)} {wi : TI} {g : TG} {tt : TT} {te : TE} {k : Nat}
    (hr : Room k X.A) (hc : X.calm = true) (hgl : Gl X "any") (hm : X.mg "any" = none) (hN : X.N.Nodup) (TB : GxR.TabB X.base X.mg c P) (hcode : X.env.code = .ref c) (hco : scope.isCoroutine = false) (hcell : ∀ y ∈ scope.names, y.2 ≠ .cell) (h0 : scope.names.lookup (".0" : Str) = some NameKind.local)
    (ok : BlkOk X.N X.env.scope scope own) (hi : PI X tg iter wi)
    (hg : ∀ (s : Shared) (H : Hp) (cl : List (Str × Addr)) (C : Addr) (code : Value) (fp : List Addr) (pn : List (Addr × Obj)), PG (gxc X s H (genEnv scope cl C code builtinsNs X.env) fp pn) tg g)
    (ht : ∀ (s : Shared) (H : Hp) (cl : List (Str × Addr)) (C : Addr) (code : Value) (fp : List Addr) (pn : List (Addr × Obj)), PTs (gxc X s H (genEnv scope cl C code builtinsNs X.env) fp pn) ifs tt)
    (he : ∀ (s : Shared) (H : Hp) (cl : List (Str × Addr)) (C : Addr) (code : Value) (fp : List Addr) (pn : List (Addr × Obj)), PE (gxc X s H (genEnv scope cl C code builtinsNs X.env) fp pn) elt te)
    (hs : ∀ v, genFold iter X.env v = pure v) (hbt : bootBuiltins "any" = some (.builtin "any"))
    (hst : starEach [.GeneratorExp elt [⟨tg, iter, ifs, 0⟩] scope gpos] X.env = (false, eval (.GeneratorExp elt [⟨tg, iter, ifs, 0⟩] scope gpos) X.env) :: starEach [] X.env := by rfl) :
    PE X (.Call (.Name "any" p) [.GeneratorExp elt [⟨tg, iter, ifs, 0⟩] scope gpos] [] pos) (tAgg P false wi g tt te (own.map (·.2))) := by
  refine ⟨fun pins s σ H Q I h => ?_⟩
  refine wpAny_Call_Name_kw (ld_blt I hgl hm hbt ?_)
  refine PyProof.Rows.callWith_builtin1 ?_ hst (by rfl)
  rw [hst]
  show wpAny _ _ (spliced ((false, eval (.GeneratorExp elt [⟨tg, iter, ifs, 0⟩] scope gpos) X.env) :: backTo pos (starEach [] X.env))) _ _ s
  refine Calls.spliced_cons (gx_make hr hc hN TB hcode hco hcell h0 ok hi hg ht he hs I h fun Xg a ng go s5 n hp hw hgen hpn ha hl hb hgoes hback => ?_)
  refine Calls.spliced_nil ?_
  refine call_function_tree F.kind_any F.plain_any F.entry_any (F.args_any1 _) ?_
  unfold Builtin.«any»
  refine wpAny_bind (m := oneArg "any" _) (wpAny_pure ?_)
  refine wpAny_bind (wpAny_pyIter_gen (hgen _ ha) ?_)
  refine wpAny_pure ⟨plainId_quiet F.plain_any_loop _, ?_⟩
  have lp := loop_any (A := X.A) (Xg := Xg) (Q := Q) (R := fun r s' => match r with
    | .ok (.ret x) => EP X pins σ Q x s'
    | _ => False) hr.hd (by have := hr.dp; omega) hgen hpn (fun b H' s' I' q => ⟨.bl b, H', hback H' s' I', rfl, q⟩) n s5 ha hl hb (by rw [hp, hw]; exact hgoes)
  rw [hp, hw] at lp
  exact codeAny_mono lp fun r s' z => by
    match r, z with
    | .ok (.ret v), z => exact z

theorem pe_allG {c P : Addr} {elt tg iter : Expr} {ifs : List Expr} {p pos gpos : Pos} {scope : Scope} {own : List (Str × Nat)} {wi : TI} {g : TG} {tt : TT} {te : TE} {k : Nat}
    (hr : Room k X.A) (hc : X.calm = true) (hgl : Gl X "all") (hm : X.mg "all" = none) (hN : X.N.Nodup) (TB : GxR.TabB X.base X.mg c P) (hcode : X.env.code = .ref c) (hco : scope.isCoroutine = false) (hcell : ∀ y ∈ scope.names, y.2 ≠ .cell) (h0 : scope.names.lookup (".0" : Str) = some NameKind.local)
    (ok : BlkOk X.N X.env.scope scope own) (hi : PI X tg iter wi)
    (hg : ∀ (s : Shared) (H : Hp) (cl : List (Str × Addr)) (C : Addr) (code : Value) (fp : List Addr) (pn : List (Addr × Obj)), PG (gxc X s H (genEnv scope cl C code builtinsNs X.env) fp pn) tg g)
    (ht : ∀ (s : Shared) (H : Hp) (cl : List (Str × Addr)) (C : Addr) (code : Value) (fp : List Addr) (pn : List (Addr × Obj)), PTs (gxc X s H (genEnv scope cl C code builtinsNs X.env) fp pn) ifs tt)
    (he : ∀ (s : Shared) (H : Hp) (cl : List (Str × Addr)) (C : Addr) (code : Value) (fp : List Addr) (pn : List (Addr × Obj)), PE (gxc X s H (genEnv scope cl C code builtinsNs X.env) fp pn) elt te)
    (hs : ∀ v, genFold iter X.env v = pure v) (hbt : bootBuiltins "all" = some (.builtin "all"))
    (hst : starEach [.GeneratorExp elt [⟨tg, iter, ifs, 0⟩] scope gpos] X.env = (false, eval (.GeneratorExp elt [⟨tg, iter, ifs, 0⟩] scope gpos) X.env) :: starEach [] X.env := by rfl) :
    PE X (.Call (.Name "all" p) [.GeneratorExp elt [⟨tg, iter, ifs, 0⟩] scope gpos] [] pos) (tAgg P true wi g tt te (own.map (·.2))) := by
  refine ⟨fun pins s σ H Q I h => ?_⟩
  refine wpAny_Call_Name_kw (ld_blt I hgl hm hbt ?_)
  refine PyProof.Rows.callWith_builtin1 ?_ hst (by rfl)
  rw [hst]
  show wpAny _ _ (spliced ((false, eval (.GeneratorExp elt [⟨tg, iter, ifs, 0⟩] scope gpos) X.env) :: backTo pos (starEach [] X.env))) _ _ s
  refine Calls.spliced_cons (gx_make hr hc hN TB hcode hco hcell h0 ok hi hg ht he hs I h fun Xg a ng go s5 n hp hw hgen hpn ha hl hb hgoes hback => ?_)
  refine Calls.spliced_nil ?_
  refine call_function_tree F.kind_all F.plain_all F.entry_all (F.args_all1 _) ?_
  unfold Builtin.«all»
  refine wpAny_bind (m := oneArg "all" _) (wpAny_pure ?_)
  refine wpAny_bind (wpAny_pyIter_gen (hgen _ ha) ?_)
  refine wpAny_pure ⟨plainId_quiet F.plain_all_loop _, ?_⟩
  have lp := loop_all (A := X.A) (Xg := Xg) (Q := Q) (R := fun r s' => match r with
    | .ok (.ret x) => EP X pins σ Q x s'
    | _ => False) hr.hd (by have := hr.dp; omega) hgen hpn (fun b H' s' I' q => ⟨.bl b, H', hback H' s' I', rfl, q⟩) n s5 ha hl hb (by rw [hp, hw]; exact hgoes)
  rw [hp, hw] at lp
  exact codeAny_mono lp fun r s' z => by
    match r, z with
    | .ok (.ret v), z => exact z
end
end MN
set_option maxRecDepth 100000
set_option maxHeartbeats 2000000
/-! MN, part B: any(.. for ..), all(.. for ..) as terms. -/
namespace MM
open PySem PySem.Spec PyProof.Rows L2 MN
def aggI (dflt : Bool) (g : Tg) (t : Env → Sto → R Bool) (elt : Env → Sto → R W) (δ : Env) : List D → Sto → R W
  | [], S => .ok (.val (.bl dflt)) S
  | d :: r, S => match g d δ with
    | some δ1 => (t δ1 S).nox.then fun b S1 => if b = true then (elt δ1 S1).nox.then fun y S2 => match y with
        | .val (.bl c) => if c = dflt then aggI dflt g t elt δ r S2 else .ok (.val (.bl c)) S2
        | _ => .bad
      else aggI dflt g t elt δ r S1
    | none => .bad
def aggL (dflt : Bool) (g : Tg) (t : Env → Sto → R Bool) (elt : Env → Sto → R W) (δ : Env) (n : Nat) (en : Option Int) : Nat → Nat → Sto → R W
  | fuel, i, S => match liveAt n en i S with
    | none => .bad
    | some none => .ok (.val (.bl dflt)) S
    | some (some d) => match fuel with
      | 0 => .bad
      | fuel + 1 => match g d δ with
        | some δ1 => (t δ1 S).nox.then fun b S1 => if b = true then (elt δ1 S1).nox.then fun y S2 => match y with
            | .val (.bl c) => if c = dflt then aggL dflt g t elt δ n en fuel (i + 1) S2 else .ok (.val (.bl c)) S2
            | _ => .bad
          else aggL dflt g t elt δ n en fuel (i + 1) S1
        | none => .bad
/-- any (dflt false), all (dflt true) of a generator expression -/
def eAgg (dflt : Bool) (it : MI) (vs : List Nat) (g : Tg) (t : MT) (elt : ME) : ME := fun T δ S => (it T δ S).then fun src S1 => match src with
  | .items ds => aggI dflt g (t T) (elt T) (wipeD δ vs) ds S1
  | .live n en => aggL dflt g (t T) (elt T) (wipeD δ vs) n en (lenAt n S1) 0 S1
def Info.g (I : Info) : Info := { I with ing := true }
theorem GOk.g {I : Info} {G : Gc} (h : GOk I G) : GOk I.g G := ⟨h.fn, h.con, h.bin, h.nc, h.cls, h.fld, h.kw, h.exc, h.gen, h.exm⟩
section
variable {cl : Bool} {I : Info} {N : List Str} {sc : Scope} {G : Gc} {T : FT} {Wx : WX} {H : Hp} {ρ : List Addr} {δ : MM.Env} {S : Sto} {σ : L2.St}
theorem XOk0.gx {X : Cx} (ok : XOk0 true I G T N sc Wx X) (hi : I.ing = false) {scope : Scope} {s : Shared} {H : Hp} {cl : List (Str × Addr)} {C : Addr} {code : Value} {fp : List Addr} {pn : List (Addr × Obj)} :
    XOk0 true I.g G T N scope (fun _ _ _ _ => False) (gxc X s H (genEnv scope cl C code builtinsNs X.env) fp pn) where
  eK := ok.eK
  eM := ok.eM
  eN := ok.eN
  eS := rfl
  nd := ok.nd
  units := by
    obtain ⟨k, h1, _⟩ := ok.calls' rfl
    have h := h1.un
    show X.A.units + 1 + 1 + 3 + 64 < _
    omega
  tk := takes0
  kd := ok.kd
  gen' := fun h => Bool.noConfusion (show true = false from h)
  calm' := fun _ => ok.calm
  calls' := fun _ => by
    obtain ⟨k, h1, h2, h3⟩ := ok.calls' rfl
    refine ⟨k, ⟨h1.hd, ?_, ?_⟩, h2, h3⟩
    · have h := h1.dp
      have e : I.slack = 1 := by unfold Info.slack; rw [hi]; rfl
      rw [e] at h
      show X.A.depth + 1 + 3 * (k + 1 + 0) + 5 < _
      omega
    · have h := h1.un
      have e : I.slack = 1 := by unfold Info.slack; rw [hi]; rfl
      rw [e] at h
      show X.A.units + 1 + 1 + 3 + 16 * (k + 1 + 0) + 200 < _
      omega
/-- a table has grown -/
theorem tabbed {H' : Hp} {P : Addr} (st : StOk G H ρ S) (h0 : GxR.TabG H P) (h : GxR.Tabbed P H H') : Fr H ρ H' ρ ∧ StOk G H' ρ S := by
  obtain ⟨ps, hP, _⟩ := h0
  obtain ⟨⟨ps', hP', ht'⟩, hk⟩ := h
  have ne : ∀ {b : Addr} {u : HO}, H b = some u → (∀ q, u ≠ .tbl q) → b ≠ P := fun {b u} e q z => by
    rw [z, hP] at e
    exact q ps (Option.some.inj e).symm
  have f : Fr H ρ H' ρ := ⟨fun _ _ q => q, fun a xs e => by rw [hk a (ne e (fun q z => by cases z))]; exact e, fun a o u e => by rw [hk a (ne e (fun q z => by cases z))]; exact e,
    fun a o e _ => by
      by_cases z : a = P
      · subst z
        rw [hP] at e
        cases e
        exact .inr ⟨ps, ps', rfl, hP'⟩
      · left; rw [hk a z]; exact e, fun a m n => absurd m n⟩
  refine ⟨f, st.len, st.nd, fun n o a q r => ?_, fun p hp => ?_⟩
  · obtain ⟨u, hu, _, _, h3⟩ := st.got (mem_of_get r)
    exact (st.obj n o a q r).sub f.sub (hk a (ne hu h3))
  · by_cases z : p.2 = P
    · rw [z]; exact ⟨ps', hP', ht'⟩
    · rw [hk _ z]; exact st.tab p hp
/-- what is asked behind it -/
def GoalA (G : Gc) (H : Hp) (Q : VK) : W → Sto → Hp → List Addr → Prop := fun w _ H2 ρ2 => ∀ v, RepW G H2 ρ2 w v → Fresh H w v → Q v H2
/-- one turn -/
theorem agg_turn {dflt : Bool} {tt : TT} {te : TE} {g : TG} {mt : MT} {me : ME} {gD : Tg} {d : D} {x : V} {vs is : List Nat} {k : Sto → R W} {Q : VK} {H0 H1 : Hp} {ρ1 : List Addr} {Nx : Hp → Prop} {Wo : WX} {σo : L2.St} {δ0 : MM.Env}
    (hg : g = rdG G gD is) (htt : tt = rdT G T (fun _ _ _ _ => False) mt) (hte : te = rdE G T (fun _ _ _ _ => False) me) (hsub : ∀ i ∈ is, i ∈ vs) (he : EnvRep G H ρ δ0 (wipe σ vs)) (st : StOk G H ρ S) (f : Fr H1 ρ1 H ρ) (rx : Rep G H ρ d x)
    (p : match gD d δ0 with
      | some δ1 => okR G H1 ρ1 Wo σo (GoalA G H0 Q) ((mt T δ1 S).nox.then fun b S1 => if b = true then (me T δ1 S1).nox.then fun y S2 => match y with
          | .val (.bl c) => if c = dflt then k S2 else .ok (.val (.bl c)) S2
          | _ => .bad
        else k S1)
      | none => False)
    (hN : ∀ S' H' ρ', Fr H1 ρ1 H' ρ' → StOk G H' ρ' S' → okR G H1 ρ1 Wo σo (GoalA G H0 Q) (k S') → Nx H') :
    g x (wipe σ vs) H fun σ2 H2 => wipe σ2 vs = wipe σ vs ∧ tt σ2 H2 fun b H3 =>
      if b = true then te σ2 H3 fun y H4 => ∃ c, y = .bl c ∧ if c = dflt then Nx H4 else Q (.bl c) H4 else Nx H3 := by
  subst hg htt hte
  refine ⟨ρ, δ0, d, he, rx, ?_⟩
  split at p
  · rename_i δ1 eg
    try rw [eg]
    refine fun σ2 he2 ag => ⟨?_, ?_⟩
    · have := ag.wipe hsub
      have w2 : wipe (wipe σ vs) vs = wipe σ vs := by
        have a : Agree vs σ (wipe σ vs) := ⟨L2.wipe_length _ _, fun j hj => L2.wipe_out hj⟩
        exact a.wipe fun _ h => h
      rw [this, w2]
    · refine ⟨ρ, δ1, S, he2, st, ((okR.nox (okR.thenO p)).later f).mono fun b S1 H3 ρ3 f3 st3 p3 => ?_⟩
      cases b with
      | false => exact iteF (hN S1 H3 ρ3 (f.trans f3) st3 p3)
      | true =>
        refine iteT ⟨ρ3, δ1, S1, he2.fr f3, st3, ((okR.nox (okR.thenO p3)).later (f.trans f3)).mono fun w S2 H4 ρ4 f4 st4 p4 v r fs => ?_⟩
        split at p4
        · rename_i c
          cases r
          refine ⟨c, rfl, ?_⟩
          by_cases hc : c = dflt
          · rw [if_pos hc] at p4 ⊢
            exact hN S2 H4 ρ4 (f.trans (f3.trans f4)) st4 p4
          · rw [if_neg hc] at p4 ⊢
            exact p4 H4 ρ4 (f.trans (f3.trans f4)) st4 (.bl c) (.bl c) True.intro
        · exact p4.elim
  · exact p.elim
theorem agg_read {dflt : Bool} {mi : MI} {gD : Tg} {is vs : List Nat} {mt : MT} {me : ME} {Q : VK} {p : Addr × Addr} (hp : p ∈ G.tabs) (hsub : ∀ i ∈ is, i ∈ vs) (hq : rdE G T Wx (eAgg dflt mi vs gD mt me) σ H Q) :
    tAgg p.2 dflt (rdI G T Wx mi) (rdG G gD is) (rdT G T (fun _ _ _ _ => False) mt) (rdE G T (fun _ _ _ _ => False) me) vs σ H Q := by
  obtain ⟨ρ, δ, S, he, hs, q⟩ := hq
  refine ⟨ρ, δ, S, he, hs, (okR.then q).mono fun src S1 H1 ρ1 f1 st1 p1 J hJ => ⟨st1.tab p hp, fun H1' hT => ?_⟩⟩
  obtain ⟨fT, stT⟩ := tabbed st1 (st1.tab p hp) hT
  have fin : ∀ {S' : Sto} {H' : Hp} {ρ' : List Addr} {b : Bool}, Fr H1 ρ1 H' ρ' → StOk G H' ρ' S' → okR G H1 ρ1 Wx σ (GoalA G H Q) (R.ok (.val (.bl b)) S') → Q (.bl b) H' :=
    fun {S' H' ρ' b} f st p => p H' ρ' f st (.bl b) (.bl b) True.intro
  cases src with
  | items ds =>
    have q' : okR G H1 ρ1 Wx σ (GoalA G H Q) (aggI dflt gD (mt T) (me T) (wipeD δ vs) ds S1) := p1
    refine ⟨fun i m H' => ∃ ρ' S', m = ds.length - i ∧ Fr H1 ρ1 H' ρ' ∧ StOk G H' ρ' S' ∧ okR G H1 ρ1 Wx σ (GoalA G H Q) (aggI dflt gD (mt T) (me T) (wipeD δ vs) (ds.drop i) S'),
      ⟨ds.length, ρ1, S1, (Nat.sub_zero _).symm, fT, stT, q'⟩, ?_⟩
    rintro i m H' ⟨ρ', S', rfl, f', st', p'⟩
    obtain ⟨j1, j2⟩ := hJ H' ρ' S' f' st' i
    by_cases hlt : i < ds.length
    · refine .inr ?_
      obtain ⟨go, yl⟩ := j1 ds[i] (congrArg some (List.getElem?_eq_getElem hlt))
      rw [List.drop_eq_getElem_cons hlt] at p'
      refine ⟨go, fun H'' => ∃ m', m' < ds.length - i ∧ ∃ ρ' S', m' = ds.length - (i + 1) ∧ Fr H1 ρ1 H'' ρ' ∧ StOk G H'' ρ' S' ∧ okR G H1 ρ1 Wx σ (GoalA G H Q) (aggI dflt gD (mt T) (me T) (wipeD δ vs) (ds.drop (i + 1)) S'), fun H'' h => h, fun x H'' y => ?_⟩
      obtain ⟨f2, st2, rx⟩ := yl x H'' y
      unfold aggI at p'
      refine agg_turn rfl rfl rfl hsub ((he.fr (f1.trans (f'.trans f2))).wipe _) st2 (f'.trans f2) rx (k := fun S => aggI dflt gD (mt T) (me T) (wipeD δ vs) (ds.drop (i + 1)) S) ?_ fun S3 H3 ρ3 f3 st3 p3 => ⟨_, by omega, ρ3, S3, rfl, f3, st3, p3⟩
      split at p'
      · rename_i e
        try rw [e]
        exact p'
      · exact p'.elim
    · refine .inl ⟨j2 (congrArg some (List.getElem?_eq_none (by omega))), ?_⟩
      rw [List.drop_eq_nil_of_le (by omega)] at p'
      exact fin f' st' p'
  | live n en =>
    have q' : okR G H1 ρ1 Wx σ (GoalA G H Q) (aggL dflt gD (mt T) (me T) (wipeD δ vs) n en (lenAt n S1) 0 S1) := p1
    refine ⟨fun i m H' => ∃ ρ' S', m + i = lenAt n S1 ∧ Fr H1 ρ1 H' ρ' ∧ StOk G H' ρ' S' ∧ okR G H1 ρ1 Wx σ (GoalA G H Q) (aggL dflt gD (mt T) (me T) (wipeD δ vs) n en m i S'),
      ⟨lenAt n S1, ρ1, S1, rfl, fT, stT, q'⟩, ?_⟩
    rintro i m H' ⟨ρ', S', hm, f', st', p'⟩
    obtain ⟨j1, j2⟩ := hJ H' ρ' S' f' st' i
    unfold aggL at p'
    split at p'
    · exact p'.elim
    · rename_i e
      exact .inl ⟨j2 e, fin f' st' p'⟩
    · rename_i d e
      refine .inr ?_
      obtain ⟨go, yl⟩ := j1 d e
      split at p'
      · exact p'.elim
      · rename_i fuel
        refine ⟨go, fun H'' => ∃ m', m' < fuel + 1 ∧ ∃ ρ' S', m' + (i + 1) = lenAt n S1 ∧ Fr H1 ρ1 H'' ρ' ∧ StOk G H'' ρ' S' ∧ okR G H1 ρ1 Wx σ (GoalA G H Q) (aggL dflt gD (mt T) (me T) (wipeD δ vs) n en m' (i + 1) S'), fun H'' h => h, fun x H'' y => ?_⟩
        obtain ⟨f2, st2, rx⟩ := yl x H'' y
        refine agg_turn rfl rfl rfl hsub ((he.fr (f1.trans (f'.trans f2))).wipe _) st2 (f'.trans f2) rx (k := fun S => aggL dflt gD (mt T) (me T) (wipeD δ vs) n en fuel (i + 1) S) ?_ fun S3 H3 ρ3 f3 st3 p3 => ⟨fuel, Nat.lt_succ_self _, ρ3, S3, by omega, f3, st3, p3⟩
        split at p'
        · rename_i e
          try rw [e]
          exact p'
        · exact p'.elim
theorem nocell {scope : Scope} (h : (scope.names.all fun y => match y.2 with | .cell => false | _ => true) = true) : ∀ y ∈ scope.names, y.2 ≠ .cell := fun y hy e => by
  have := List.all_eq_true.mp h y hy
  rw [e] at this
  cases this
theorem boot_all : bootBuiltins "all" = some (.builtin "all") := by first | rfl | decide +kernel
theorem sim_any {elt tg iter : Expr} {ifs : List Expr} {scope : Scope} {own : List (Str × Nat)} {p pos gpos : Pos} {mi : MI} {gD : Tg} {is : List Nat} {mt : MT} {me : ME} (jb : Nat) (hi : SimI true I N sc tg iter mi) (hg : SimG0 true I.g N scope tg gD is) (ht : SimTs true I.g N scope ifs mt) (he : SimE true I.g N scope elt me)
    (hbn : I.bins[jb]? = some "any" := by rfl) (hb : blkC N sc scope own = true := by decide +kernel) (his : (is.all fun i => (own.map (·.2)).contains i) = true := by decide +kernel) (hce : (scope.names.all fun y => match y.2 with | .cell => false | _ => true) = true := by decide +kernel) (h0 : scope.names.lookup (".0" : Str) = some NameKind.local := by decide +kernel)
    (hco : scope.isCoroutine = false := by rfl) (hm : genN ∈ N := by decide +kernel) (hin : I.ing = false := by rfl) (hgl : glob sc "any" = true := by rfl) (hf : ∀ env x, genFold iter env x = pure x := by intro _ _; rfl)
    (hst : ∀ env, starEach [.GeneratorExp elt [⟨tg, iter, ifs, 0⟩] scope gpos] env = (false, eval (.GeneratorExp elt [⟨tg, iter, ifs, 0⟩] scope gpos) env) :: starEach [] env := by intro _; rfl) :
    SimE true I N sc (.Call (.Name "any" p) [.GeneratorExp elt [⟨tg, iter, ifs, 0⟩] scope gpos] [] pos) (eAgg false mi (own.map (·.2)) gD mt me) := fun G T Wx X hG ok => by
  have hsub : ∀ i ∈ is, i ∈ own.map (·.2) := fun i hi => by simpa using List.all_eq_true.mp his i hi
  obtain ⟨pp, hpp, hcode, TB⟩ := ok.gen' hin hm
  obtain ⟨k, hr, _⟩ := ok.calls' rfl
  exact (pe_anyG (own := own) hr ok.calm (ok.gl hgl) (by rw [ok.eM]; exact hG.bin jb _ hbn) (by rw [ok.eN]; exact ok.nd) TB hcode hco (nocell hce) h0 (by rw [ok.eN, ok.eS]; exact blkOk_by hb) (hi G T Wx X hG ok)
    (fun s H cl C code fp pn => hg G T _ _ hG.g (ok.gx hin)) (fun s H cl C code fp pn => ht G T _ _ hG.g (ok.gx hin)) (fun s H cl C code fp pn => he G T _ _ hG.g (ok.gx hin)) (hf X.env) boot_any (hst X.env)).weak fun σ H Q q => agg_read hpp hsub q
theorem sim_all {elt tg iter : Expr} {ifs : List Expr} {scope : Scope} {own : List (Str × Nat)} {p pos gpos : Pos} {mi : MI} {gD : Tg} {is : List Nat} {mt : MT} {me : ME} (jb : Nat) (hi : SimI true I N sc tg iter mi) (hg : SimG0 true I.g N scope tg gD is) (ht : SimTs true I.g N scope ifs mt) (he : SimE true I.g N scope elt me)
    (hbn : I.bins[jb]? = some "all" := by rfl) (hb : blkC N sc scope own = true := by decide +kernel) (his : (is.all fun i => (own.map (·.2)).contains i) = true := by decide +kernel) (hce : (scope.names.all fun y => match y.2 with | .cell => false | _ => true) = true := by decide +kernel) (h0 : scope.names.lookup (".0" : Str) = some NameKind.local := by decide +kernel)
    (hco : scope.isCoroutine = false := by rfl) (hm : genN ∈ N := by decide +kernel) (hin : I.ing = false := by rfl) (hgl : glob sc "all" = true := by rfl) (hf : ∀ env x, genFold iter env x = pure x := by intro _ _; rfl)
    (hst : ∀ env, starEach [.GeneratorExp elt [⟨tg, iter, ifs, 0⟩] scope gpos] env = (false, eval (.GeneratorExp elt [⟨tg, iter, ifs, 0⟩] scope gpos) env) :: starEach [] env := by intro _; rfl) :
    SimE true I N sc (.Call (.Name "all" p) [.GeneratorExp elt [⟨tg, iter, ifs, 0⟩] scope gpos] [] pos) (eAgg true mi (own.map (·.2)) gD mt me) := fun G T Wx X hG ok => by
  have hsub : ∀ i ∈ is, i ∈ own.map (·.2) := fun i hi => by simpa using List.all_eq_true.mp his i hi
  obtain ⟨pp, hpp, hcode, TB⟩ := ok.gen' hin hm
  obtain ⟨k, hr, _⟩ := ok.calls' rfl
  exact (pe_allG (own := own) hr ok.calm (ok.gl hgl) (by rw [ok.eM]; exact hG.bin jb _ hbn) (by rw [ok.eN]; exact ok.nd) TB hcode hco (nocell hce) h0 (by rw [ok.eN, ok.eS]; exact blkOk_by hb) (hi G T Wx X hG ok)
    (fun s H cl C code fp pn => hg G T _ _ hG.g (ok.gx hin)) (fun s H cl C code fp pn => ht G T _ _ hG.g (ok.gx hin)) (fun s H cl C code fp pn => he G T _ _ hG.g (ok.gx hin)) (hf X.env) MM.boot_all (hst X.env)).weak fun σ H Q q => agg_read hpp hsub q
end
end MM
set_option maxRecDepth 100000
set_option maxHeartbeats 2000000
/-! MN, part C: what the top gives, where tables may grow. -/
namespace MM
open PySem PySem.Spec PySem.Calls PyProof.Rows L2 MN
def spLawT (K : PySem.W.Frag) (tabs : List (Addr × Addr)) : Sp := fun vs H Q _ => ∃ (a : Addr) (ns : List Int), vs = [.ref a] ∧ ns.length ≤ 63 ∧ (∀ p ∈ tabs, H p.2 = some (.tbl #[])) ∧ ScrAt K H a (ns.map V.int) ∧ ∀ H', Q (.bl true) H'
def spLawU (K : PySem.W.Frag) (tabs : List (Addr × Addr)) : Sp := fun vs H Q E => ∃ (a : Addr) (ns : List Int), vs = [.ref a] ∧ ns.length ≤ 63 ∧ (∀ p ∈ tabs, H p.2 = some (.tbl #[])) ∧ SqL K H a (ns.map V.int) ∧ (∀ H', Q (.bl true) H') ∧ E = fun _ _ _ => False
theorem law_spT {G : Gc} {f : List D → Sto → R W} (hl : Keeps f) : ∀ vs H Q E, spLawT G.K G.tabs vs H Q E → spOf G f vs H Q E := fun vs H Q E ⟨a, ns, e, h63, ht, hs, q⟩ => by
  subst e
  obtain ⟨S, hS⟩ := hl ns h63
  refine ⟨[], [.scr (ns.map .int)], [], .cons (.scr hs (rep_ints ns)) .nil, ⟨rfl, List.nodup_nil, fun n o a e => by simp at e, fun p hp => ⟨#[], ht p hp, trivial⟩⟩, ?_⟩
  rw [hS]
  intro H' ρ' _ _ v r _
  cases r
  exact q H'
theorem un_swap {fs ex : List Addr} {H H' : Hp} {h h' : Heap} {a : Addr} {o : Obj} {xs : List V} (ha : H a = some (.lst xs)) (u : Un fs ex (upd H a (.frz o (.lst xs))) H' h h') : Un fs ex H H' h h' := by
  have ne : ∀ {b : Addr}, H b = none → b ≠ a := fun {b} e z => by rw [z, ha] at e; cases e
  have at_ : ∀ {b : Addr}, b ≠ a → upd H a (.frz o (.lst xs)) b = H b := fun n => upd_ne n
  refine ⟨fun b q e n => ?_, fun b q e n => ?_, fun b q e n => ?_, u.there, fun b ys e => ?_, fun b q v e => ?_, fun b ps e => ?_⟩
  · exact u.keep b q e ((at_ (ne n)).trans n)
  · exact u.slot b q e ((at_ (ne n)).trans n)
  · exact u.free b q e ((at_ (ne n)).trans n)
  · exact u.tups b ys ((at_ fun z => by rw [z, ha] at e; cases e).trans e)
  · exact u.frzs b q v ((at_ fun z => by rw [z, ha] at e; cases e).trans e)
  · exact u.tbls b ps ((at_ fun z => by rw [z, ha] at e; cases e).trans e)
/-- a list of the caller's may be taken as one that is never changed -/
theorem fn_scr {P : Program} {w : World} {K : PySem.W.Frag} {mg : Str → Option Value} {base : Heap} {k : Nat} {f : Addr} {fd : FuncData} {ps : List Str} {tabs : List (Addr × Addr)} (F : FnOk P w K mg base (L2.CX P w) k f fd ps (spLawT K tabs)) : FnOk P w K mg base (L2.CX P w) k f fd ps (spLawU K tabs) := by
  refine ⟨fun vs H Q E ⟨a, ns, e, h1, h2, h3, h4, h5⟩ => ?_, fun A outer s H args us vs Q E hr e0 hb hv ⟨a, ns, e, h1, h2, h3, h4, h5⟩ => ?_⟩
  · have := F.len vs (fun b => if b = a then some (.frz default (.lst (ns.map V.int))) else if ∃ p ∈ tabs, p.2 = b then some (.tbl #[]) else none) (fun _ _ => True) (fun _ _ _ => False)
    subst e
    by_cases ha : ∃ p ∈ tabs, p.2 = a
    · rcases h3 with (h | ⟨o, h⟩) | h
      · obtain ⟨p, hp, e⟩ := ha
        have := h2 p hp
        rw [e, h] at this
        cases this
      · exact F.len [.ref a] H (fun _ _ => True) E ⟨a, ns, rfl, h1, h2, .inl ⟨o, h⟩, fun _ => trivial⟩
      · exact F.len [.ref a] H (fun _ _ => True) E ⟨a, ns, rfl, h1, h2, .inr h, fun _ => trivial⟩
    · refine this ⟨a, ns, rfl, h1, fun p hp => ?_, .inl ⟨default, if_pos rfl⟩, fun _ => trivial⟩
      have ne : p.2 ≠ a := fun z => ha ⟨p, hp, z⟩
      exact (if_neg ne).trans (if_pos ⟨p, hp, rfl⟩)
  · rcases h3 with (h | ⟨o, h⟩) | h
    · obtain ⟨hz, its, n, rv, eh⟩ := e0.hok a _ h
      have ne : ∀ {b : Addr}, H b = none → b ≠ a := fun {b} e z => by rw [z, h] at e; cases e
      have at_ : ∀ {b : Addr}, b ≠ a → ∀ u, upd H a u b = H b := fun n u => upd_ne n
      generalize hu : HO.frz { cls := .type "list", data := .seq its.toArray n } (.lst (ns.map V.int)) = u
      have nt : ∀ {b : Addr} {x : HO}, H b = some x → (∀ ys, x ≠ .lst ys) → b ≠ a := fun {b x} e n z => by rw [z, h] at e; exact n _ (Option.some.inj e).symm
      have st : ∀ b x, ObjOk P w H s.heap b x → ObjOk P w (upd H a u) s.heap b x := fun b x y =>
        y.stay (fun c v _ q => q) (fun c q => (at_ (nt q fun ys z => by cases z) u).trans q) fun c ys q => (at_ (nt q fun ys z => by cases z) u).trans q
      have e1 : Env0 P w K mg base A outer s (upd H a u) := ⟨e0.frames, e0.mod, fun b o q => ⟨(e0.bs b o q).1, (at_ (ne (e0.bs b o q).2) u).trans (e0.bs b o q).2⟩, e0.bsz, e0.funs, fun b q => (at_ (ne (e0.frf b q)) u).trans (e0.frf b q), fun b x q => ?_, e0.bare⟩
      · refine codeAny_mono (F.run A outer s (upd H a u) args us vs Q E hr e1 hb hv ⟨a, ns, e, h1, fun p hp => ?_, .inl ⟨_, by rw [upd_same, ← hu]⟩, h4⟩) fun r s' q => ?_
        · exact (at_ (nt (h2 p hp) fun ys z => by cases z) u).trans (h2 p hp)
        · cases r with
          | error x =>
            subst h5
            have q : L2.CX P w outer (upd H a u) s (fun _ _ _ => False) x s' := q
            obtain ⟨_, _, _, _, _, _, _, _, _, _, _, _, z⟩ := q
            exact z.elim
          | ok fl =>
            cases fl with
            | ret y =>
              obtain ⟨v, H', q1, q2, q3, q4, q5, q6⟩ := q
              subst hu
              exact ⟨v, H', q1, q2, un_swap h q3, q4, q5, q6⟩
            | next => exact q
            | brk => exact q
            | cont => exact q
      · by_cases z : b = a
        · subst z
          rw [upd_same] at q
          cases q
          subst hu
          exact ⟨eh, hz, its, n, rv, eh⟩
        · rw [at_ z] at q
          exact st b x (e0.hok b x q)
    · exact F.run A outer s H args us vs Q E hr e0 hb hv ⟨a, ns, e, h1, h2, .inl ⟨o, h⟩, h4⟩
    · exact F.run A outer s H args us vs Q E hr e0 hb hv ⟨a, ns, e, h1, h2, .inr h, h4⟩
/-- a def's table by its name -/
theorem tab_get {p : Program} {loose : List Str} {mean : ExcName → Option Value} {mg mb : Str → Option Value} {h : Heap} {K : PySem.W.Frag} {x : Str} {c P : Addr} (T : Top p loose mean mg mb h) (X : K.In h) (hr : ((recsOf p).any fun e => e.name == x) = true) (ht : PySem.W.tabIn K x = some (c, P)) :
    PySem.W.CodeHd h c P ∧ h.get? P = some (PySem.W.tabObj #[]) := by
  cases q : (recsOf p).find? (fun e => e.name == x) with
  | none =>
    have := List.find?_eq_none.mp q
    obtain ⟨d, hd, e⟩ := List.any_eq_true.mp hr
    exact absurd e (this d hd)
  | some d => exact PySem.W.tab_of T X q ht
theorem tabIn_of {K : PySem.W.Frag} {x : Str} {f c P : Addr} {o1 t1 : Value} {o2 t2 : Option Addr} {o3 t3 : Array (Option Value)} {fd : FuncData} {vs : Array Value} (h1 : PySem.W.nsIn K mainGlobals x = some (some (.ref f))) (h2 : K.lookup f = some ⟨o1, o2, .func fd, o3⟩) (h3 : fd.code = .ref c) (h4 : K.lookup c = some ⟨t1, t2, .fields vs, t3⟩) (h5 : vs[11]? = some (.ref P)) : PySem.W.tabIn K x = some (c, P) := by
  unfold PySem.W.tabIn
  rw [h1]
  dsimp only
  rw [h2]
  dsimp only
  rw [h3]
  dsimp only
  rw [h4]
  dsimp only
  rw [h5]
theorem walkT {l : PySem.W.OpenLaw} {q : Program} {loose : List Str} {XP : (Str → Option Value) → Heap → Prop} {YP : World → Heap → Prop} {d : DefRec} {K : Params → PySem.W.Frag} {k : Nat} (hn : l.most = some 63) (hdf : d.params.defaults = []) (hk : Room k callerA)
    (hY : ∀ (w : World) (h : Heap), YP w h → (K w.params).In h)
    (F : ∀ (w : World) (mg : Str → Option Value) (fa : Addr) (h : Heap), (K w.params).In h → h.Ns mainGlobals mg → mg d.name = some (.ref fa) →
      ∃ gl : List (Str × Addr × Addr), (∀ p ∈ gl, PySem.W.tabIn (K w.params) p.1 = some p.2 ∧ (K w.params).lookup p.2.2 = none ∧ ((recsOf q).any fun e => e.name == p.1) = true) ∧
      ∃ fd : FuncData, (∀ (s : Shared) (u : Value), BindsTo s fd ⟨[u], []⟩ [("script", u)]) ∧ ∀ base : Heap, (K w.params).In base → base.Ns mainGlobals mg → (∀ p ∈ gl.map (·.2), GxR.TabB base mg p.1 p.2) →
        FnOk l.prog w (K w.params) mg base (L2.CX l.prog w) k fa fd ["script"] (spLawT (K w.params) (gl.map (·.2)))) :
    PySem.W.WalkO q loose XP YP l.row.toRowW d [] (fun f vs => PySem.call f vs) := by
  refine Att.attach_callB hn hdf fun w s₀ s₁ mg mb fa o pm cd doc a vs ns G Y ho hd hcd hmg hobj hints hlen hbits hg => ?_
  have KX := hY w _ Y
  obtain ⟨gl, hgl, fd, hb, hF⟩ := F w mg fa _ KX G.T.g hmg
  have hT : ∀ p ∈ gl.map (·.2), PySem.W.CodeHd s₁.heap p.1 p.2 ∧ s₁.heap.get? p.2 = some (PySem.W.tabObj #[]) ∧ (K w.params).lookup p.2 = none := fun p hp => by
    obtain ⟨r, hr, e⟩ := List.mem_map.mp hp
    subst e
    obtain ⟨g1, g2, g3⟩ := hgl r hr
    obtain ⟨y1, y2⟩ := tab_get G.T KX g3 g1
    exact ⟨y1, y2, g2⟩
  exact LamX.law_callTs KX G.T.g G.T.b G.T.builtins G.T.nolimit hg (fun p hp => (hT p hp).2.1) (fun p hp => (hT p hp).2.2) (fun p hp => (hT p hp).1) G.T.bmain hobj hints (Nat.le_trans hlen (by decide)) hk
    (fun base h1 h2 h3 => fn_scr (hF base h1 h2 fun p hp => ⟨(h3 p hp).code, (h3 p hp).bm, (h3 p hp).gP⟩)) hb (fun H hH hS => ⟨a, ns, rfl, hlen, hH, hS, fun _ => rfl, rfl⟩) fun H e s' z => by
      obtain ⟨_, _, _, _, _, _, _, _, _, _, _, _, z⟩ := z
      exact z
end MM
set_option maxRecDepth 100000
set_option maxHeartbeats 2000000
/-! MN, part D: list.insert; max, min of three. -/
namespace MM
open PySem PySem.Spec PyProof.Rows L2
def eIns (o a b : ME) : ME := fun T δ S => (o T δ S).then fun x S1 => if isL x S1 = true then (a T δ S1).then fun i S2 => (bnd b T δ S2).then fun d S3 => match x, i with
    | .val (.loc n), .val (.int i) => match S3[n]? with
      | some (.lst ds) => if ds.length < sizeLine ∧ 0 ≤ i ∧ small62 i = true then .ok (.val .non) (S3.set n (.lst (ds.take i.toNat ++ [d] ++ ds.drop i.toNat))) else .bad
      | _ => .bad
    | _, _ => .bad
  else .bad
def eOf3 (f : Int → Int → Int → Int) (a b c : ME) : ME := fun T δ S => (a T δ S).then fun x S1 => (b T δ S1).then fun y S2 => (c T δ S2).then fun z S3 => match x, y, z with
  | .val (.int i), .val (.int j), .val (.int k) => .ok (.val (.int (f i j k))) S3
  | _, _, _ => .bad
section
variable {cl : Bool} {I : Info} {N : List Str} {sc : Scope} {G : Gc} {T : FT} {Wx : WX} {H : Hp} {ρ : List Addr} {δ : MM.Env} {S : Sto} {σ : L2.St}
theorem sim_ins {o a b : Expr} {mo ma mb : ME} {apos cpos} (ho : SimE true I N sc o mo) (ha : SimE true I N sc a ma) (hb : SimE true I N sc b mb) (hbase : ∀ env, attributeBase o "insert" env (eval o env) = eval o env := by intro _; rfl)
    (hfew : ∀ env, ((backTo cpos (starEach [a, b] env)).all (fun x => !x.1) && (backToKw cpos (keywordEach [] env)).all (fun x => x.1.isSome)
      && decide (([a, b] : List Expr).length + ([] : List Keyword).length + (if ([] : List Keyword).isEmpty then 0 else 1) < 30)) = true := by intro _; rfl)
    (hline : (apos.endLine == cpos.line) = true := by rfl) (hst : ∀ env, starEach [a, b] env = (false, eval a env) :: starEach [b] env := by intro _; rfl) (hst2 : ∀ env, starEach [b] env = (false, eval b env) :: starEach [] env := by intro _; rfl) (hpl : ∀ env, (backTo cpos (starEach [b] env)).any (·.1) = false := by intro _; rfl) :
    SimE true I N sc (.Call (.Attribute o "insert" apos) [a, b] [] cpos) (eIns mo ma mb) := fun G T Wx X hG ok => by
  refine (pe_bm PySem.F.plainAttrs_list PySem.F.slot_list_insert PySem.F.type_list_insert mt_insert (ho G T Wx X hG ok) (pa_cons (ha G T Wx X hG ok) (pa_cons (hb G T Wx X hG ok) pa_nil (hst2 X.env)) (hst X.env)) (hbase X.env) (hfew X.env) hline (hst X.env) (hpl X.env)).weak fun σ H Q ⟨ρ, δ, S, he, hs, q⟩ => ?_
  refine ⟨ρ, δ, S, he, hs, (okR.then q).mono fun w S1 H1 ρ1 f1 st1 p v r fs => ?_⟩
  split at p
  · rename_i hck
    refine ⟨by rw [ok.eK]; exact ty_L G H1 ρ1 S1 w v hck st1 r, ρ1, δ, S1, he.fr f1, st1, (okR.then p).mono fun w2 S2 H2 ρ2 f2 st2 p2 v2 r2 fs2 => ?_⟩
    refine ⟨ρ2, δ, S2, he.fr (f1.trans f2), st2, (bnd_ok (okR.then p2)).mono fun w3 S3 H3 ρ3 f3 st3 p3 v3 r3 fs3 => ?_⟩
    obtain ⟨d, S4, ρ4, rd, st4, f4, p4⟩ := p3 v3 r3 fs3
    split at p4
    · rename_i n i
      split at p4
      · rename_i ds hd
        split at p4
        · rename_i hb
          cases r2
          have er4 := (r.fr (f2.trans f4))
          cases er4 with
          | loc er =>
            obtain ⟨zs, h1, l⟩ := st4.obj _ _ _ hd er
            obtain ⟨st5, f5⟩ := st4.put (u := .lst (zs.take i.toNat ++ [v3] ++ zs.drop i.toNat)) (o := .lst (ds.take i.toNat ++ [d] ++ ds.drop i.toNat)) er fun sb => ⟨_, upd_same, (((l.sub sb).take _).append (.cons (rd.sub sb) .nil)).append ((l.sub sb).drop _)⟩
            have h2 := small62_of hb.2.2
            exact ⟨_, zs, i, v3, rfl, rfl, h1, by rw [← l.length]; exact hb.1, hb.2.1, by omega, p4 _ ρ4 f5 st5 .non .non True.intro⟩
        · exact p4.elim
      · exact p4.elim
    · exact p4.elim
  · exact p.elim
def max3 (i j k : Int) : Int := if (if i < j then j else i) < k then k else (if i < j then j else i)
def min3 (i j k : Int) : Int := if k < (if j < i then j else i) then k else (if j < i then j else i)
theorem nuM3 (i j k : Int) : nuMax3 (.int i) (.int j) (.int k) = some (.int (max3 i j k)) := by
  unfold nuMax3 nuMax2 nuLt nuCB max3
  by_cases h : i < j
  · by_cases h2 : j < k <;> simp [h, h2]
  · by_cases h2 : i < k <;> simp [h, h2]
theorem nuN3 (i j k : Int) : nuMin3 (.int i) (.int j) (.int k) = some (.int (min3 i j k)) := by
  unfold nuMin3 nuMin2 nuLt nuCB min3
  by_cases h : j < i
  · by_cases h2 : k < j <;> simp [h, h2]
  · by_cases h2 : k < i <;> simp [h, h2]
theorem sim_max3 {a b c : Expr} {ma mb mc : ME} {p pos} (j : Nat) (ha : SimE true I N sc a ma) (hb : SimE true I N sc b mb) (hc : SimE true I N sc c mc) (hj : I.bins[j]? = some "max" := by rfl) (hg : glob sc "max" = true := by rfl)
    (hs : ∀ env, starEach [a, b, c] env = (false, eval a env) :: starEach [b, c] env := by intro _; rfl) (hs2 : ∀ env, starEach [b, c] env = (false, eval b env) :: starEach [c] env := by intro _; rfl) (hs3 : ∀ env, starEach [c] env = (false, eval c env) :: starEach [] env := by intro _; rfl) (hpl : ∀ env, (backTo pos (starEach [b, c] env)).any (·.1) = false := by intro _; rfl) :
    SimE true I N sc (.Call (.Name "max" p) [a, b, c] [] pos) (eOf3 max3 ma mb mc) := fun G T Wx X hG ok => by
  refine (pe_callB (call_max3Nu ok.calm) (ok.gl hg) (by rw [ok.eM]; exact hG.bin j _ hj) PyProof.Rows.Boot.max (pa_cons (ha G T Wx X hG ok) (pa_cons (hb G T Wx X hG ok) (pa_cons (hc G T Wx X hG ok) pa_nil (hs3 X.env)) (hs2 X.env)) (hs X.env)) (by decide) (by decide) (hs X.env) (hpl X.env)).weak fun σ H Q ⟨ρ, δ, S, he, hst, q⟩ => ?_
  refine ⟨ρ, δ, S, he, hst, (okR.then q).mono fun x S1 H1 ρ1 f1 st1 q v r fs => ⟨ρ1, δ, S1, he.fr f1, st1, (okR.then q).mono fun y S2 H2 ρ2 f2 st2 q v2 r2 fs2 => ⟨ρ2, δ, S2, he.fr (f1.trans f2), st2, (okR.then q).mono fun z S3 H3 ρ3 f3 st3 q v3 r3 fs3 => ?_⟩⟩⟩
  split at q
  · cases r; cases r2; cases r3
    exact ⟨_, _, _, _, rfl, nuM3 _ _ _, q H3 ρ3 (Fr.refl _ _) st3 _ (.int _) True.intro⟩
  · exact q.elim
theorem sim_min3 {a b c : Expr} {ma mb mc : ME} {p pos} (j : Nat) (ha : SimE true I N sc a ma) (hb : SimE true I N sc b mb) (hc : SimE true I N sc c mc) (hj : I.bins[j]? = some "min" := by rfl) (hg : glob sc "min" = true := by rfl)
    (hs : ∀ env, starEach [a, b, c] env = (false, eval a env) :: starEach [b, c] env := by intro _; rfl) (hs2 : ∀ env, starEach [b, c] env = (false, eval b env) :: starEach [c] env := by intro _; rfl) (hs3 : ∀ env, starEach [c] env = (false, eval c env) :: starEach [] env := by intro _; rfl) (hpl : ∀ env, (backTo pos (starEach [b, c] env)).any (·.1) = false := by intro _; rfl) :
    SimE true I N sc (.Call (.Name "min" p) [a, b, c] [] pos) (eOf3 min3 ma mb mc) := fun G T Wx X hG ok => by
  refine (pe_callB (call_min3Nu ok.calm) (ok.gl hg) (by rw [ok.eM]; exact hG.bin j _ hj) PyProof.Rows.Boot.min (pa_cons (ha G T Wx X hG ok) (pa_cons (hb G T Wx X hG ok) (pa_cons (hc G T Wx X hG ok) pa_nil (hs3 X.env)) (hs2 X.env)) (hs X.env)) (by decide) (by decide) (hs X.env) (hpl X.env)).weak fun σ H Q ⟨ρ, δ, S, he, hst, q⟩ => ?_
  refine ⟨ρ, δ, S, he, hst, (okR.then q).mono fun x S1 H1 ρ1 f1 st1 q v r fs => ⟨ρ1, δ, S1, he.fr f1, st1, (okR.then q).mono fun y S2 H2 ρ2 f2 st2 q v2 r2 fs2 => ⟨ρ2, δ, S2, he.fr (f1.trans f2), st2, (okR.then q).mono fun z S3 H3 ρ3 f3 st3 q v3 r3 fs3 => ?_⟩⟩⟩
  split at q
  · cases r; cases r2; cases r3
    exact ⟨_, _, _, _, rfl, nuN3 _ _ _, q H3 ρ3 (Fr.refl _ _) st3 _ (.int _) True.intro⟩
  · exact q.elim
end
end MM
set_option maxRecDepth 100000
set_option maxHeartbeats 2000000
/-! MM: try with several except suites, each with or without a name. -/
namespace MM
open PySem PySem.Spec L2
abbrev HSpec := Value × Option Nat × (Addr → Value → Option Addr → TS)
/-- the wish of the suites in their sequence -/
def wMix (K : PySem.W.Frag) (Wout : WX) (D : Ends) : List HSpec → WX
  | [] => Wout
  | (c, none, ts) :: r => fun cls d σ H => ∃ b, W.exmOne K cls c = some b ∧ (b = true → ∀ a : Addr, H a = none → ts a cls d D σ H) ∧ (b = false → wMix K Wout D r cls d σ H)
  | (c, some i, ts) :: r => fun cls d σ H => ∃ b, W.exmOne K cls c = some b ∧
      (b = true → ∀ a : Addr, H a = none → ts a cls d { nx := fun σ' H' => D.nx (σ'.set i none) H', rt := D.rt, bk := fun σ' H' => D.bk (σ'.set i none) H', ct := fun σ' H' => D.ct (σ'.set i none) H' } (σ.set i (some (V.ref a))) H) ∧
      (b = false → wMix K Wout D r cls d σ H)
inductive HMix (X : Cx) : List ExceptHandler → List HSpec → Prop
  | nil : HMix X [] []
  | only {x : Str} {c : Value} {ts : Addr → Value → Option Addr → TS} {b₀ : Stmt} {suite : List Stmt} {np pos' : Pos} {hds : List ExceptHandler} {l : List HSpec} : Names X x c →
      (∀ (a : Addr) (oe : Obj) (cls : Value) (d : Option Addr) (pn : List (Addr × Obj)), Zc cls d oe → (∃ vs, oe.data = Data.fields vs) → PSs (X.suite a ((a, oe) :: pn)) (b₀ :: suite) (ts a cls d)) →
      HMix X hds l → HMix X (.ExceptHandler (some (.Name x np)) none (b₀ :: suite) pos' :: hds) ((c, none, ts) :: l)
  | as {x n : Str} {c : Value} {i : Nat} {ts : Addr → Value → Option Addr → TS} {b₀ : Stmt} {suite : List Stmt} {np pos' : Pos} {hds : List ExceptHandler} {l : List HSpec} : Names X x c → X.N[i]? = some n → X.env.kindOf n = some .local →
      (∀ (a : Addr) (oe : Obj) (cls : Value) (d : Option Addr) (pn : List (Addr × Obj)), Zc cls d oe → (∃ vs, oe.data = Data.fields vs) → PSs (X.suite a ((a, oe) :: pn)) (b₀ :: suite) (ts a cls d)) →
      HMix X hds l → HMix X (.ExceptHandler (some (.Name x np)) (some n) (b₀ :: suite) pos' :: hds) ((c, some i, ts) :: l)
theorem ps_try_mix {X : Cx} {body : List Stmt} {h₀ : ExceptHandler} {hds : List ExceptHandler} {l : List HSpec} {pos : Pos} {tb : WX → TS} {Wout : WX} (hs : X.stack = X.env :: X.outer) (hf : X.env.frame = some X.env.locals) (hN : X.N.Nodup) (tk : Takes X Wout)
    (hb : ∀ (W : WX) (pn : List (Addr × Obj)) (xe : Value → Shared → Prop), Takes (X.tr pn xe) W → PassesOwn (model X.prog X.w) X.A X.env xe → PSs (X.tr pn xe) body (tb W)) (hh : HMix X (h₀ :: hds) l) :
    PS X (.Try body (h₀ :: hds) [] [] pos) fun D σ H => tb (wMix X.K Wout D l) D σ H := ⟨fun pins s σ H D I h => by
  have ok := I.ok
  have hfr := ok.frames
  rw [hs] at hfr
  refine wpAny_Try_except (wpAny_mono ((hb (wMix X.K Wout D l) (X.pn ++ pins) (fun e s₁ => wpAny (model X.prog X.w) X.A (noteFrame e X.env) (fun x s₂ => wpAny (model X.prog X.w) X.A (setFlight e none) (fun x s₃ => wpAny (model X.prog X.w) X.A (handleBy e X.env (h₀ :: hds)) (SP X pins D) X.xe s₃) X.xe s₂) X.xe s₁) ?TK PassesOwn.looking).run [] s σ H D (Inv.toTry I _) h) ?A ?B)
  case B => exact fun e s1 he => he
  case A =>
    intro f s1 hsp
    cases f with
    | next =>
      obtain ⟨σ', H', J', q⟩ := hsp
      exact wpAny_execs_nil ⟨σ', H', Inv.ofTry J' ok, q⟩
    | brk =>
      obtain ⟨σ', H', J', q⟩ := hsp
      exact ⟨σ', H', Inv.ofTry J' ok, q⟩
    | cont =>
      obtain ⟨σ', H', J', q⟩ := hsp
      exact ⟨σ', H', Inv.ofTry J' ok, q⟩
    | ret u =>
      obtain ⟨v, σ', H', J', r, q⟩ := hsp
      exact ⟨v, σ', H', Inv.ofTry J' ok, r, q⟩
  case TK =>
    intro u s' xx
    obtain ⟨a, B, sI, pins', σ', H', cls, d, rfl, J', nb, up, sky, na, os, ag, w⟩ := xx
    have J := Inv.ofTry J' ok
    have sky' : Sky B (X.env :: X.outer) a (Zc cls d) X.env.locals s'.heap := by rw [← hs]; exact sky
    refine Sky.land Zc.steady hfr hf sky' fun h3 fl3 up3 => ?_
    have J3 : L2.Inv X pins σ' H' { heap := h3, gens := s'.gens, drawn := s'.drawn, toks := s'.toks, os := s'.os } := J.landed nb fl3.1 (up.trans up3) os ag
    obtain ⟨oe3, vs3, he3, hz3, hd3⟩ := fl3.there
    have nfr : ¬ a ∈ (X.env :: X.outer).filterMap (fun x => x.frame) := fun hm => by
      obtain ⟨_, o', e', hnf⟩ := Heap.FunFrames.mem fl3.2.2.1 hm
      have e' : h3.get? a = some o' := e'
      rw [he3] at e'
      cases e'
      exact hnf vs3 hd3
    have nL : a ≠ X.env.locals := fun z => nfr (List.mem_filterMap.mpr ⟨X.env, List.mem_cons_self, by rw [hf, z]⟩)
    have nF : ¬ a ∈ X.fs := fun hm => by
      obtain ⟨e, he, q⟩ := List.mem_filterMap.mp hm
      exact nfr (List.mem_filterMap.mpr ⟨e, List.mem_cons_of_mem _ he, q⟩)
    have S3 := J3.suite he3 hd3 na nL nF
    have go : ∀ {hds' : List ExceptHandler} {l' : List HSpec}, HMix X hds' l' → wMix X.K Wout D l' cls d σ' H' → wpAny (model X.prog X.w) X.A (handleBy (Value.ref a) X.env hds') (SP X pins D) X.xe { heap := h3, gens := s'.gens, drawn := s'.drawn, toks := s'.toks, os := s'.os } := by
      intro hds' l' hk
      induction hk with
      | nil =>
        intro w
        refine wpAny_handleBy_nil ?_
        obtain ⟨k1, k2, k3, oe, vs, T, oT, ts', he, hz, hd, h1, hr⟩ := id fl3
        refine wpAny_bind (wpAny_field he hd h1 ?_)
        rw [if_neg (by simp)]
        have fin : wpAny (model X.prog X.w) X.A (setFlight (Value.ref a) X.env.frame) (fun x s4 => wpAny (model X.prog X.w) X.A (throw (Value.ref a)) (SP X pins D) X.xe s4) X.xe { heap := h3, gens := s'.gens, drawn := s'.drawn, toks := s'.toks, os := s'.os } := by
          rw [hf]
          refine HandSPX.setFlight_upZ fl3 fun h4 hh4 up4 => wpAny_throw (tk (Value.ref a) _ ⟨a, B, sI, pins, σ', H', cls, d, rfl, J, nb, (up.trans up3).trans up4, .inr (.inr (by rw [hs]; exact hh4)), na, os, ag, w⟩)
        exact wpAny_bind fin
      | @only x c ts b₀ suite np pos' hds2 l2 hc hsu r ih =>
        intro w
        obtain ⟨b, hb1, hyes, hno⟩ := w
        refine wpAny_handleBy_cons (codeAny_handlers_test ?_) (fun q => nomatch q)
        have LT : W.Looks (model X.prog X.w) h3 (typeOf (Value.ref a)) cls := fun A Q E s k q => wpAny_typeOf_ref (k a oe3 he3) (by rw [hz3.1]; exact q)
        have LM := W.exm_one J3.kIn LT hb1
        obtain ⟨hg, hdbg, hor⟩ := hc
        have test : ∀ {Q : Value → Shared → Prop} {E : Value → Shared → Prop}, Q c { heap := h3, gens := s'.gens, drawn := s'.drawn, toks := s'.toks, os := s'.os } → wpAny (model X.prog X.w) (X.A.mark (some (.ref a))) (eval (.Name x np) X.env) Q E { heap := h3, gens := s'.gens, drawn := s'.drawn, toks := s'.toks, os := s'.os } := fun {Q E} q => by
          rcases hor with hm | ⟨hm, hv, hnn⟩
          · exact ld_glob S3 hg hm q hdbg
          · exact ld_blt S3 hg hm hv q hnn hdbg
        refine test (LM.here ?_)
        cases b with
        | false => exact ih (hno rfl)
        | true =>
          refine codeAny_handlers_suite (HandSPX.lands_againZ fl3 fun h4 fl4 up4 => ?_)
          have J4 : L2.Inv X pins σ' H' { heap := h4, gens := s'.gens, drawn := s'.drawn, toks := s'.toks, os := s'.os } := J.landed nb fl4.1 ((up.trans up3).trans up4) os ag
          obtain ⟨oe4, vs4, he4, hz4, hd4⟩ := fl4.there
          have S4 := J4.suite he4 hd4 na nL nF
          refine wpAny_mono ((hsu a oe4 cls d (X.pn ++ pins) hz4 ⟨vs4, hd4⟩).run [] _ σ' H' D S4 (hyes rfl a na)) (fun f s6 hsp => ?_) (fun x x_1 z => False.elim z)
          cases f with
          | next =>
            obtain ⟨σ6, H6, S6, q6⟩ := hsp
            exact ⟨σ6, H6, Inv.unsuite S6 ok, q6⟩
          | brk =>
            obtain ⟨σ6, H6, S6, q6⟩ := hsp
            exact ⟨σ6, H6, Inv.unsuite S6 ok, q6⟩
          | cont =>
            obtain ⟨σ6, H6, S6, q6⟩ := hsp
            exact ⟨σ6, H6, Inv.unsuite S6 ok, q6⟩
          | ret u =>
            obtain ⟨v6, σ6, H6, S6, r6, q6⟩ := hsp
            exact ⟨v6, σ6, H6, Inv.unsuite S6 ok, r6, q6⟩
      | @as x n c i ts b₀ suite np pos' hds2 l2 hc hi hln hsu r ih =>
        intro w
        obtain ⟨b, hb1, hyes, hno⟩ := w
        refine wpAny_handleBy_cons (codeAny_handlers_test ?_) (fun q => nomatch q)
        have LT : W.Looks (model X.prog X.w) h3 (typeOf (Value.ref a)) cls := fun A Q E s k q => wpAny_typeOf_ref (k a oe3 he3) (by rw [hz3.1]; exact q)
        have LM := W.exm_one J3.kIn LT hb1
        obtain ⟨hg, hdbg, hor⟩ := hc
        have test : ∀ {Q : Value → Shared → Prop} {E : Value → Shared → Prop}, Q c { heap := h3, gens := s'.gens, drawn := s'.drawn, toks := s'.toks, os := s'.os } → wpAny (model X.prog X.w) (X.A.mark (some (.ref a))) (eval (.Name x np) X.env) Q E { heap := h3, gens := s'.gens, drawn := s'.drawn, toks := s'.toks, os := s'.os } := fun {Q E} q => by
          rcases hor with hm | ⟨hm, hv, hnn⟩
          · exact ld_glob S3 hg hm q hdbg
          · exact ld_blt S3 hg hm hv q hnn hdbg
        refine test (LM.here ?_)
        cases b with
        | false => exact ih (hno rfl)
        | true =>
          have hloc : L2.Loc X.env.scope n := .inl hln
          refine codeAny_handlers_suite_as (HandSPX.lands_againZ fl3 fun h4 fl4 up4 => ?_)
          have J4 : L2.Inv X pins σ' H' { heap := h4, gens := s'.gens, drawn := s'.drawn, toks := s'.toks, os := s'.os } := J.landed nb fl4.1 ((up.trans up3).trans up4) os ag
          obtain ⟨oe4, vs4, he4, hz4, hd4⟩ := fl4.there
          have S4 := J4.suite he4 hd4 na nL nF
          refine store_ok (X := X.suite a ((a, oe4) :: (X.pn ++ pins))) (v := V.ref a) S4 hN hi hloc rfl (fun s5 S5 => wpAny_mono ((hsu a oe4 cls d (X.pn ++ pins) hz4 ⟨vs4, hd4⟩).run [] s5 (σ'.set i (some (V.ref a))) H' _ S5 (hyes rfl a na)) (fun f s6 hsp => ?_) (fun x x_1 z => False.elim z)) (.inr hln)
          cases f with
          | next =>
            obtain ⟨σ6, H6, S6, q6⟩ := hsp
            exact gone_ok (Inv.unsuite S6 ok) hN hi hln fun s7 J7 => ⟨σ6.set i none, H6, J7, q6⟩
          | brk =>
            obtain ⟨σ6, H6, S6, q6⟩ := hsp
            exact gone_ok (Inv.unsuite S6 ok) hN hi hln fun s7 J7 => ⟨σ6.set i none, H6, J7, q6⟩
          | cont =>
            obtain ⟨σ6, H6, S6, q6⟩ := hsp
            exact gone_ok (Inv.unsuite S6 ok) hN hi hln fun s7 J7 => ⟨σ6.set i none, H6, J7, q6⟩
          | ret u =>
            obtain ⟨v6, σ6, H6, S6, r6, q6⟩ := hsp
            exact gone_ok (Inv.unsuite S6 ok) hN hi hln fun s7 J7 => ⟨v6, σ6.set i none, H6, J7, r6, q6⟩
    exact go hh w⟩
/-! ### the term -/
def tryGo (m : List Nat) (c : Nat) (ds : List D) : List (Nat × Option Nat × MX) → MS
  | [] => fun _ δ S => .exc c ds δ S
  | (j, i, s) :: r => fun T δ S => if m.contains j = true then (match i with
    | some i => if i < δ.length then ((s c ds T (δ.set i none) S).nox).thenS δ fun w S2 => .rt w S2 else .bad
    | none => ((s c ds T δ S).nox).thenS δ fun w S2 => .rt w S2) else tryGo m c ds r T δ S
/-- try: b / except ..: return s1 / except ..: return s2 .. -/
def sTryM (b : MS) (mros : List (List Nat)) (l : List (Nat × Option Nat × MX)) : MS := fun T δ S => match b T δ S with
  | .exc c ds δ1 S1 => match mros[c]? with
    | some m => tryGo m c ds l T δ1 S1
    | none => .bad
  | r => r
section
variable (I : Info) (N : List Str) (sc : Scope)
inductive SimH : List ExceptHandler → List (Nat × Option Nat × MX) → Prop
  | nil : SimH [] []
  | only {x : Str} {e : Expr} {m : MX} {np pos' rp : Pos} {hs : List ExceptHandler} {l : List (Nat × Option Nat × MX)} (j : Nat) {ej : EI} (hj : I.excs[j]? = some ej) (hx : ej.name = x) (h : SimX I N sc none e m) (hgx : glob sc x = true) (hdx : (x == ("__debug__" : Str)) = false) :
      SimH hs l → SimH (.ExceptHandler (some (.Name x np)) none [.Return (some e) rp] pos' :: hs) ((j, none, m) :: l)
  | as {x n : Str} {e : Expr} {m : MX} {np pos' rp : Pos} {hs : List ExceptHandler} {l : List (Nat × Option Nat × MX)} (j i : Nat) {ej : EI} (hj : I.excs[j]? = some ej) (hx : ej.name = x) (h : SimX I N sc (some i) e m) (hi : N[i]? = some n) (hln : sc.names.lookup n = some .local) (hgx : glob sc x = true) (hdx : (x == ("__debug__" : Str)) = false) :
      SimH hs l → SimH (.ExceptHandler (some (.Name x np)) (some n) [.Return (some e) rp] pos' :: hs) ((j, some i, m) :: l)
end
section
variable {I : Info} {N : List Str} {sc : Scope} {G : Gc} {T : FT} {Wx : WX} {H : Hp} {ρ : List Addr} {δ : Env} {S : Sto} {σ : L2.St}
def specH (G : Gc) (T : FT) (l : List (Nat × Option Nat × MX)) : List HSpec := l.map fun x => (.ref (G.xa x.1), x.2.1, rdTry G T x.2.1 x.2.2)
theorem simH_mix {X : Cx} {hs : List ExceptHandler} {l : List (Nat × Option Nat × MX)} (h : SimH I N sc hs l) (ok : XOk I G T N sc Wx X) (hG : GOk I G) : HMix X hs (specH G T l) := by
  induction h with
  | nil => exact .nil
  | @only x e m np pos' rp hs l j ej hj hx h hgx hdx _ ih =>
    have gj := hG.exc j ej hj
    subst hx
    exact .only ⟨ok.gl hgx, hdx, .inl (by rw [ok.eM]; exact gj.nm)⟩ (fun a oe cls d pn hz hf => try_suite ok hG h hz hf) ih
  | @as x n e m np pos' rp hs l j i ej hj hx h hi hln hgx hdx _ ih =>
    have gj := hG.exc j ej hj
    subst hx
    exact .as ⟨ok.gl hgx, hdx, .inl (by rw [ok.eM]; exact gj.nm)⟩ (by rw [ok.eN]; exact hi) (by show X.env.scope.names.lookup n = _; rw [ok.eS]; exact hln) (fun a oe cls d pn hz hf => try_suite ok hG h hz hf) ih
theorem mix_wish {X : Cx} {hs : List ExceptHandler} {l : List (Nat × Option Nat × MX)} (h : SimH I N sc hs l) (ok : XOk I G T N sc Wx X) (hG : GOk I G) {Dn : Ends} {c : Nat} {ds : List D} {δ1 : Env} {S1 : Sto} {σ' : L2.St} {H' : Hp} {ρ' : List Addr} {cls : Value} {d : Option Addr} {ei : EI}
    (h1 : I.excs[c]? = some ei) (he' : EnvRep G H' ρ' δ1 σ') (st : StOk G H' ρ' S1) (xr : ExcRep G H' ρ' c ds cls d) (q : okF G H' ρ' Wx Dn (tryGo ei.mro c ds l T δ1 S1)) : wMix X.K Wx Dn (specH G T l) cls d σ' H' := by
  induction h with
  | nil => exact q σ' H' ρ' cls d (Fr.refl _ _) st he' xr
  | @only x e m np pos' rp hs l j ej hj hx h hgx hdx _ ih =>
    refine ⟨ei.mro.contains j, by rw [ok.eK, xr.1]; exact (hG.exm c j ei ej h1 hj).1, fun hc a na => ?_, fun hc => ?_⟩
    · unfold tryGo at q
      dsimp only at q
      rw [if_pos hc] at q
      refine ⟨c, ds, ρ', δ1, S1, he', st, ⟨fun i z => (by cases z), xr⟩, nox_okR ((okF.thenO he' q).mono fun w S2 H2 ρ2 f2 st2 p v r fs => ?_)⟩
      exact p H2 ρ2 v f2 st2 r fs
    · unfold tryGo at q
      dsimp only at q
      rw [if_neg (by rw [hc]; exact Bool.false_ne_true)] at q
      exact ih q
  | @as x n e m np pos' rp hs l j i ej hj hx h hi hln hgx hdx _ ih =>
    refine ⟨ei.mro.contains j, by rw [ok.eK, xr.1]; exact (hG.exm c j ei ej h1 hj).1, fun hc a na => ?_, fun hc => ?_⟩
    · unfold tryGo at q
      dsimp only at q
      rw [if_pos hc] at q
      split at q
      · rename_i hlt
        have hc2 := (Env_clear (i := i) (v := some (.ref a)) he')
        refine ⟨c, ds, ρ', δ1.set i none, S1, hc2, st, ⟨fun k z => ?_, xr⟩, (nox_okR (okF.thenO he' q)).mono' fun w S2 H2 ρ2 f2 st2 p v r fs => ?_⟩
        · cases z
          rw [List.getElem?_set_self (by rw [← he'.len]; exact hlt)]
        · exact p H2 ρ2 v f2 st2 r fs
      · exact q.elim
    · unfold tryGo at q
      dsimp only at q
      rw [if_neg (by rw [hc]; exact Bool.false_ne_true)] at q
      exact ih q
theorem sims_tryM {body : List Stmt} {mb : MS} {h₀ : ExceptHandler} {hds : List ExceptHandler} {l : List (Nat × Option Nat × MX)} {pos : Pos} (mros : List (List Nat)) (hb : SimB I N sc body mb) (hs : SimH I N sc (h₀ :: hds) l) (ht : mros = I.excs.map (·.mro) := by rfl) :
    SimS I N sc (.Try body (h₀ :: hds) [] [] pos) (sTryM mb mros l) := fun G T Wx X hG ok => by
  refine (ps_try_mix (tb := fun W => rdS G T W mb) (Wout := Wx) ok.stk ok.frm (by rw [ok.eN]; exact ok.nd) ok.tk (fun W pn xe tk po => hb G T W _ hG (ok.tr tk po)) (simH_mix hs ok hG)).weak fun D σ H ⟨ρ, δ, S, he, hst, q⟩ => ?_
  refine ⟨ρ, δ, S, he, hst, ?_⟩
  unfold sTryM at q
  cases hr : mb T δ S with
  | nx δ1 S1 => rw [hr] at q; exact q
  | bk δ1 S1 => rw [hr] at q; exact q
  | ct δ1 S1 => rw [hr] at q; exact q
  | rt w S1 => rw [hr] at q; exact q
  | bad => rw [hr] at q; exact q
  | exc c ds δ1 S1 =>
    rw [hr] at q
    dsimp only at q
    intro σ' H' ρ' cls d f st he' xr
    split at q
    · rename_i mm em
      rw [ht, List.getElem?_map] at em
      obtain ⟨ei, h1, h2⟩ := Option.map_eq_some_iff.mp em
      subst h2
      exact mix_wish hs ok hG h1 he' st xr (okF.later q f st)
    · exact q.elim
end
/-! ### xs.index(y) of flat things -/
def flatD : D → Bool
  | .non => true
  | .bl _ => true
  | .int _ => true
  | .str _ => true
  | _ => false
def eqF : D → D → Bool
  | .non, .non => true
  | .bl a, .bl b => a == b
  | .bl a, .int b => (if a = true then 1 else 0) == b
  | .int a, .bl b => a == if b = true then 1 else 0
  | .int a, .int b => a == b
  | .str a, .str b => a == b
  | _, _ => false
def bIndex : B2 := fun x y S => match x.lq S, y with
  | some ds, .val d => if (flatD d && ds.all flatD) = true then (ds.findIdx? fun z => eqF z d).map fun (j : Nat) => W.val (.int (j : Int)) else none
  | _, _ => none
def isQ (x : W) (S : Sto) : Bool := (x.lq S).isSome
section
variable {cl : Bool} {I : Info} {N : List Str} {sc : Scope} {G : Gc} {T : FT} {Wx : WX} {H : Hp} {ρ : List Addr} {δ : MM.Env} {S : Sto} {σ : L2.St}
theorem ty_Q : TyOk "list" isQ := fun G H ρ S w v h st r => by
  obtain ⟨ds, e⟩ := Option.isSome_iff_exists.mp h
  obtain ⟨a, xs, rfl, h1, l⟩ := W.lq_rep e st r
  exact .inl ⟨rfl, xs, h1⟩
theorem flatx_rep {d : D} {v : V} (h : flatD d = true) (r : Rep G H ρ d v) : flatV v = true := by
  cases r <;> first | rfl | cases h
theorem eqF_rep {d e : D} {v u : V} (h : flatD d = true) (h2 : flatD e = true) (r : Rep G H ρ d v) (r2 : Rep G H ρ e u) : eqV v u = eqF d e := by
  cases r <;> first | (cases h; done) | (cases r2 <;> first | rfl | cases h2)
theorem ok_index : E2Ok "list.index" (ofB2 bIndex) := fun X G eK hu hc pins s σ H x xs v us Q I rx rs ⟨y, ρ, S, wx, wy, w, S', H0, ρ0, ex, st, f0, r1, r2, fs, e, q⟩ => by
  subst ex
  obtain ⟨w', e', h⟩ := Option.map_eq_some_iff.mp e
  cases h
  unfold bIndex at e'
  split at e'
  · rename_i ds d hd
    split at e'
    · rename_i hf
      rw [Bool.and_eq_true] at hf
      obtain ⟨j, hj, e'⟩ := Option.map_eq_some_iff.mp e'
      cases e'
      obtain ⟨a, ys, rfl, h1, l⟩ := W.lq_rep hd st r1
      have r2 : Rep G H ρ d y := r2
      obtain ⟨hlt, hp, hn⟩ := List.findIdx?_eq_some_iff_getElem.mp hj
      obtain ⟨z, hz, rz⟩ := l.get (List.getElem?_eq_getElem hlt)
      have hall := List.all_eq_true.mp hf.2
      have fz : ∀ (m : Nat) (z' : V), ys[m]? = some z' → ∃ dz, ds[m]? = some dz ∧ Rep G H ρ dz z' := fun m z' h => by
        have hm : m < ds.length := by rw [l.length]; exact (List.getElem?_eq_some_iff.mp h).1
        obtain ⟨z2, h2, r⟩ := l.get (List.getElem?_eq_getElem hm)
        rw [h] at h2
        cases h2
        exact ⟨_, List.getElem?_eq_getElem hm, r⟩
      exact mt_index pins s σ H _ _ v us Q I rx rs ⟨a, ys, y, j, z, rfl, rfl, by rw [eK]; exact h1, flatx_rep hf.1 r2, by
        rw [List.all_eq_true]
        intro z' hz'
        obtain ⟨m, hm⟩ := List.getElem?_of_mem hz'
        obtain ⟨dz, g1, g2⟩ := fz m z' hm
        exact flatx_rep (hall dz (List.mem_of_getElem? g1)) g2, hz, by
        rw [eqF_rep (hall _ (List.getElem_mem hlt)) hf.1 rz r2]; exact hp, fun m z' hm hz' => by
        obtain ⟨dz, g1, g2⟩ := fz m z' hz'
        rw [eqF_rep (hall dz (List.mem_of_getElem? g1)) hf.1 g2 r2]
        have := hn m hm
        obtain ⟨hlm, e3⟩ := List.getElem?_eq_some_iff.mp g1
        rw [e3] at this
        exact eq_false_of_ne_true this, q H ρ _ f0 st (.int _) True.intro⟩
    · cases e'
  · cases e'
end
/-! ### targets of any make: a, xs[i], .. = e -/
abbrev MGt := FT → D → Env → Sto → R Env
def gtName (i : Nat) : MGt := fun _ d δ S => if i < δ.length then .ok (δ.set i d) S else .bad
def gtSub (o i : ME) : MGt := fun T d δ S => (o T δ S).then fun x S1 => (i T δ S1).then fun y S2 => match setW x y d S2 with
  | some S3 => .ok δ S3
  | none => .bad
def gtAll : List MGt → FT → List D → Env → Sto → R Env
  | [], _, [], δ, S => .ok δ S
  | g :: gs, T, d :: ds, δ, S => (g T d δ S).then fun δ1 S1 => gtAll gs T ds δ1 S1
  | _, _, _, _, _ => .bad
def gtTup (gs : List MGt) : MGt := fun T d δ S => match W.any S (.val d) with
  | some ds => if ds.length = gs.length then gtAll gs T ds δ S else .bad
  | none => .bad
def sAsgG (g : MGt) (m : ME) : MS := fun T δ S => (bnd m T δ S).thenS δ fun d S1 => ((g T d δ S1).nox).thenS δ fun δ1 S2 => .nx δ1 S2
section
variable {I : Info} {N : List Str} {sc : Scope} {G : Gc} {T : FT} {Wx : WX} {H : Hp} {ρ : List Addr} {δ : MM.Env} {S : Sto} {σ : L2.St}
def rdQ (G : Gc) (T : FT) (g : MGt) : TG := fun v σ H Q => ∃ ρ δ S d, EnvRep G H ρ δ σ ∧ StOk G H ρ S ∧ Rep G H ρ d v ∧
  okR G H ρ WX0 σ (fun δ1 _ H1 ρ1 => ∀ σ1, EnvRep G H1 ρ1 δ1 σ1 → Q σ1 H1) (g T d δ S)
def rdQs (G : Gc) (T : FT) (gs : List MGt) : TGs := fun vs σ H Q => ∃ ρ δ S ds, EnvRep G H ρ δ σ ∧ StOk G H ρ S ∧ RepL G H ρ ds vs ∧
  okR G H ρ WX0 σ (fun δ1 _ H1 ρ1 => ∀ σ1, EnvRep G H1 ρ1 δ1 σ1 → Q σ1 H1) (gtAll gs T ds δ S)
def SimGt (I : Info) (N : List Str) (sc : Scope) (e : Expr) (g : MGt) : Prop := ∀ (G : Gc) (T : FT) (Wx : WX) (X : Cx), GOk I G → XOk I G T N sc Wx X → PG X e (rdQ G T g)
def SimGts (I : Info) (N : List Str) (sc : Scope) (es : List Expr) (gs : List MGt) : Prop := ∀ (G : Gc) (T : FT) (Wx : WX) (X : Cx), GOk I G → XOk I G T N sc Wx X → PGs X es (rdQs G T gs)
theorem simgt_name {x : Str} {pos} (i : Nat) (hi : N[i]? = some x := by rfl) (hk : kindL sc x = true := by rfl) : SimGt I N sc (.Name x pos) (gtName i) := fun G T Wx X hG ok =>
  ⟨fun pins s σ H v u Q I r ⟨ρ, δ, S, d, he, hs, hr, q⟩ => by
    refine (pg_name (i := i) (by rw [ok.eN]; exact ok.nd) (by rw [ok.eN]; exact hi) (by rw [ok.eS]; exact loc_of hk) (ok.st hk)).run pins s σ H v u Q I r ?_
    unfold gtName at q
    split at q
    · exact q H ρ (Fr.refl _ _) hs _ (he.set hr)
    · exact q.elim⟩
theorem okR_any {α : Type} {P : α → Sto → Hp → List Addr → Prop} {r : R α} {σ' : L2.St} (h : okR G H ρ WX0 σ P r) : okR G H ρ Wx σ' P r := by
  cases r with
  | ok a S => exact h
  | exc c ds S => exact fun H' ρ' cls d f st x => (h H' ρ' cls d f st x).elim
  | bad => exact h
theorem nox_okR' {α : Type} {P : α → Sto → Hp → List Addr → Prop} {r : R α} (h : okR G H ρ Wx σ P r.nox) : okR G H ρ WX0 σ P r := by
  cases r with
  | ok a S => exact h
  | exc c ds S => exact h.elim
  | bad => exact h
theorem okR_nox {α : Type} {P : α → Sto → Hp → List Addr → Prop} {r : R α} (h : okR G H ρ Wx σ P r.nox) : okR G H ρ Wx σ P r := by
  cases r with
  | ok a S => exact h
  | exc c ds S => exact h.elim
  | bad => exact h
theorem simgt_sub {o i : Expr} {mo mi : ME} {pos : Pos} (ho : SimE true I N sc o mo) (hi : SimE true I N sc i mi)
    (hsb : ∀ X : Cx, ∀ to ti t, PE X o to → PE X i ti → PSet X t → PG X (.Subscript o i pos) (gSub to ti t) := by exact fun X to ti t h1 h2 h3 => pg_sub h1 h2 h3) : SimGt I N sc (.Subscript o i pos) (gtSub mo mi) := fun G T Wx X hG ok =>
  ⟨fun pins s σ H v u Q J r ⟨ρ, δ, S, d, he, hs, hr, q⟩ => by
    refine (hsb X _ _ _ (ho G T Wx X hG ok.toXOk0) (hi G T Wx X hG ok.toXOk0) (set_any (G := G) ok.eK ok.units)).run pins s σ H v u Q J r ?_
    unfold gtSub at q
    refine ⟨ρ, δ, S, he, hs, (okR.then (okR_any (Wx := Wx) (σ' := σ) q)).mono fun w3 S3 H3 ρ3 f3 st3 p3 v3 r3 fs3 => ?_⟩
    refine ⟨ρ3, δ, S3, he.fr f3, st3, (okR.thenO p3).mono fun w4 S4 H4 ρ4 f4 st4 p4 v4 r4 fs4 => ?_⟩
    split at p4
    · rename_i S5 e
      exact ⟨ρ4, S4, w3, w4, d, S5, st4, r3.fr f4, r4, hr.fr (f3.trans f4), e, fun H' f5 st5 => p4 H' ρ4 (f4.trans f5) st5 σ (he.fr (f3.trans (f4.trans f5)))⟩
    · exact p4.elim⟩
theorem simgts_nil : SimGts I N sc [] [] := fun G T Wx X hG ok =>
  ⟨fun pins s σ H vs us Q J r ⟨ρ, δ, S, ds, he, hs, hr, q⟩ => by
    refine (pgs_nil (X := X)).run pins s σ H vs us Q J r ?_
    cases ds with
    | nil =>
      cases hr
      exact ⟨rfl, q H ρ (Fr.refl _ _) hs σ he⟩
    | cons d ds => exact q.elim⟩
theorem simgts_cons {e : Expr} {es : List Expr} {g : MGt} {gs : List MGt} (h : SimGt I N sc e g) (hr : SimGts I N sc es gs)
    (hm : ∀ env, (assignEach (e :: es) env).map (fun x => x.2) = assign e env :: (assignEach es env).map (fun x => x.2) := by intro _; rfl) : SimGts I N sc (e :: es) (g :: gs) := fun G T Wx X hG ok =>
  ⟨fun pins s σ H vs us Q J r ⟨ρ, δ, S, ds, he, hs, hl, q⟩ => by
    refine (pgs_cons (h G T Wx X hG ok) (hr G T Wx X hG ok) (hm X.env)).run pins s σ H vs us Q J r ?_
    cases ds with
    | nil => exact q.elim
    | cons d ds =>
      cases hl with
      | cons r1 l =>
        unfold gtAll at q
        refine ⟨_, _, rfl, ρ, δ, S, d, he, hs, r1, (okR.then q).mono fun δ1 S1 H1 ρ1 f1 st1 p σ1 he1 => ?_⟩
        exact ⟨ρ1, δ1, S1, ds, he1, st1, l.fr f1, okR_any p⟩⟩
theorem simgt_tup {es : List Expr} {gs : List MGt} {k : Nat} {pos : Pos} (h : SimGts I N sc es gs) (hn : ∀ env, (assignEach es env).length = gs.length := by intro _; rfl) (hst : ∀ env, (assignEach es env).findIdx? (·.1) = none := by intro _; rfl) : SimGt I N sc (.Tuple es k pos) (gtTup gs) := fun G T Wx X hG ok =>
  ⟨fun pins s σ H v u Q J r ⟨ρ, δ, S, d, he, hs, hr, q⟩ => by
    refine (pg_any (n := gs.length) ok.calm (h G T Wx X hG ok) (hn X.env) (hst X.env)).run pins s σ H v u Q J r ?_
    unfold gtTup at q
    split at q
    · rename_i ds hd
      obtain ⟨a, xs, rfl, h1, l⟩ := W.any_rep hd hs hr
      split at q
      · rename_i hlen
        exact ⟨a, xs, rfl, by rw [ok.eK]; exact h1, by rw [← l.length]; exact hlen, ρ, δ, S, ds, he, hs, l, q⟩
      · exact q.elim
    · exact q.elim⟩
theorem sims_setG {es : List Expr} {gs : List MGt} {e : Expr} {m : ME} {k : Nat} {pos pos' : Pos} (hg : SimGt I N sc (.Tuple es k pos') (gtTup gs)) (h : SimE true I N sc e m)
    (hs : ∀ env, swapsWithSole [.Tuple es k pos'] e pos.line env = pure false := by intro _; rfl) (hw : ∀ env, env.scope = sc → swappedStores [.Tuple es k pos'] e env = pure none := by intro env h; cases env; cases h; rfl) :
    SimS I N sc (.Assign [.Tuple es k pos'] e pos) (sAsgG (gtTup gs) m) := fun G T Wx X hG ok => by
  refine (ps_asg (h G T Wx X hG ok.toXOk0) (hg G T Wx X hG ok) (hs X.env) (hw X.env ok.eS)).weak fun D σ H ⟨ρ, δ, S, he, hs, q⟩ => ?_
  refine ⟨ρ, δ, S, he, hs, (bnd_ok (okF.thenS he q)).mono fun w S1 H1 ρ1 f1 st1 p v r fs => ?_⟩
  obtain ⟨d, S2, ρ2, rd, st2, f2, p⟩ := p v r fs
  refine ⟨ρ2, δ, S2, d, he.fr f2, st2, rd, (nox_okR' (okF.thenO (he.fr f2) p)).mono fun δ1 S3 H3 ρ3 f3 st3 p3 σ1 he1 => ?_⟩
  exact p3 σ1 H3 ρ3 f3 st3 he1
theorem sims_setH {x : Str} {e : Expr} {m : ME} {pos pos' : Pos} (i : Nat) (h : SimE true I N sc e m) (hN : N[i]? = some x := by rfl) (hk : kindL sc x = true := by rfl) (hs : ∀ env, env.scope = sc → swapsWith e (some (.Name x pos')) pos.line env = pure false := by intro env h; cases env; cases h; rfl) :
    SimS I N sc (.Assign [.Name x pos'] e pos) (sAsg i m) := fun G T Wx X hG ok =>
  (ps_set (i := i) (by rw [ok.eN]; exact ok.nd) (by rw [ok.eN]; exact hN) (by rw [ok.eS]; exact loc_of hk) (h G T Wx X hG ok.toXOk0) (hs X.env ok.eS) (ok.st hk)).weak fun D σ H ⟨ρ, δ, S, he, hs, q⟩ => set_read he hs q
end
end MM
set_option maxRecDepth 100000
/-! MPL: expressions as trees; what many laws need. -/
namespace MM
open PySem L2
@[simp] theorem ap_eZ (m : ME) (T : FT) (δ : MM.Env) (S : Sto) : eZ m T δ S = (m T δ S).then fun w S1 => .ok (frzW w) S1 := rfl
@[simp] theorem frzW_val (d : D) : frzW (.val d) = .val d := rfl
@[simp] theorem frzW_lst (ds : List D) : frzW (.tmp (.lst ds)) = .val (.frz ds) := rfl
@[simp] theorem frzW_dct (kvs : List (Key × D)) : frzW (.tmp (.dct kvs)) = .val (.fdc (kvs.map (·.1)) (kvs.map (·.2))) := rfl
@[simp] theorem clean_frz (L : Nat) (ds : List D) : (D.frz ds).clean L = cleanL L ds := (by rw [D.clean])
theorem Kept.take {S S' : Sto} (h : Kept S S') : Kept S (S'.take S.length) := by
  refine ⟨by rw [List.length_take]; have := h.1; omega, fun n hn => ?_⟩
  rw [List.getElem?_take, if_pos hn]
  exact h.2 n hn
theorem gc_idem (S : Sto) (r : R W) : gc S (gc S r) = gc S r := by
  have tt : ∀ S' : Sto, (S'.take S.length).take S.length = S'.take S.length := fun S' => by rw [List.take_take, Nat.min_self]
  cases r with
  | bad => rfl
  | exc c ds S' =>
    unfold gc
    by_cases h : Kept S S' ∧ cleanL S.length ds = true
    · simp [h.1, h.2, h.1.take, tt]
    · simp only [h, if_false]
  | ok w S' =>
    unfold gc
    by_cases h : Kept S S'
    · simp only [h, if_true]
      cases w with
      | val d =>
        dsimp only
        by_cases hd : d.clean S.length = true
        · simp only [hd, if_true, h.take, tt]
        · simp only [hd]
          cases d with
          | loc n =>
            simp only [Bool.false_eq_true, if_false]
            cases q : S'[n]? with
            | none =>
              simp only [h, if_true, hd, Bool.false_eq_true, if_false, q]
            | some o =>
              by_cases ho : o.clean S.length = true
              · simp only [ho, if_true, h.take, hd, q, Bool.false_eq_true, if_false, tt]
              · simp only [ho, Bool.false_eq_true, if_false, h, if_true, hd, q]
          | _ => simp only [Bool.false_eq_true, if_false, h, if_true, hd]
      | tmp o =>
        dsimp only
        by_cases hd : o.clean S.length = true
        · simp only [hd, if_true, h.take, tt]
        · simp only [hd, Bool.false_eq_true, if_false, h, if_true]
    · simp only [h, if_false]
@[simp] theorem gc_sem (fs : List Fd) (k i : Nat) (ds : List D) (S : Sto) : gc S (sem fs k i ds S) = sem fs k i ds S := by
  cases k with
  | zero => rfl
  | succ k =>
    unfold sem
    split
    · split
      · exact gc_idem S _
      · rfl
    · rfl
theorem le_line {n : Nat} (h : n ≤ 16777216) : n ≤ sizeLine := by rw [sizeLine_eq]; exact h
theorem lt_line {n : Nat} (h : n < 16777216) : n < sizeLine := by rw [sizeLine_eq]; exact h
abbrev sNum : Str := Str.ofString "num"
abbrev sNam : Str := Str.ofString "name"
abbrev sYes : Str := Str.ofString "yes"
abbrev sNo : Str := Str.ofString "no"
theorem compI_map {α : Type} {g : Tg} {t : MM.Env → Sto → R Bool} {elt : MM.Env → Sto → R D} {δ : MM.Env} {S : Sto} {enc f : α → D} : ∀ {xs : List α}, (∀ x ∈ xs, ∃ δ1, g (enc x) δ = some δ1 ∧ t δ1 S = .ok true S ∧ elt δ1 S = .ok (f x) S) → compI g t elt δ (xs.map enc) S = .ok (xs.map f) S
  | [], _ => rfl
  | x :: xs, h => by
    obtain ⟨δ1, h1, h2, h3⟩ := h x List.mem_cons_self
    have ih := compI_map (xs := xs) fun y hy => h y (List.mem_cons_of_mem _ hy)
    rw [List.map_cons, List.map_cons]
    unfold compI
    simp [h1, h2, h3, ih]
theorem compI_filter {α : Type} {g : Tg} {t : MM.Env → Sto → R Bool} {elt : MM.Env → Sto → R D} {δ : MM.Env} {S : Sto} {enc f : α → D} {p : α → Bool} : ∀ {xs : List α}, (∀ x ∈ xs, ∃ δ1, g (enc x) δ = some δ1 ∧ t δ1 S = .ok (p x) S ∧ (p x = true → elt δ1 S = .ok (f x) S)) → compI g t elt δ (xs.map enc) S = .ok ((xs.filter p).map f) S
  | [], _ => rfl
  | x :: xs, h => by
    obtain ⟨δ1, h1, h2, h3⟩ := h x List.mem_cons_self
    have ih := compI_filter (xs := xs) fun y hy => h y (List.mem_cons_of_mem _ hy)
    rw [List.map_cons]
    unfold compI
    cases hp : p x with
    | true => simp [h1, h2, h3 hp, ih, hp]
    | false => simp [h1, h2, ih, hp]
theorem allInts_map {α : Type} (f : α → Int) : ∀ xs : List α, allInts (xs.map fun x => D.int (f x)) = some (xs.map f)
  | [] => rfl
  | x :: xs => by
    rw [List.map_cons]
    unfold allInts
    rw [allInts_map f xs]; rfl
theorem allInts_app : ∀ {xs ys : List D} {a b : List Int}, allInts xs = some a → allInts ys = some b → allInts (xs ++ ys) = some (a ++ b)
  | [], ys, a, b, h1, h2 => by cases h1; exact h2
  | x :: xs, ys, a, b, h1, h2 => by
    unfold allInts at h1
    split at h1
    · rename_i h; cases h
    · rename_i i r h
      cases h
      cases h3 : allInts xs with
      | none => rw [h3] at h1; cases h1
      | some c =>
        rw [h3] at h1
        cases h1
        rw [List.cons_append]
        unfold allInts
        rw [allInts_app h3 h2]; rfl
    · cases h1
theorem cut_init {α : Type} (xs : List α) (x : α) : cut (xs ++ [x]) none (some (-1)) = xs := by
  unfold cut HT.sIx
  simp
  rw [show (-1 + ((xs.length : Int) + 1)).toNat = xs.length by omega]
  simp
/-! ### dicts -/
theorem look_dput {k k' : Key} {d : D} : ∀ {kvs : List (Key × D)}, look k (dput k' d kvs) = if k' = k then some d else look k kvs := by
  intro kvs
  unfold dput
  split
  · rename_i h
    induction kvs with
    | nil => cases h
    | cons p r ih =>
      rw [List.map_cons]
      by_cases hp : p.1 = k'
      · rw [if_pos hp]
        unfold look
        by_cases hk : k' = k
        · rw [if_pos (hp.trans hk), if_pos hk]
        · rw [if_neg (fun e => hk (hp.symm.trans e)), if_neg hk, if_neg (fun e => hk (hp.symm.trans e))]
          by_cases hr : (r.any fun kv => decide (kv.1 = k')) = true
          · rw [ih hr, if_neg hk]
          · have : r.map (fun kv => if kv.1 = k' then (kv.1, d) else kv) = r := by
              conv => rhs; rw [← List.map_id r]
              apply List.map_congr_left
              intro kv hkv
              rw [if_neg]
              · rfl
              · intro e
                exact hr (List.any_eq_true.mpr ⟨kv, hkv, decide_eq_true e⟩)
            rw [this]
      · rw [if_neg hp]
        rw [List.any_cons, decide_eq_false hp, Bool.false_or] at h
        unfold look
        by_cases hk : p.1 = k
        · rw [if_pos hk, if_pos hk, if_neg (fun e => hp (hk.trans e.symm))]
        · rw [if_neg hk, if_neg hk, ih h]
  · rename_i h
    induction kvs with
    | nil =>
      show look k [(k', d)] = _
      unfold look
      rfl
    | cons p r ih =>
      rw [List.any_cons, Bool.or_eq_true, not_or] at h
      have hp : ¬ p.1 = k' := fun e => h.1 (decide_eq_true e)
      rw [List.cons_append]
      unfold look
      by_cases hk : p.1 = k
      · rw [if_pos hk, if_pos hk, if_neg (fun e => hp (hk.trans e.symm))]
      · rw [if_neg hk, if_neg hk, ih h.2]
theorem lookT_dput {k k' : List Key} {d : D} : ∀ {kvs : List (List Key × D)}, lookT k (dputT k' d kvs) = if k' = k then some d else lookT k kvs := by
  intro kvs
  unfold dputT
  split
  · rename_i h
    induction kvs with
    | nil => cases h
    | cons p r ih =>
      rw [List.map_cons]
      by_cases hp : p.1 = k'
      · rw [if_pos hp]
        unfold lookT
        by_cases hk : k' = k
        · rw [if_pos (hp.trans hk), if_pos hk]
        · rw [if_neg (fun e => hk (hp.symm.trans e)), if_neg hk, if_neg (fun e => hk (hp.symm.trans e))]
          by_cases hr : (r.any fun kv => decide (kv.1 = k')) = true
          · rw [ih hr, if_neg hk]
          · have : r.map (fun kv => if kv.1 = k' then (kv.1, d) else kv) = r := by
              conv => rhs; rw [← List.map_id r]
              apply List.map_congr_left
              intro kv hkv
              rw [if_neg]
              · rfl
              · intro e
                exact hr (List.any_eq_true.mpr ⟨kv, hkv, decide_eq_true e⟩)
            rw [this]
      · rw [if_neg hp]
        rw [List.any_cons, decide_eq_false hp, Bool.false_or] at h
        unfold lookT
        by_cases hk : p.1 = k
        · rw [if_pos hk, if_pos hk, if_neg (fun e => hp (hk.trans e.symm))]
        · rw [if_neg hk, if_neg hk, ih h]
  · rename_i h
    induction kvs with
    | nil =>
      show lookT k [(k', d)] = _
      unfold lookT
      rfl
    | cons p r ih =>
      rw [List.any_cons, Bool.or_eq_true, not_or] at h
      have hp : ¬ p.1 = k' := fun e => h.1 (decide_eq_true e)
      rw [List.cons_append]
      unfold lookT
      by_cases hk : p.1 = k
      · rw [if_pos hk, if_pos hk, if_neg (fun e => hp (hk.trans e.symm))]
      · rw [if_neg hk, if_neg hk, ih h.2]
theorem dputT_len {k : List Key} {d : D} {kvs : List (List Key × D)} : (dputT k d kvs).length ≤ kvs.length + 1 := by
  unfold dputT
  split <;> simp
theorem dput_len {k : Key} {d : D} {kvs : List (Key × D)} : (dput k d kvs).length ≤ kvs.length + 1 := by
  unfold dput
  split <;> simp
/-! ### slices backwards -/
theorem back_pick {α : Type} (xs : List α) : ∀ n : Nat, n ≤ xs.length → (List.range n).filterMap (fun (m : Nat) => xs[((n : Int) - 1 + (m : Int) * (-1)).toNat]?) = (xs.take n).reverse
  | 0, _ => rfl
  | n + 1, h => by
    have hn : n < xs.length := h
    rw [List.range_succ_eq_map, List.filterMap_cons, List.filterMap_map]
    have e0 : (((n + 1 : Nat) : Int) - 1 + ((0 : Nat) : Int) * (-1)).toNat = n := by omega
    rw [e0, List.getElem?_eq_getElem hn]
    have ih := back_pick xs n (by omega)
    have e1 : ((fun (m : Nat) => xs[(((n + 1 : Nat) : Int) - 1 + (m : Int) * (-1)).toNat]?) ∘ Nat.succ) = fun (m : Nat) => xs[((n : Int) - 1 + (m : Int) * (-1)).toNat]? := by
      funext m
      have : (((n + 1 : Nat) : Int) - 1 + ((Nat.succ m : Nat) : Int) * (-1)).toNat = ((n : Int) - 1 + (m : Int) * (-1)).toNat := by omega
      show xs[(((n + 1 : Nat) : Int) - 1 + ((Nat.succ m : Nat) : Int) * (-1)).toNat]? = _
      rw [this]
    dsimp only
    rw [e1, ih, List.take_succ_eq_append_getElem hn, List.reverse_append]
    rfl
theorem places_back (n : Nat) : Builtin.Slice.slicePlaces ((n : Int) - 1) (-1) (-1) = n := by
  unfold Builtin.Slice.slicePlaces
  rw [if_neg (by omega)]
  by_cases h : (n : Int) - 1 > -1
  · rw [if_pos h, show (-(-1) : Int) = 1 from rfl, Int.ediv_one]
    omega
  · rw [if_neg h]
    omega
theorem stepT_rev {α : Type} (xs : List α) : stepT none none (-1) xs = xs.reverse := by
  unfold stepT
  have e : Builtin.Slice.sliceAdjust none none (-1) (xs.length : Int) = ((xs.length : Int) - 1, -1) := rfl
  rw [e, places_back, back_pick xs xs.length (Nat.le_refl _), List.take_length]
theorem stepT_rev2 {α : Type} (xs : List α) (h : xs ≠ []) : stepT (some (-2)) none (-1) xs = xs.dropLast.reverse := by
  unfold stepT
  have hl : 1 ≤ xs.length := List.length_pos_iff.mpr h
  have e : Builtin.Slice.sliceAdjust (some (-2)) none (-1) (xs.length : Int) = (((xs.length - 1 : Nat) : Int) - 1, -1) := by
    unfold Builtin.Slice.sliceAdjust
    simp
    omega
  rw [e, places_back, back_pick xs (xs.length - 1) (by omega), List.dropLast_eq_take]
theorem idxS_rev {α : Type} (xs : List α) : permL (idxS none none (-1) xs.length) xs = xs.reverse := by
  unfold idxS permL
  have e : sliceBounds none none (some (-1)) xs.length = ((xs.length : Int) - 1, -1, -1) := rfl
  rw [e]
  unfold sliceRange
  dsimp only
  rw [if_neg (by omega)]
  have e2 : ((if (xs.length : Int) - 1 > -1 then ((xs.length : Int) - 1 - -1 - -1 - 1) / (- -1) else 0) : Int).toNat = xs.length := by
    rw [show (- -1 : Int) = 1 from rfl, Int.ediv_one]
    split <;> omega
  rw [e2, List.filterMap_map]
  have := back_pick xs xs.length (Nat.le_refl _)
  rw [List.take_length] at this
  rw [← this]
  congr 1
  funext m
  show xs[((xs.length : Int) - 1 + -1 * (m : Int)).toNat]? = _
  rw [show (-1 : Int) * (m : Int) = (m : Int) * (-1) by omega]
inductive Ex where
  | num (i : Int) | name (s : Str) | yes | no | op (w : Str) (ks : List Ex)
  deriving Inhabited
namespace Ex
theorem ind {P : Ex → Prop} (h1 : ∀ i, P (.num i)) (h2 : ∀ s, P (.name s)) (h3 : P .yes) (h4 : P .no) (h5 : ∀ w ks, (∀ k ∈ ks, P k) → P (.op w ks)) : ∀ e, P e :=
  fun e => Ex.rec (motive_1 := P) (motive_2 := fun ks => ∀ k ∈ ks, P k) h1 h2 h3 h4 h5 (by simp) (fun a r ha hr => by
    intro k hk
    rcases List.mem_cons.mp hk with rfl | h
    · exact ha
    · exact hr k h) e
mutual
def d : Ex → D
  | .num i => .tup [.str sNum, .int i]
  | .name s => .tup [.str sNam, .str s]
  | .yes => .tup [.str sYes]
  | .no => .tup [.str sNo]
  | .op w ks => .tup (.str w :: dL ks)
def dL : List Ex → List D
  | [] => []
  | k :: ks => k.d :: dL ks
end
theorem dL_map : ∀ ks : List Ex, dL ks = ks.map d
  | [] => rfl
  | k :: ks => by unfold dL; rw [dL_map ks]; rfl
mutual
def size : Ex → Nat
  | .op _ ks => sizeL ks + 1
  | _ => 1
def sizeL : List Ex → Nat
  | [] => 0
  | k :: ks => k.size + sizeL ks
end
mutual
def depth : Ex → Nat
  | .op _ ks => depthL ks + 1
  | _ => 1
def depthL : List Ex → Nat
  | [] => 0
  | k :: ks => max k.depth (depthL ks)
end
def isLeafW (w : Str) : Bool := w = sNum || w = sNam || w = sYes || w = sNo
mutual
/-- an operation has operands and the word of none of the leaves -/
def wf : Ex → Bool
  | .op w ks => !isLeafW w && !ks.isEmpty && wfL ks
  | _ => true
def wfL : List Ex → Bool
  | [] => true
  | k :: ks => k.wf && wfL ks
end
def kids : Ex → List Ex
  | .op _ ks => ks
  | _ => []
mutual
/-- all parts, in their sequence -/
def parts : Ex → List Ex
  | .op w ks => .op w ks :: partsL ks
  | e => [e]
def partsL : List Ex → List Ex
  | [] => []
  | k :: ks => k.parts ++ partsL ks
end
theorem wfL_mem : ∀ {ks : List Ex}, wfL ks = true → ∀ k ∈ ks, k.wf = true
  | [], _, k, h => by cases h
  | a :: ks, hw, k, h => by
    unfold wfL at hw
    rw [Bool.and_eq_true] at hw
    rcases List.mem_cons.mp h with rfl | h
    · exact hw.1
    · exact wfL_mem hw.2 k h
theorem wfL_of : ∀ {ks : List Ex}, (∀ k ∈ ks, k.wf = true) → wfL ks = true
  | [], _ => rfl
  | a :: ks, h => by
    unfold wfL
    rw [Bool.and_eq_true]
    exact ⟨h a List.mem_cons_self, wfL_of fun k hk => h k (List.mem_cons_of_mem _ hk)⟩
theorem depthL_le : ∀ {ks : List Ex} {n : Nat}, depthL ks ≤ n ↔ ∀ k ∈ ks, k.depth ≤ n
  | [], n => by simp [depthL]
  | a :: ks, n => by
    unfold depthL
    have := depthL_le (ks := ks) (n := n)
    simp only [List.mem_cons, forall_eq_or_imp, ← this]
    omega
theorem sizeL_mem : ∀ {ks : List Ex} {k : Ex}, k ∈ ks → k.size ≤ sizeL ks
  | [], k, h => by cases h
  | a :: ks, k, h => by
    unfold sizeL
    rcases List.mem_cons.mp h with rfl | h
    · omega
    · have := sizeL_mem h
      omega
theorem size_pos (e : Ex) : 1 ≤ e.size := by cases e <;> simp [size]
theorem depth_pos (e : Ex) : 1 ≤ e.depth := by cases e <;> simp [depth]
theorem length_le_sizeL : ∀ ks : List Ex, ks.length ≤ sizeL ks
  | [] => Nat.zero_le _
  | k :: ks => by
    have := length_le_sizeL ks
    have := size_pos k
    simp [sizeL]
    omega
theorem parts_len : ∀ e : Ex, e.parts.length = e.size := by
  have key : ∀ ks : List Ex, (∀ k ∈ ks, k.parts.length = k.size) → (partsL ks).length = sizeL ks := by
    intro ks
    induction ks with
    | nil => intro _; rfl
    | cons k ks ih =>
      intro h
      unfold partsL sizeL
      rw [List.length_append, h k List.mem_cons_self, ih fun x hx => h x (List.mem_cons_of_mem _ hx)]
  refine ind (fun _ => rfl) (fun _ => rfl) rfl rfl fun w ks ih => ?_
  unfold parts size
  rw [List.length_cons, key ks ih]
theorem partsL_len (ks : List Ex) : (partsL ks).length = sizeL ks := by
  have := parts_len (.op sNum ks)
  unfold parts size at this
  simpa using this
@[simp] theorem clean_d (L : Nat) : ∀ e : Ex, e.d.clean L = true := by
  have key : ∀ ks : List Ex, (∀ k ∈ ks, k.d.clean L = true) → cleanL L (dL ks) = true := by
    intro ks
    induction ks with
    | nil => intro _; rfl
    | cons k ks ih =>
      intro h
      unfold dL
      rw [clean_cons, h k List.mem_cons_self, ih fun x hx => h x (List.mem_cons_of_mem _ hx)]; rfl
  refine ind (fun i => ?_) (fun s => ?_) ?_ ?_ fun w ks ih => ?_
  all_goals unfold d
  all_goals simp
  exact key ks ih
@[simp] theorem clean_map (L : Nat) : ∀ ks : List Ex, cleanL L (ks.map d) = true
  | [] => rfl
  | k :: ks => by rw [List.map_cons, clean_cons, clean_d, clean_map L ks]; rfl
@[simp] theorem clean_dL (L : Nat) (ks : List Ex) : cleanL L (dL ks) = true := by rw [dL_map]; exact clean_map L ks
theorem maxI_depth : ∀ ks : List Ex, maxI (ks.map (fun k => (k.depth : Int)) ++ [0]) = some (depthL ks : Int)
  | [] => rfl
  | k :: ks => by
    have ih := maxI_depth ks
    rw [List.map_cons, List.cons_append]
    have : maxI ((k.depth : Int) :: (ks.map (fun k => (k.depth : Int)) ++ [0])) = (maxI (ks.map (fun k => (k.depth : Int)) ++ [0])).map fun m => if (k.depth : Int) < m then m else (k.depth : Int) := by
      cases ks <;> rfl
    rw [this, ih, depthL]
    simp only [Option.map_some, Option.some.injEq]
    split <;> omega
theorem sizeL_app : ∀ xs ys : List Ex, sizeL (xs ++ ys) = sizeL xs + sizeL ys
  | [], ys => by simp [sizeL]
  | x :: xs, ys => by
    rw [List.cons_append, sizeL, sizeL, sizeL_app xs ys]
    omega
theorem depthL_app (xs ys : List Ex) : depthL (xs ++ ys) = max (depthL xs) (depthL ys) := by
  induction xs with
  | nil => simp [depthL]
  | cons x xs ih =>
    rw [List.cons_append, depthL, depthL, ih]
    omega
theorem wfL_app (xs ys : List Ex) : wfL (xs ++ ys) = (wfL xs && wfL ys) := by
  induction xs with
  | nil => rfl
  | cons x xs ih => rw [List.cons_append, wfL, wfL, ih, Bool.and_assoc]
@[simp] theorem wf_num (i : Int) : (Ex.num i).wf = true := rfl
@[simp] theorem wf_name (i : Str) : (Ex.name i).wf = true := rfl
@[simp] theorem wf_yes : Ex.yes.wf = true := rfl
@[simp] theorem wf_no : Ex.no.wf = true := rfl
@[simp] theorem size_num (i : Int) : (Ex.num i).size = 1 := rfl
@[simp] theorem size_name (i : Str) : (Ex.name i).size = 1 := rfl
@[simp] theorem size_yes : Ex.yes.size = 1 := rfl
@[simp] theorem size_no : Ex.no.size = 1 := rfl
@[simp] theorem depth_num (i : Int) : (Ex.num i).depth = 1 := rfl
@[simp] theorem depth_name (i : Str) : (Ex.name i).depth = 1 := rfl
@[simp] theorem depth_yes : Ex.yes.depth = 1 := rfl
@[simp] theorem depth_no : Ex.no.depth = 1 := rfl
@[simp] theorem wf_op2 (w : Str) (a b : Ex) : (Ex.op w [a, b]).wf = (!isLeafW w && (a.wf && b.wf)) := by
  simp [wf, wfL]
@[simp] theorem size_op2 (w : Str) (a b : Ex) : (Ex.op w [a, b]).size = a.size + b.size + 1 := by
  simp [size, sizeL]
@[simp] theorem depth_op2 (w : Str) (a b : Ex) : (Ex.op w [a, b]).depth = max a.depth b.depth + 1 := by
  simp [depth, depthL]
theorem d_op2 (w : Str) (a b : Ex) : (Ex.op w [a, b]).d = .tup [.str w, a.d, b.d] := by simp [d, dL]
theorem d_op1 (w : Str) (a : Ex) : (Ex.op w [a]).d = .tup [.str w, a.d] := by simp [d, dL]
theorem d_opL (w : Str) (ks : List Ex) : (Ex.op w ks).d = .tup (.str w :: ks.map d) := by simp [d, dL_map]
theorem sum_size : ∀ ks : List Ex, (ks.map fun k => (k.size : Int)).sum = (sizeL ks : Int)
  | [] => rfl
  | k :: ks => by
    rw [List.map_cons, List.sum_cons, sum_size ks, sizeL]
    omega
theorem maxI_depth1 : ∀ ks : List Ex, ks ≠ [] → maxI (ks.map fun k => (k.depth : Int)) = some (depthL ks : Int)
  | [k], _ => by
    show some _ = _
    simp [depthL]
  | k :: k2 :: ks, _ => by
    have ih := maxI_depth1 (k2 :: ks) (by simp)
    have : maxI ((k :: k2 :: ks).map fun k => (k.depth : Int)) = (maxI ((k2 :: ks).map fun k => (k.depth : Int))).map fun m => if (k.depth : Int) < m then m else (k.depth : Int) := rfl
    have e : depthL (k :: k2 :: ks) = max k.depth (depthL (k2 :: ks)) := by rw [depthL]
    rw [this, ih, e]
    simp only [Option.map_some, Option.some.injEq]
    split <;> omega
end Ex
/-- the expression d, at most so great, so deep -/
def IsE (d : D) (s dp : Nat) : Prop := ∃ e : Ex, d = e.d ∧ e.wf = true ∧ e.size ≤ s ∧ e.depth ≤ dp
theorem IsE.mono {d : D} {s dp s' dp' : Nat} (h : IsE d s dp) (h1 : s ≤ s') (h2 : dp ≤ dp') : IsE d s' dp' := by
  obtain ⟨e, a, b, c, f⟩ := h
  exact ⟨e, a, b, by omega, by omega⟩
theorem IsE.clean {d : D} {s dp : Nat} (h : IsE d s dp) (n : Nat) : d.clean n = true := by
  obtain ⟨e, rfl, _⟩ := h
  simp
theorem IsE.list {s dp : Nat} : ∀ {ds : List D}, (∀ d ∈ ds, IsE d s dp) → ∃ es : List Ex, ds = es.map Ex.d ∧ Ex.wfL es = true ∧ Ex.sizeL es ≤ ds.length * s ∧ Ex.depthL es ≤ dp
  | [], _ => ⟨[], rfl, rfl, by simp [Ex.sizeL], by simp [Ex.depthL]⟩
  | d :: ds, h => by
    obtain ⟨e, rfl, h1, h2, h3⟩ := h d List.mem_cons_self
    obtain ⟨es, rfl, i1, i2, i3⟩ := IsE.list fun x hx => h x (List.mem_cons_of_mem _ hx)
    refine ⟨e :: es, rfl, by rw [Ex.wfL, h1, i1]; rfl, ?_, by rw [Ex.depthL]; omega⟩
    rw [Ex.sizeL, List.length_cons, Nat.succ_mul]
    omega
/-! ### plain data -/
mutual
/-- numbers, texts, tuples of such; at most so many within one another -/
def PD : D → Bool
  | .int _ => true
  | .str _ => true
  | .tup ds => PDL ds
  | _ => false
def PDL : List D → Bool
  | [] => true
  | d :: ds => PD d && PDL ds
end
mutual
def wt : D → Nat
  | .tup ds => wtL ds + 1
  | _ => 1
def wtL : List D → Nat
  | [] => 0
  | d :: ds => wt d + wtL ds
end
theorem PDL_mem : ∀ {ds : List D}, PDL ds = true → ∀ d ∈ ds, PD d = true
  | [], _, d, h => by cases h
  | a :: ds, hw, d, h => by
    unfold PDL at hw
    rw [Bool.and_eq_true] at hw
    rcases List.mem_cons.mp h with rfl | h
    · exact hw.1
    · exact PDL_mem hw.2 d h
theorem PDL_map {α : Type} (f : α → D) : ∀ {xs : List α}, (∀ x ∈ xs, PD (f x) = true) → PDL (xs.map f) = true
  | [], _ => rfl
  | x :: xs, h => by
    rw [List.map_cons, PDL, h x List.mem_cons_self, PDL_map f fun y hy => h y (List.mem_cons_of_mem _ hy)]; rfl
theorem wt_pos (d : D) : 1 ≤ wt d := by cases d <;> simp [wt]
theorem len_wtL : ∀ ds : List D, ds.length ≤ wtL ds
  | [] => Nat.zero_le _
  | d :: ds => by
    have := len_wtL ds
    have := wt_pos d
    rw [List.length_cons, wtL]
    omega
namespace Ex
theorem PD_d : ∀ e : Ex, PD e.d = true := by
  refine ind (fun i => ?_) (fun s => ?_) ?_ ?_ fun w ks ih => ?_
  · rfl
  · rfl
  · rfl
  · rfl
  · rw [d_opL, PD, PDL, PDL_map _ ih]; rfl
theorem wt_d : ∀ e : Ex, wt e.d ≤ 3 * e.size := by
  have key : ∀ ks : List Ex, (∀ k ∈ ks, wt k.d ≤ 3 * k.size) → wtL (ks.map Ex.d) ≤ 3 * sizeL ks := by
    intro ks
    induction ks with
    | nil => intro _; simp [wtL, sizeL]
    | cons k ks ih =>
      intro h
      have := h k List.mem_cons_self
      have := ih fun x hx => h x (List.mem_cons_of_mem _ hx)
      rw [List.map_cons, wtL, sizeL]
      omega
  refine ind (fun i => ?_) (fun s => ?_) ?_ ?_ fun w ks ih => ?_
  · simp [d, wt, wtL]
  · simp [d, wt, wtL]
  · simp [d, wt, wtL]
  · simp [d, wt, wtL]
  · have := key ks ih
    have e : wt (.str w) = 1 := by simp [wt]
    rw [d_opL, wt, wtL, e, size]
    omega
end Ex
end MM
set_option maxRecDepth 100000
namespace MM
open PySem L2
/-! ### an expression's parts by number: the lists that a tree of them holds -/
namespace Ex
def starts : Nat → List Ex → List Nat
  | _, [] => []
  | n, k :: ks => n :: starts (n + k.size) ks
mutual
def kidN (n : Nat) : Ex → List (List Nat)
  | .op _ ks => starts (n + 1) ks :: kidNL (n + 1) ks
  | _ => [[]]
def kidNL (n : Nat) : List Ex → List (List Nat)
  | [] => []
  | k :: ks => kidN n k ++ kidNL (n + k.size) ks
end
mutual
def pars (p : D) (n : Nat) : Ex → List D
  | .op _ ks => p :: parsL (.int n) (n + 1) ks
  | _ => [p]
def parsL (p : D) (n : Nat) : List Ex → List D
  | [] => []
  | k :: ks => pars p n k ++ parsL p (n + k.size) ks
end
mutual
def levs (l : Nat) : Ex → List Nat
  | .op _ ks => l :: levsL (l + 1) ks
  | _ => [l]
def levsL (l : Nat) : List Ex → List Nat
  | [] => []
  | k :: ks => levs l k ++ levsL l ks
end
theorem parts_eq' (e : Ex) : e.parts = e :: partsL e.kids := by cases e <;> rfl
theorem kidN_eq (n : Nat) (e : Ex) : kidN n e = starts (n + 1) e.kids :: kidNL (n + 1) e.kids := by cases e <;> rfl
theorem pars_eq (p : D) (n : Nat) (e : Ex) : pars p n e = p :: parsL (.int n) (n + 1) e.kids := by cases e <;> rfl
theorem levs_eq (l : Nat) (e : Ex) : levs l e = l :: levsL (l + 1) e.kids := by cases e <;> rfl
theorem size_eq (e : Ex) : e.size = 1 + sizeL e.kids := by cases e <;> simp [size, kids, sizeL, Nat.add_comm]
theorem starts_len : ∀ (n : Nat) (ks : List Ex), (starts n ks).length = ks.length
  | _, [] => rfl
  | n, k :: ks => by rw [starts, List.length_cons, List.length_cons, starts_len _ ks]
theorem len3 : ∀ e : Ex, (∀ n, (kidN n e).length = e.size) ∧ (∀ p n, (pars p n e).length = e.size) ∧ (∀ l, (levs l e).length = e.size) := by
  have key : ∀ ks : List Ex, (∀ e ∈ ks, (∀ n, (kidN n e).length = e.size) ∧ (∀ p n, (pars p n e).length = e.size) ∧ (∀ l, (levs l e).length = e.size)) →
      (∀ n, (kidNL n ks).length = sizeL ks) ∧ (∀ p n, (parsL p n ks).length = sizeL ks) ∧ (∀ l, (levsL l ks).length = sizeL ks) := by
    intro ks
    induction ks with
    | nil => intro _; exact ⟨fun _ => rfl, fun _ _ => rfl, fun _ => rfl⟩
    | cons k ks ih =>
      intro h
      have h1 := h k List.mem_cons_self
      have h2 := ih fun x hx => h x (List.mem_cons_of_mem _ hx)
      refine ⟨fun n => ?_, fun p n => ?_, fun l => ?_⟩
      · rw [kidNL, List.length_append, h1.1, h2.1, sizeL]
      · rw [parsL, List.length_append, h1.2.1, h2.2.1, sizeL]
      · rw [levsL, List.length_append, h1.2.2, h2.2.2, sizeL]
  refine ind (fun _ => ⟨fun _ => rfl, fun _ _ => rfl, fun _ => rfl⟩) (fun _ => ⟨fun _ => rfl, fun _ _ => rfl, fun _ => rfl⟩) ⟨fun _ => rfl, fun _ _ => rfl, fun _ => rfl⟩ ⟨fun _ => rfl, fun _ _ => rfl, fun _ => rfl⟩ fun w ks ih => ?_
  have h := key ks ih
  refine ⟨fun n => ?_, fun p n => ?_, fun l => ?_⟩
  · rw [kidN, List.length_cons, h.1, size]
  · rw [pars, List.length_cons, h.2.1, size]
  · rw [levs, List.length_cons, h.2.2, size]
theorem kidN_len (n : Nat) (e : Ex) : (kidN n e).length = e.size := (len3 e).1 n
theorem pars_len (p : D) (n : Nat) (e : Ex) : (pars p n e).length = e.size := (len3 e).2.1 p n
theorem levs_len (l : Nat) (e : Ex) : (levs l e).length = e.size := (len3 e).2.2 l
end Ex
@[simp] theorem clean_app (n : Nat) (a b : List D) : cleanL n (a ++ b) = (cleanL n a && cleanL n b) := by
  induction a with
  | nil => simp
  | cons x a ih => rw [List.cons_append, clean_cons, clean_cons, ih, Bool.and_assoc]
/-! ### the objects of a tree, in a row behind the store -/
def kl (b n : Nat) : List D := (List.range n).map fun i => D.loc (b + i)
@[simp] theorem kl_len (b n : Nat) : (kl b n).length = n := by simp [kl]
theorem kl_succ (b n : Nat) : kl b (n + 1) = kl b n ++ [.loc (b + n)] := by simp [kl, List.range_succ]
theorem kl_get (b n i : Nat) (h : i < n) : (kl b n)[i]? = some (.loc (b + i)) := by simp [kl, h]
def kO (ks : List Nat) : O := .lst (ks.map fun (n : Nat) => D.int (n : Int))
def lv (L : List Nat) : List D := L.map fun (n : Nat) => D.int (n : Int)
@[simp] theorem lv_len (L : List Nat) : (lv L).length = L.length := by simp [lv]
theorem lv_app (a b : List Nat) : lv (a ++ b) = lv a ++ lv b := by simp [lv]
abbrev fParts : Str := Str.ofString "_parts"
abbrev fKids : Str := Str.ofString "_kids"
abbrev fPars : Str := Str.ofString "_parents"
abbrev fLevs : Str := Str.ofString "_levels"
def treeF (t : Nat) : List (Str × D) := [(fParts, .loc (t + 1)), (fKids, .loc (t + 2)), (fPars, .loc (t + 3)), (fLevs, .loc (t + 4))]
def treeO (c t : Nat) (A : List D) (K : List (List Nat)) (P : List D) (L : List Nat) : Sto :=
  .ins c (treeF t) :: .lst A :: .lst (kl (t + 5) K.length) :: .lst P :: .lst (lv L) :: K.map kO
theorem treeF_parts (t : Nat) : lookF fParts (treeF t) = some (.loc (t + 1)) := by unfold treeF; rfl
theorem app_get (X Y : Sto) (i : Nat) : (X ++ Y)[X.length + i]? = Y[i]? := by
  rw [List.getElem?_append_right (by omega), Nat.add_sub_cancel_left]
theorem app_get0 (X Y : Sto) : (X ++ Y)[X.length]? = Y[0]? := app_get X Y 0
theorem app_set (X Y : Sto) (i : Nat) (o : O) : (X ++ Y).set (X.length + i) o = X ++ Y.set i o := by
  rw [List.set_append_right _ _ (by omega), Nat.add_sub_cancel_left]
theorem app_set0 (X Y : Sto) (o : O) : (X ++ Y).set X.length o = X ++ Y.set 0 o := app_set X Y 0 o
theorem treeO_len (c t : Nat) (A : List D) (K : List (List Nat)) (P : List D) (L : List Nat) : (treeO c t A K P L).length = 5 + K.length := by
  simp [treeO]; omega
section
variable (X : Sto) (c : Nat) (A : List D) (K : List (List Nat)) (P : List D) (L : List Nat)
theorem lk_parts (t : Nat) : lookF (Str.ofString "_parts") (treeF t) = some (.loc (t + 1)) := rfl
theorem lk_kids (t : Nat) : lookF (Str.ofString "_kids") (treeF t) = some (.loc (t + 2)) := rfl
theorem lk_pars (t : Nat) : lookF (Str.ofString "_parents") (treeF t) = some (.loc (t + 3)) := rfl
theorem lk_levs (t : Nat) : lookF (Str.ofString "_levels") (treeF t) = some (.loc (t + 4)) := rfl
theorem pf_1 (a : D) : MM.putF (Str.ofString "_parts") a [] = [(fParts, a)] := rfl
theorem pf_2 (a b : D) : MM.putF (Str.ofString "_kids") b [(fParts, a)] = [(fParts, a), (fKids, b)] := rfl
theorem pf_3 (a b c : D) : MM.putF (Str.ofString "_parents") c [(fParts, a), (fKids, b)] = [(fParts, a), (fKids, b), (fPars, c)] := rfl
theorem pf_4 (a b c d : D) : MM.putF (Str.ofString "_levels") d [(fParts, a), (fKids, b), (fPars, c)] = [(fParts, a), (fKids, b), (fPars, c), (fLevs, d)] := rfl
theorem lk_add (t : Nat) : lookF (Str.ofString "_add") (treeF t) = none := rfl
theorem lk_many (t : Nat) : lookF (Str.ofString "many") (treeF t) = none := rfl
theorem lk_part (t : Nat) : lookF (Str.ofString "part") (treeF t) = none := rfl
theorem lk_mkids (t : Nat) : lookF (Str.ofString "kids") (treeF t) = none := rfl
theorem lk_parent (t : Nat) : lookF (Str.ofString "parent") (treeF t) = none := rfl
theorem lk_level (t : Nat) : lookF (Str.ofString "level") (treeF t) = none := rfl
theorem lk_isleaf (t : Nat) : lookF (Str.ofString "is_leaf") (treeF t) = none := rfl
theorem lk_within (t : Nat) : lookF (Str.ofString "within") (treeF t) = none := rfl
theorem lk_size (t : Nat) : lookF (Str.ofString "size") (treeF t) = none := rfl
theorem lk_upward (t : Nat) : lookF (Str.ofString "upward") (treeF t) = none := rfl
theorem t_len : (X ++ treeO c X.length A K P L).length = X.length + 5 + K.length := by rw [List.length_append, treeO_len]; omega
theorem t_0 : (X ++ treeO c X.length A K P L)[X.length]? = some (.ins c (treeF X.length)) := by rw [app_get0]; rfl
theorem t_1 : (X ++ treeO c X.length A K P L)[X.length + 1]? = some (.lst A) := by rw [app_get]; rfl
theorem t_2 : (X ++ treeO c X.length A K P L)[X.length + 2]? = some (.lst (kl (X.length + 5) K.length)) := by rw [app_get]; rfl
theorem t_3 : (X ++ treeO c X.length A K P L)[X.length + 3]? = some (.lst P) := by rw [app_get]; rfl
theorem t_4 : (X ++ treeO c X.length A K P L)[X.length + 4]? = some (.lst (lv L)) := by rw [app_get]; rfl
theorem t_k (i : Nat) : (X ++ treeO c X.length A K P L)[X.length + 5 + i]? = K[i]?.map kO := by
  rw [Nat.add_assoc, app_get]
  unfold treeO
  rw [Nat.add_comm 5 i]
  show (K.map kO)[i]? = _
  rw [List.getElem?_map]
theorem s_1 (A' : List D) : (X ++ treeO c X.length A K P L).set (X.length + 1) (.lst A') = X ++ treeO c X.length A' K P L := by rw [app_set]; rfl
theorem s_3 (P' : List D) : (X ++ treeO c X.length A K P L).set (X.length + 3) (.lst P') = X ++ treeO c X.length A K P' L := by rw [app_set]; rfl
theorem s_4 (L' : List Nat) : (X ++ treeO c X.length A K P L).set (X.length + 4) (.lst (lv L')) = X ++ treeO c X.length A K P L' := by rw [app_set]; rfl
theorem s_4' (l : Nat) : (X ++ treeO c X.length A K P L).set (X.length + 4) (.lst (lv L ++ [.int l])) = X ++ treeO c X.length A K P (L ++ [l]) := by
  rw [show lv L ++ [D.int l] = lv (L ++ [l]) by simp [lv]]; exact s_4 ..
theorem s_2 : (X ++ treeO c X.length A K P L ++ [O.lst []]).set (X.length + 2) (.lst (kl (X.length + 5) K.length ++ [D.loc (X.length + 5 + K.length)])) = X ++ treeO c X.length A (K ++ [[]]) P L := by
  rw [List.append_assoc, app_set, ← kl_succ]
  unfold treeO
  simp [kO]
theorem s_k (i : Nat) (ks : List Nat) (h : i < K.length) : (X ++ treeO c X.length A K P L).set (X.length + 5 + i) (kO ks) = X ++ treeO c X.length A (K.set i ks) P L := by
  rw [Nat.add_assoc, app_set]
  unfold treeO
  rw [Nat.add_comm 5 i, List.length_set]
  show X ++ (O.ins c (treeF X.length) :: .lst A :: .lst (kl (X.length + 5) K.length) :: .lst P :: .lst (lv L) :: (K.map kO).set i (kO ks)) = _
  rw [List.map_set]
end
/-- the tree's own changes are seen by the caller -/
theorem gc_tree (X : Sto) (c : Nat) (A : List D) (K : List (List Nat)) (P : List D) (L : List Nat) (A' : List D) (k0 : List Nat) (K' : List (List Nat)) (P' : List D) (L' : List Nat) (d : D) :
    gc (X ++ treeO c X.length A K P L) (.ok (.val d) (X ++ treeO c X.length A' (K ++ k0 :: K') P' L')) = .ok (.val d) (X ++ treeO c X.length A' (K ++ k0 :: K') P' L') := by
  have hn : ¬ Kept (X ++ treeO c X.length A K P L) (X ++ treeO c X.length A' (K ++ k0 :: K') P' L') := by
    rintro ⟨_, h⟩
    have := h (X.length + 2) (by rw [List.length_append, treeO_len]; omega)
    rw [app_get, app_get] at this
    have e1 : (treeO c X.length A' (K ++ k0 :: K') P' L')[2]? = some (.lst (kl (X.length + 5) (K ++ k0 :: K').length)) := rfl
    have e2 : (treeO c X.length A K P L)[2]? = some (.lst (kl (X.length + 5) K.length)) := rfl
    rw [e1, e2] at this
    rcases this with h | ⟨o, h, hc⟩
    · have h := congrArg (fun o : Option O => match o with | some (.lst ds) => ds.length | _ => 0) h
      simp at h
    · cases h
      rw [clean_lst] at hc
      have hm : D.loc (X.length + 5 + K.length) ∈ kl (X.length + 5) (K ++ k0 :: K').length := by
        unfold kl
        rw [List.mem_map]
        exact ⟨K.length, by simp, rfl⟩
      have : ∀ {ds : List D} {n : Nat}, cleanL n ds = true → ∀ d ∈ ds, d.clean n = true := by
        intro ds
        induction ds with
        | nil => intro n _ d hd; cases hd
        | cons x xs ih =>
          intro n h d hd
          rw [clean_cons, Bool.and_eq_true] at h
          rcases List.mem_cons.mp hd with rfl | hd
          · exact h.1
          · exact ih h.2 d hd
      have := this hc _ hm
      rw [List.length_append, treeO_len] at this
      simp [D.clean] at this
      omega
  unfold gc
  simp only [hn, if_false]
theorem gc_tnew (X : Sto) (c : Nat) (A : List D) (K : List (List Nat)) (P : List D) (L : List Nat) (d : D) :
    gc (X ++ [.ins c []]) (.ok (.val d) (X ++ treeO c X.length A K P L)) = .ok (.val d) (X ++ treeO c X.length A K P L) := by
  have hn : ¬ Kept (X ++ [.ins c []]) (X ++ treeO c X.length A K P L) := by
    rintro ⟨_, h⟩
    have := h X.length (by simp)
    rw [app_get0, app_get0] at this
    rcases this with h | ⟨o, h, hc⟩
    · cases h
    · cases h
      simp [treeF, O.clean, cleanF, D.clean] at hc
  unfold gc
  simp only [hn, if_false]
/-- S holds a tree of e at t -/
structure IsTree (c : Nat) (S : Sto) (t : Nat) (e : Ex) : Prop where
  self : S[t]? = some (.ins c (treeF t))
  parts : S[t + 1]? = some (.lst (e.parts.map Ex.d))
  kids : S[t + 2]? = some (.lst (kl (t + 5) e.size))
  pars : S[t + 3]? = some (.lst (Ex.pars .non 0 e))
  levs : S[t + 4]? = some (.lst (lv (Ex.levs 0 e)))
  kid : ∀ i ks, (Ex.kidN 0 e)[i]? = some ks → S[t + 5 + i]? = some (kO ks)
def treeS (c : Nat) (X : Sto) (e : Ex) : Sto := X ++ treeO c X.length (e.parts.map Ex.d) (Ex.kidN 0 e) (Ex.pars .non 0 e) (Ex.levs 0 e)
theorem treeS_is (c : Nat) (X : Sto) (e : Ex) : IsTree c (treeS c X e) X.length e := by
  unfold treeS
  refine ⟨?_, ?_, ?_, ?_, ?_, fun i ks h => ?_⟩
  · rw [app_get0]; rfl
  · rw [app_get]; rfl
  · rw [app_get]
    unfold treeO
    rw [Ex.kidN_len]; rfl
  · rw [app_get]; rfl
  · rw [app_get]; rfl
  · rw [Nat.add_assoc, app_get]
    unfold treeO
    rw [Nat.add_comm 5 i]
    show ((Ex.kidN 0 e).map kO)[i]? = _
    rw [List.getElem?_map, h]; rfl
theorem IsTree.mono {c : Nat} {S S' : Sto} {t : Nat} {e : Ex} (h : IsTree c S t e) (hs : ∀ n o, t ≤ n → S[n]? = some o → S'[n]? = some o) : IsTree c S' t e :=
  ⟨hs _ _ (by omega) h.self, hs _ _ (by omega) h.parts, hs _ _ (by omega) h.kids, hs _ _ (by omega) h.pars, hs _ _ (by omega) h.levs, fun i ks hk => hs _ _ (by omega) (h.kid i ks hk)⟩
end MM
set_option maxRecDepth 100000
namespace MM
open PySem L2
/-! ### what is drawn from the script: an object of a place c of numbers and two numbers -/
structure Sh where
  f : Nat → Int → Int → O
  ok : ∀ L c m n, c < L → (f c m n).clean L = true
def shL : Sh := ⟨fun c m n => .lst [.loc c, .int m, .int n], fun L c m n h => by simp [D.clean, h]⟩
def Rill (sh : Sh) (b c : Nat) (S : Sto) : Prop := ∃ (m n : Int) (gs : List Int), S[b]? = some (sh.f c m n) ∧ S[c]? = some (.lst (gs.map D.int)) ∧ gs.length ≤ 100 ∧ b ≠ c
/-- but for the places of the draws the store is as it was -/
def Oth (b c : Nat) (S S' : Sto) : Prop := S'.length = S.length ∧ ∀ n : Nat, n ≠ b → n ≠ c → S'[n]? = S[n]?
theorem Oth.rfl' {b c : Nat} {S : Sto} : Oth b c S S := ⟨rfl, fun _ _ _ => rfl⟩
theorem Oth.trans {b c : Nat} {S S1 S2 : Sto} (x : Oth b c S S1) (y : Oth b c S1 S2) : Oth b c S S2 := ⟨y.1.trans x.1, fun n h1 h2 => (y.2 n h1 h2).trans (x.2 n h1 h2)⟩
theorem Oth.set {b c i : Nat} {S : Sto} {o : O} (h : i = b ∨ i = c) : Oth b c S (S.set i o) := ⟨by simp, fun n h1 h2 => by
  rw [List.getElem?_set_ne]
  rcases h with rfl | rfl
  · exact Ne.symm h1
  · exact Ne.symm h2⟩
theorem Rill.lt {sh : Sh} {b c : Nat} {S : Sto} (h : Rill sh b c S) : b < S.length ∧ c < S.length := by
  obtain ⟨m, n, gs, h1, h2, _⟩ := h
  exact ⟨(List.getElem?_eq_some_iff.mp h1).1, (List.getElem?_eq_some_iff.mp h2).1⟩
theorem clean_ints (L : Nat) : ∀ gs : List Int, cleanL L (gs.map D.int) = true
  | [] => rfl
  | g :: gs => by rw [List.map_cons, clean_cons, clean_int, clean_ints L gs]; rfl
theorem Rill.kept {sh : Sh} {b c : Nat} {S S' : Sto} (h0 : Rill sh b c S) (h : Rill sh b c S') (o : ∀ n : Nat, n < S.length → n ≠ b → n ≠ c → S'[n]? = S[n]?) (hl : S.length ≤ S'.length) : Kept S S' := by
  obtain ⟨m, n, gs, h1, h2, _⟩ := h
  have hc := h0.lt.2
  refine ⟨hl, fun i hi => ?_⟩
  by_cases hb : i = b
  · subst hb
    exact .inr ⟨_, h1, sh.ok _ _ _ _ hc⟩
  · by_cases hcc : i = c
    · subst hcc
      exact .inr ⟨_, h2, by simp [clean_ints]⟩
    · exact .inl (o i hi hb hcc)
/-- a call that draws: its result, the store as the caller sees it -/
theorem gc_draw {sh : Sh} {b c : Nat} {S S' : Sto} {d : D} (h0 : Rill sh b c S) (h : Rill sh b c S') (o : ∀ n : Nat, n < S.length → n ≠ b → n ≠ c → S'[n]? = S[n]?) (hl : S.length ≤ S'.length) (hd : d.clean S.length = true) :
    ∃ S2, gc S (.ok (.val d) S') = .ok (.val d) S2 ∧ Rill sh b c S2 ∧ Oth b c S S2 := by
  refine ⟨_, gc_kept (h0.kept h o hl) hd, ?_, ?_⟩
  · obtain ⟨m, n, gs, h1, h2, h3, h4⟩ := h
    refine ⟨m, n, gs, ?_, ?_, h3, h4⟩
    · rw [List.getElem?_take, if_pos h0.lt.1]; exact h1
    · rw [List.getElem?_take, if_pos h0.lt.2]; exact h2
  · refine ⟨by rw [List.length_take]; omega, fun n h1 h2 => ?_⟩
    rw [List.getElem?_take]
    by_cases hn : n < S.length
    · rw [if_pos hn]; exact o n hn h1 h2
    · rw [if_neg hn, List.getElem?_eq_none (by omega)]
/-- the same of a new list -/
theorem gc_drawT {sh : Sh} {b c : Nat} {S S' : Sto} {o : O} (h0 : Rill sh b c S) (h : Rill sh b c S') (ho : ∀ n : Nat, n < S.length → n ≠ b → n ≠ c → S'[n]? = S[n]?) (hl : S.length ≤ S'.length) (hd : o.clean S.length = true) :
    ∃ S2, gc S (.ok (.tmp o) S') = .ok (.tmp o) S2 ∧ Rill sh b c S2 ∧ Oth b c S S2 := by
  refine ⟨_, gc_keptT (h0.kept h ho hl) hd, ?_, ?_⟩
  · obtain ⟨m, n, gs, h1, h2, h3, h4⟩ := h
    refine ⟨m, n, gs, ?_, ?_, h3, h4⟩
    · rw [List.getElem?_take, if_pos h0.lt.1]; exact h1
    · rw [List.getElem?_take, if_pos h0.lt.2]; exact h2
  · refine ⟨by rw [List.length_take]; omega, fun n h1 h2 => ?_⟩
    rw [List.getElem?_take]
    by_cases hn : n < S.length
    · rw [if_pos hn]; exact ho n hn h1 h2
    · rw [if_neg hn, List.getElem?_eq_none (by omega)]
/-- the same of a list that has a place: the caller gets it as a new one -/
theorem gc_drawL {sh : Sh} {b c n : Nat} {S S' : Sto} {o : O} (h0 : Rill sh b c S) (h : Rill sh b c S') (ho : ∀ n : Nat, n < S.length → n ≠ b → n ≠ c → S'[n]? = S[n]?) (hl : S.length ≤ S'.length) (hn : S.length ≤ n) (hS : S'[n]? = some o) (hd : o.clean S.length = true) :
    ∃ S2, gc S (.ok (.val (.loc n)) S') = .ok (.tmp o) S2 ∧ Rill sh b c S2 ∧ Oth b c S S2 := by
  refine ⟨_, gc_keptL (h0.kept h ho hl) hn hS hd, ?_, ?_⟩
  · obtain ⟨m, n, gs, h1, h2, h3, h4⟩ := h
    refine ⟨m, n, gs, ?_, ?_, h3, h4⟩
    · rw [List.getElem?_take, if_pos h0.lt.1]; exact h1
    · rw [List.getElem?_take, if_pos h0.lt.2]; exact h2
  · refine ⟨by rw [List.length_take]; omega, fun n h1 h2 => ?_⟩
    rw [List.getElem?_take]
    by_cases hn : n < S.length
    · rw [if_pos hn]; exact ho n hn h1 h2
    · rw [if_neg hn, List.getElem?_eq_none (by omega)]
theorem Rill.app {sh : Sh} {b c : Nat} {S : Sto} (X : Sto) (h : Rill sh b c S) : Rill sh b c (S ++ X) := by
  have h0 := h.lt
  obtain ⟨m, n, gs, h1, h2, h3, h4⟩ := h
  exact ⟨m, n, gs, by rw [List.getElem?_append_left h0.1]; exact h1, by rw [List.getElem?_append_left h0.2]; exact h2, h3, h4⟩
theorem Rill.set {sh : Sh} {b c i : Nat} {S : Sto} {o : O} (h : Rill sh b c S) (hb : i ≠ b) (hc : i ≠ c) : Rill sh b c (S.set i o) := by
  obtain ⟨m, n, gs, h1, h2, h3, h4⟩ := h
  exact ⟨m, n, gs, by rw [List.getElem?_set_ne hb]; exact h1, by rw [List.getElem?_set_ne hc]; exact h2, h3, h4⟩
def rpd (n : Nat) (d : D) : List D := List.replicate n d
@[simp] theorem rpd_len (n : Nat) (d : D) : (rpd n d).length = n := by simp [rpd]
theorem rpd_map (n : Nat) (e : Ex) : rpd n e.d = (List.replicate n e).map Ex.d := by simp [rpd]
@[simp] theorem rpd_clean (m n : Nat) (d : D) (h : d.clean m = true) : cleanL m (rpd n d) = true := by
  unfold rpd
  induction n with
  | zero => simp
  | succ n ih => rw [List.replicate_succ, clean_cons, h, ih]; rfl
theorem rep_flat {α : Type} (x : α) : ∀ n : Nat, (List.replicate n [x]).flatten = List.replicate n x
  | 0 => rfl
  | n + 1 => by rw [List.replicate_succ, List.flatten_cons, rep_flat x n, List.replicate_succ]; rfl
theorem bMul_rep (S : Sto) (d : D) (n : Nat) (h1 : 1 ≤ n) (h2 : n ≤ 1000) : bMul (.val (.tup [d])) (.val (.int n)) S = some (.val (.tup (List.replicate n d))) := by
  unfold bMul
  dsimp only
  by_cases h : n = 1
  · subst h
    rfl
  · rw [if_neg (by omega), if_pos ⟨by simp, by omega, by omega, by simp⟩, Int.toNat_natCast, rep_flat]
theorem mul_one (S : Sto) (d : D) (i : Int) (n : Nat) (hi : i = n) (h1 : 1 ≤ n) (h2 : n ≤ 1000) : bMul (.val (.tup [d])) (.val (.int i)) S = some (.val (.tup (rpd n d))) := by
  rw [hi, bMul_rep S d n h1 h2, rpd]
theorem add_tt (S : Sto) (a b : List D) (h : a.length + b.length ≤ 1000) : bAdd (.val (.tup a)) (.val (.tup b)) S = some (.val (.tup (a ++ b))) := by
  rw [bAdd_tup _ _ (le_line (by omega))]
theorem add_ft (S : Sto) (a b : List D) (h : a.length + b.length ≤ 1000) : bAdd (.val (.frz a)) (.tmp (.lst b)) S = some (.tmp (.lst (a ++ b))) := by
  simp [bAdd, W.lr, le_line (show a.length + b.length ≤ 16777216 by omega)]
theorem add_ff (S : Sto) (a b : List D) (h : a.length + b.length ≤ 1000) : bAdd (.val (.frz a)) (.val (.frz b)) S = some (.tmp (.lst (a ++ b))) := by
  simp [bAdd, W.lr, le_line (show a.length + b.length ≤ 16777216 by omega)]
theorem add_xf (S : Sto) (a b : List D) (h : a.length + b.length ≤ 1000) : bAdd (.tmp (.lst a)) (.val (.frz b)) S = some (.tmp (.lst (a ++ b))) := by
  simp [bAdd, W.lr, le_line (show a.length + b.length ≤ 16777216 by omega)]
theorem add_xx (S : Sto) (a b : List D) (h : a.length + b.length ≤ 1000) : bAdd (.tmp (.lst a)) (.tmp (.lst b)) S = some (.tmp (.lst (a ++ b))) := by
  simp [bAdd, W.lr, le_line (show a.length + b.length ≤ 16777216 by omega)]
@[simp] theorem bIx_frz (S : Sto) (ds : List D) (i : Int) : bIx (.val (.frz ds)) (.val (.int i)) S = (atI ds i).map .val := rfl
theorem atI_mem {α : Type} {xs : List α} {r : Int} (h0 : 0 ≤ r) (h : r < xs.length) : ∃ x, atI xs r = some x ∧ x ∈ xs := by
  obtain ⟨n, rfl⟩ : ∃ n : Nat, r = n := ⟨r.toNat, by omega⟩
  exact ⟨xs[n], atI_nat (List.getElem?_eq_getElem (by omega)), List.getElem_mem _⟩
end MM
set_option maxRecDepth 100000
namespace MM
open PySem L2
/-! ### the path of each numbered part -/
namespace Ex
mutual
def paths : Ex → List (List Nat)
  | .op _ ks => [] :: pathsL 0 ks
  | _ => [[]]
def pathsL (i : Nat) : List Ex → List (List Nat)
  | [] => []
  | k :: ks => (paths k).map (i :: ·) ++ pathsL (i + 1) ks
end
theorem paths_eq (e : Ex) : e.paths = [] :: pathsL 0 e.kids := by cases e <;> rfl
theorem paths_len : ∀ e : Ex, e.paths.length = e.size := by
  have key : ∀ ks : List Ex, (∀ k ∈ ks, k.paths.length = k.size) → ∀ i, (pathsL i ks).length = sizeL ks := by
    intro ks
    induction ks with
    | nil => intro _ i; rfl
    | cons k ks ih =>
      intro h i
      rw [pathsL, List.length_append, List.length_map, h k List.mem_cons_self, ih (fun x hx => h x (List.mem_cons_of_mem _ hx)), sizeL]
  refine ind (fun _ => rfl) (fun _ => rfl) rfl rfl fun w ks ih => ?_
  rw [paths, List.length_cons, key ks ih, size]
theorem pathsL_len (i : Nat) (ks : List Ex) : (pathsL i ks).length = sizeL ks := by
  induction ks generalizing i with
  | nil => rfl
  | cons k ks ih => rw [pathsL, List.length_append, List.length_map, paths_len, ih, sizeL]
theorem parsL_len (p : D) (n : Nat) (ks : List Ex) : (parsL p n ks).length = sizeL ks := by
  induction ks generalizing n with
  | nil => rfl
  | cons k ks ih => rw [parsL, List.length_append, pars_len, ih, sizeL]
theorem kidNL_len (n : Nat) (ks : List Ex) : (kidNL n ks).length = sizeL ks := by
  induction ks generalizing n with
  | nil => rfl
  | cons k ks ih => rw [kidNL, List.length_append, kidN_len, ih, sizeL]
theorem starts_ge : ∀ (n : Nat) (ks : List Ex), ∀ x ∈ starts n ks, n ≤ x
  | _, [], x, h => by cases h
  | n, k :: ks, x, h => by
    rw [starts] at h
    rcases List.mem_cons.mp h with rfl | h
    · exact Nat.le_refl _
    · have := starts_ge (n + k.size) ks x h
      omega
theorem starts_up : ∀ (n : Nat) (ks : List Ex), (starts n ks).Pairwise (· < ·)
  | _, [] => .nil
  | n, k :: ks => by
    rw [starts, List.pairwise_cons]
    refine ⟨fun x hx => ?_, starts_up _ ks⟩
    have := starts_ge _ _ x hx
    have := size_pos k
    omega
theorem kidN_up : ∀ (e : Ex) (n : Nat), ∀ kk ∈ kidN n e, kk.Pairwise (· < ·) := by
  have key : ∀ ks : List Ex, (∀ k ∈ ks, ∀ n, ∀ kk ∈ kidN n k, kk.Pairwise (· < ·)) → ∀ n, ∀ kk ∈ kidNL n ks, kk.Pairwise (· < ·) := by
    intro ks
    induction ks with
    | nil => intro _ n kk h; cases h
    | cons k ks ih =>
      intro h n kk hk
      rw [kidNL] at hk
      rcases List.mem_append.mp hk with hk | hk
      · exact h k List.mem_cons_self n kk hk
      · exact ih (fun x hx => h x (List.mem_cons_of_mem _ hx)) _ kk hk
  refine ind (fun _ n kk h => ?_) (fun _ n kk h => ?_) (fun n kk h => ?_) (fun n kk h => ?_) fun w ks ih n kk h => ?_
  · have h : kk ∈ [[]] := h; rw [List.mem_singleton] at h; subst h; exact .nil
  · have h : kk ∈ [[]] := h; rw [List.mem_singleton] at h; subst h; exact .nil
  · have h : kk ∈ [[]] := h; rw [List.mem_singleton] at h; subst h; exact .nil
  · have h : kk ∈ [[]] := h; rw [List.mem_singleton] at h; subst h; exact .nil
  · rw [kidN] at h
    rcases List.mem_cons.mp h with rfl | h
    · exact starts_up _ _
    · exact key ks ih _ kk h
/-- a part that is not the whole: its parent, its place there -/
def UpE (e : Ex) : Prop := ∀ (p : D) (b n : Nat), 0 < n → n < e.size → ∃ m j kk path, m < n ∧ (pars p b e)[n]? = some (.int ((b + m : Nat) : Int)) ∧ (kidN b e)[m]? = some kk ∧ kk[j]? = some (b + n) ∧ e.paths[m]? = some path ∧ e.paths[n]? = some (path ++ [j])
theorem upL (ks : List Ex) (h : ∀ k ∈ ks, UpE k) : ∀ (p : D) (b i n : Nat), n < sizeL ks →
    (∃ j, (starts b ks)[j]? = some (b + n) ∧ (parsL p b ks)[n]? = some p ∧ (pathsL i ks)[n]? = some [i + j]) ∨
    (∃ m j kk path, m < n ∧ (parsL p b ks)[n]? = some (.int ((b + m : Nat) : Int)) ∧ (kidNL b ks)[m]? = some kk ∧ kk[j]? = some (b + n) ∧ (pathsL i ks)[m]? = some path ∧ (pathsL i ks)[n]? = some (path ++ [j])) := by
  induction ks with
  | nil => intro p b i n hn; simp [sizeL] at hn
  | cons k ks ih =>
    intro p b i n hn
    rw [sizeL] at hn
    rw [starts, parsL, pathsL, kidNL]
    have l1 := pars_len p b k
    have l2 := paths_len k
    have l3 := kidN_len b k
    by_cases h1 : n < k.size
    · by_cases h0 : n = 0
      · subst h0
        left
        refine ⟨0, rfl, ?_, ?_⟩
        · rw [List.getElem?_append_left (by omega), pars_eq]; rfl
        · rw [List.getElem?_append_left (by rw [List.length_map]; omega), paths_eq]; rfl
      · right
        obtain ⟨m, j, kk, path, q1, q2, q3, q4, q5, q6⟩ := h k List.mem_cons_self p b n (by omega) h1
        refine ⟨m, j, kk, i :: path, q1, ?_, ?_, q4, ?_, ?_⟩
        · rw [List.getElem?_append_left (by omega)]; exact q2
        · rw [List.getElem?_append_left (by omega)]; exact q3
        · rw [List.getElem?_append_left (by rw [List.length_map]; omega), List.getElem?_map, q5]; rfl
        · rw [List.getElem?_append_left (by rw [List.length_map]; omega), List.getElem?_map, q6]; rfl
    · obtain ⟨n', rfl⟩ : ∃ n', n = k.size + n' := ⟨n - k.size, by omega⟩
      have e1 : ∀ x, (pars p b k ++ x)[k.size + n']? = x[n']? := fun x => by rw [List.getElem?_append_right (by omega), l1, Nat.add_sub_cancel_left]
      have e2 : ∀ (x : List (List Nat)) (m : Nat), (k.paths.map (i :: ·) ++ x)[k.size + m]? = x[m]? := fun x m => by rw [List.getElem?_append_right (by rw [List.length_map]; omega), List.length_map, l2, Nat.add_sub_cancel_left]
      have e3 : ∀ (x : List (List Nat)) (m : Nat), (kidN b k ++ x)[k.size + m]? = x[m]? := fun x m => by rw [List.getElem?_append_right (by omega), l3, Nat.add_sub_cancel_left]
      rcases ih (fun x hx => h x (List.mem_cons_of_mem _ hx)) p (b + k.size) (i + 1) n' (by omega) with ⟨j, q1, q2, q3⟩ | ⟨m, j, kk, path, q1, q2, q3, q4, q5, q6⟩
      · left
        refine ⟨j + 1, ?_, ?_, ?_⟩
        · rw [List.getElem?_cons_succ, q1, Nat.add_assoc]
        · rw [e1]; exact q2
        · rw [e2, q3]; congr 2; omega
      · right
        refine ⟨k.size + m, j, kk, path, by omega, ?_, ?_, ?_, ?_, ?_⟩
        · rw [e1, q2, Nat.add_assoc]
        · rw [e3]; exact q3
        · rw [q4, Nat.add_assoc]
        · rw [e2]; exact q5
        · rw [e2]; exact q6
theorem upE : ∀ e : Ex, UpE e := by
  refine ind (fun i p b n h1 h2 => ?_) (fun i p b n h1 h2 => ?_) (fun p b n h1 h2 => ?_) (fun p b n h1 h2 => ?_) fun w ks ih p b n h1 h2 => ?_
  · rw [size_num] at h2; omega
  · rw [size_name] at h2; omega
  · rw [size_yes] at h2; omega
  · rw [size_no] at h2; omega
  · rw [size] at h2
    obtain ⟨n', rfl⟩ : ∃ n', n = n' + 1 := ⟨n - 1, by omega⟩
    rcases upL ks ih (.int b) (b + 1) 0 n' (by omega) with ⟨j, q1, q2, q3⟩ | ⟨m, j, kk, path, q1, q2, q3, q4, q5, q6⟩
    · refine ⟨0, j, starts (b + 1) ks, [], by omega, ?_, rfl, ?_, rfl, ?_⟩
      · rw [pars, List.getElem?_cons_succ, q2]; rfl
      · rw [q1]; congr 1; omega
      · rw [paths, List.getElem?_cons_succ, q3, Nat.zero_add]; rfl
    · refine ⟨m + 1, j, kk, path, by omega, ?_, ?_, ?_, ?_, ?_⟩
      · rw [pars, List.getElem?_cons_succ, q2]; congr 3; omega
      · rw [kidN, List.getElem?_cons_succ]; exact q3
      · rw [q4]; congr 1; omega
      · rw [paths, List.getElem?_cons_succ]; exact q5
      · rw [paths, List.getElem?_cons_succ]; exact q6
/-! ### what stands at a path, and is put there -/
def atP : Ex → List Nat → Ex
  | e, [] => e
  | e, i :: p => match e.kids[i]? with
    | some k => atP k p
    | none => e
def withP : Ex → List Nat → Ex → Ex
  | _, [], x => x
  | e, i :: p, x => match e with
    | .op w ks => match ks[i]? with
      | some k => .op w (ks.set i (withP k p x))
      | none => e
    | e => e
/-- a path that leads somewhere -/
def okP : Ex → List Nat → Prop
  | _, [] => True
  | e, i :: p => ∃ k, e.kids[i]? = some k ∧ okP k p
theorem parts_at : ∀ (e : Ex) (n : Nat) (path : List Nat), e.paths[n]? = some path → e.parts[n]? = some (atP e path) ∧ okP e path := by
  have key : ∀ ks : List Ex, (∀ k ∈ ks, ∀ (n : Nat) (path : List Nat), k.paths[n]? = some path → k.parts[n]? = some (atP k path) ∧ okP k path) →
      ∀ (i n : Nat) (path : List Nat), (pathsL i ks)[n]? = some path → ∃ j k rest, path = (i + j) :: rest ∧ ks[j]? = some k ∧ (partsL ks)[n]? = some (atP k rest) ∧ okP k rest := by
    intro ks
    induction ks with
    | nil => intro _ i n path h; simp [pathsL] at h
    | cons k ks ih =>
      intro h i n path hp
      rw [pathsL] at hp
      rw [partsL]
      have l2 := paths_len k
      have l3 := parts_len k
      by_cases h1 : n < k.size
      · rw [List.getElem?_append_left (by rw [List.length_map]; omega), List.getElem?_map] at hp
        obtain ⟨r, hr, rfl⟩ := Option.map_eq_some_iff.mp hp
        obtain ⟨g1, g2⟩ := h k List.mem_cons_self n r hr
        exact ⟨0, k, r, rfl, rfl, by rw [List.getElem?_append_left (by omega)]; exact g1, g2⟩
      · obtain ⟨n', rfl⟩ : ∃ n', n = k.size + n' := ⟨n - k.size, by omega⟩
        rw [List.getElem?_append_right (by rw [List.length_map]; omega), List.length_map, l2, Nat.add_sub_cancel_left] at hp
        obtain ⟨j, k', r, g1, g2, g3, g4⟩ := ih (fun x hx => h x (List.mem_cons_of_mem _ hx)) (i + 1) n' path hp
        refine ⟨j + 1, k', r, by rw [g1]; congr 1; omega, by rw [List.getElem?_cons_succ]; exact g2, ?_, g4⟩
        rw [List.getElem?_append_right (by omega), l3, Nat.add_sub_cancel_left]; exact g3
  have leaf : ∀ e : Ex, e.paths = [[]] → e.parts = [e] → ∀ (n : Nat) (path : List Nat), e.paths[n]? = some path → e.parts[n]? = some (atP e path) ∧ okP e path := by
    intro e h1 h2 n path h
    rw [h1] at h
    cases n with
    | zero =>
      simp at h
      subst h
      rw [h2]
      exact ⟨rfl, True.intro⟩
    | succ n => simp at h
  refine ind (fun _ => leaf _ rfl rfl) (fun _ => leaf _ rfl rfl) (leaf _ rfl rfl) (leaf _ rfl rfl) fun w ks ih n path h => ?_
  rw [paths] at h
  rw [parts]
  cases n with
  | zero =>
    simp at h
    subst h
    exact ⟨rfl, True.intro⟩
  | succ n =>
    rw [List.getElem?_cons_succ] at h ⊢
    obtain ⟨j, k, r, g1, g2, g3, g4⟩ := key ks ih 0 n path h
    rw [Nat.zero_add] at g1
    subst g1
    refine ⟨?_, k, g2, g4⟩
    rw [g3, atP]
    show _ = some (match ks[j]? with | some k => atP k r | none => _)
    rw [g2]
end Ex
end MM
set_option maxRecDepth 100000
namespace MM
open PySem L2
/-! ### draws that make new lists: the place of the numbers may move, the store may grow -/
def RillG (sh : Sh) (b : Nat) (S : Sto) : Prop := ∃ c, Rill sh b c S
/-- but for the draws' own places all is as it was: what stood at the other places of S stands there -/
def Grow (sh : Sh) (b : Nat) (S S' : Sto) : Prop := S.length ≤ S'.length ∧ ∀ (c : Nat), Rill sh b c S → (∀ n : Nat, n < S.length → n ≠ b → n ≠ c → S'[n]? = S[n]?) ∧ ∃ c', Rill sh b c' S' ∧ (c' = c ∨ S.length ≤ c')
theorem Rill.uniq {sh : Sh} (inj : ∀ c m n c' m' n', sh.f c m n = sh.f c' m' n' → c = c') {b c c' : Nat} {S : Sto} (h : Rill sh b c S) (h' : Rill sh b c' S) : c = c' := by
  obtain ⟨m, n, gs, h1, _⟩ := h
  obtain ⟨m', n', gs', h1', _⟩ := h'
  rw [h1] at h1'
  exact inj _ _ _ _ _ _ (Option.some.inj h1')
theorem Grow.refl {sh : Sh} {b : Nat} {S : Sto} : Grow sh b S S := ⟨Nat.le_refl _, fun c h => ⟨fun _ _ _ _ => rfl, c, h, .inl rfl⟩⟩
theorem Grow.rill {sh : Sh} {b : Nat} {S S' : Sto} (g : Grow sh b S S') (h : RillG sh b S) : RillG sh b S' := by
  obtain ⟨c, h⟩ := h
  obtain ⟨_, c', h', _⟩ := g.2 c h
  exact ⟨c', h'⟩
theorem Grow.trans {sh : Sh} {b : Nat} {S S1 S2 : Sto} (x : Grow sh b S S1) (y : Grow sh b S1 S2) : Grow sh b S S2 := by
  refine ⟨Nat.le_trans x.1 y.1, fun c h => ?_⟩
  obtain ⟨k1, c1, r1, z1⟩ := x.2 c h
  obtain ⟨k2, c2, r2, z2⟩ := y.2 c1 r1
  have l1 := x.1
  refine ⟨fun n hn h1 h2 => ?_, c2, r2, ?_⟩
  · rw [k2 n (by omega) h1 (by omega), k1 n hn h1 h2]
  · rcases z2 with rfl | z2
    · exact z1
    · exact .inr (by omega)
/-- what a caller sees of a draw -/
theorem gc_grow {sh : Sh} {b : Nat} {S S' : Sto} {d : D} (h : RillG sh b S) (g : Grow sh b S S') (inj : ∀ L c m n, (sh.f c m n).clean L = true → c < L) (hd : d.clean S.length = true) :
    ∃ S2, gc S (.ok (.val d) S') = .ok (.val d) S2 ∧ Grow sh b S S2 := by
  by_cases hk : Kept S S'
  · refine ⟨_, gc_kept hk hd, ?_⟩
    obtain ⟨c, h⟩ := h
    refine ⟨by rw [List.length_take]; have := g.1; omega, fun c2 h2 => ?_⟩
    obtain ⟨k1, c1, r1, z1⟩ := g.2 c2 h2
    refine ⟨fun n hn a b => ?_, ?_⟩
    · rw [List.getElem?_take, if_pos hn]; exact k1 n hn a b
    · obtain ⟨m, n, gs, q1, q2, q3, q4⟩ := r1
      have hb := h2.lt.1
      have hlt : c1 < S.length := by
        rcases hk.2 b hb with z | ⟨o, z, zc⟩
        · obtain ⟨m', n', gs', w1, w2, _⟩ := h2
          rw [q1] at z
          have := h.lt
          rcases z1 with rfl | z1
          · exact (List.getElem?_eq_some_iff.mp w2).1
          · rw [w1] at z
            have e := Option.some.inj z
            have hcl := sh.ok (c2 + 1) c2 m' n' (by omega)
            rw [← e] at hcl
            have := inj _ _ _ _ hcl
            have := (List.getElem?_eq_some_iff.mp w2).1
            omega
        · rw [q1] at z
          cases z
          exact inj _ _ _ _ zc
      refine ⟨c1, ⟨m, n, gs, by rw [List.getElem?_take, if_pos hb]; exact q1, by rw [List.getElem?_take, if_pos hlt]; exact q2, q3, q4⟩, z1⟩
  · refine ⟨S', ?_, g⟩
    unfold gc
    simp only [hk, if_false]
end MM
set_option maxRecDepth 100000
namespace MM
open PySem L2
/-! ### twigs, forks, sticks; what stands at a part's number -/
namespace Ex
mutual
def twg : Ex → Bool
  | .op _ ks => twgL ks
  | _ => true
def twgL : List Ex → Bool
  | [] => true
  | k :: ks => ks.isEmpty && twg k
end
mutual
def stk : Ex → Int
  | .op _ ks => stkS ks - (if stkZ ks then 1 else 0)
  | _ => 0
def stkS : List Ex → Int
  | [] => 0
  | k :: ks => (if stk k > 1 then stk k else 1) + stkS ks
def stkZ : List Ex → Bool
  | [] => true
  | k :: ks => decide (stk k = 0) && stkZ ks
end
mutual
/-- the numbers of the whole twigs, of the forks -/
def whl (n : Nat) : Ex → List Nat
  | .op w ks => if twgL ks = true then [n] else whlL (n + 1) ks
  | _ => [n]
def whlL (n : Nat) : List Ex → List Nat
  | [] => []
  | k :: ks => whl n k ++ whlL (n + k.size) ks
end
def allT : List Ex → Bool
  | [] => true
  | k :: ks => twg k && allT ks
mutual
def frk (n : Nat) : Ex → List Nat
  | .op _ ks => (if 1 < ks.length ∧ allT ks = true then [n] else []) ++ frkL (n + 1) ks
  | _ => []
def frkL (n : Nat) : List Ex → List Nat
  | [] => []
  | k :: ks => frk n k ++ frkL (n + k.size) ks
end
theorem twg_one {e : Ex} (h : twg e = true) : e.kids = [] ∨ ∃ k, e.kids = [k] ∧ twg k = true := by
  cases e with
  | op w ks =>
    rw [twg] at h
    cases ks with
    | nil => exact .inl rfl
    | cons k ks =>
      rw [twgL, Bool.and_eq_true, List.isEmpty_iff] at h
      obtain ⟨rfl, h2⟩ := h
      exact .inr ⟨k, rfl, h2⟩
  | _ => exact .inl rfl
theorem twg_kids (e : Ex) : twg e = (e.kids.isEmpty || (decide (e.kids.length = 1) && allT e.kids)) := by
  cases e with
  | op w ks =>
    match ks with
    | [] => rfl
    | [k] => simp [twg, twgL, kids, allT]
    | k :: k2 :: ks => simp [twg, twgL, kids]
  | _ => rfl
theorem twg_ind {P : Ex → Prop} (h0 : ∀ e, e.kids = [] → P e) (h1 : ∀ w k, twg k = true → P k → P (.op w [k])) : ∀ e, twg e = true → P e := by
  refine ind (fun i _ => h0 _ rfl) (fun i _ => h0 _ rfl) (fun _ => h0 _ rfl) (fun _ => h0 _ rfl) fun w ks ih h => ?_
  match ks, ih, h with
  | [], _, _ => exact h0 _ rfl
  | [k], ih, h =>
    rw [twg, twgL] at h
    simp only [List.isEmpty_nil, Bool.true_and] at h
    exact h1 w k h (ih k List.mem_cons_self h)
  | k :: k2 :: ks, _, h => simp [twg, twgL] at h
theorem whl_twg (e : Ex) (n : Nat) (h : twg e = true) : whl n e = [n] := by
  cases e with
  | op w ks =>
    rw [twg] at h
    rw [whl, if_pos h]
  | _ => rfl
theorem frk_twg (e : Ex) (h : twg e = true) : ∀ n, frk n e = [] := by
  refine twg_ind (P := fun e => ∀ n, frk n e = []) (fun e h n => ?_) (fun w k _ ih n => ?_) e h
  · cases e with
    | op w ks => have h : ks = [] := h; subst h; rfl
    | _ => rfl
  · rw [frk, frkL, frkL, ih]; simp
theorem stk_twg (e : Ex) (hw : e.wf = true) (h : twg e = true) : stk e = 0 := by
  refine twg_ind (P := fun e => e.wf = true → stk e = 0) (fun e h hw => ?_) (fun w k _ ih hw => ?_) e h hw
  · cases e with
    | op w ks => have h : ks = [] := h; subst h; simp [wf] at hw
    | _ => rfl
  · have hk := ih (wfL_mem (by rw [wf, Bool.and_eq_true] at hw; exact hw.2) k List.mem_cons_self)
    rw [stk, stkS, stkS, stkZ, stkZ, hk]; simp
/-- what is no twig sticks -/
theorem stk_pos : ∀ e : Ex, e.wf = true → twg e = false → 1 ≤ stk e := by
  have sum : ∀ ks : List Ex, (ks.length : Int) ≤ stkS ks := by
    intro ks
    induction ks with
    | nil => simp [stkS]
    | cons k ks ih =>
      rw [stkS, List.length_cons]
      split <;> omega
  refine ind (fun i _ h => by simp [twg] at h) (fun i _ h => by simp [twg] at h) (fun _ h => by simp [twg] at h) (fun _ h => by simp [twg] at h) fun w ks ih hw h => ?_
  match ks, ih, h with
  | [], _, h => simp [twg, twgL] at h
  | [k], ih, h =>
    rw [twg, twgL] at h
    simp only [List.isEmpty_nil, Bool.true_and] at h
    have hk := ih k List.mem_cons_self (wfL_mem (by rw [wf, Bool.and_eq_true] at hw; exact hw.2) k List.mem_cons_self) h
    rw [stk, stkS, stkS, stkZ, stkZ]
    have : ¬ stk k = 0 := by omega
    simp only [this, decide_false, Bool.false_and, Bool.false_eq_true, if_false]
    split <;> omega
  | k :: k2 :: ks, _, _ =>
    have := sum (k :: k2 :: ks)
    rw [stk]
    simp only [List.length_cons] at this
    split <;> omega
theorem stkZ_allT : ∀ ks : List Ex, wfL ks = true → stkZ ks = allT ks
  | [], _ => rfl
  | k :: ks, h => by
    rw [wfL, Bool.and_eq_true] at h
    rw [stkZ, allT, stkZ_allT ks h.2]
    congr 1
    cases ht : twg k with
    | true => rw [stk_twg k h.1 ht]; rfl
    | false =>
      have := stk_pos k h.1 ht
      exact decide_eq_false (by omega)
/-- the sticks by whole twigs and forks -/
theorem stk_count : ∀ e : Ex, e.wf = true → (∀ n, twg e = false → ((whl n e).length : Int) - ((frk n e).length : Int) = stk e) := by
  refine ind (fun i _ n h => by simp [twg] at h) (fun i _ n h => by simp [twg] at h) (fun _ n h => by simp [twg] at h) (fun _ n h => by simp [twg] at h) fun w ks ih hw n h => ?_
  have hwl : wfL ks = true := by rw [wf, Bool.and_eq_true] at hw; exact hw.2
  have key : ∀ (ks : List Ex) (n : Nat), (∀ k ∈ ks, k.wf = true → ∀ n, twg k = false → ((whl n k).length : Int) - ((frk n k).length : Int) = stk k) → wfL ks = true → ((whlL n ks).length : Int) - ((frkL n ks).length : Int) = stkS ks := by
    intro ks
    induction ks with
    | nil => intro n _ _; simp [whlL, frkL, stkS]
    | cons k ks ih2 =>
      intro n hh hw
      rw [wfL, Bool.and_eq_true] at hw
      have h2 := ih2 (n + k.size) (fun x hx => hh x (List.mem_cons_of_mem _ hx)) hw.2
      rw [whlL, frkL, stkS, List.length_append, List.length_append]
      cases ht : twg k with
      | true =>
        rw [whl_twg k n ht, frk_twg k ht, stk_twg k hw.1 ht]
        simp only [List.length_singleton, List.length_nil]
        split <;> omega
      | false =>
        have h1 := hh k List.mem_cons_self hw.1 n ht
        have h3 := stk_pos k hw.1 ht
        split <;> omega
  have h1 := key ks (n + 1) ih hwl
  rw [twg] at h
  rw [whl, frk, stk, stkZ_allT ks hwl, if_neg (by rw [h]; exact Bool.false_ne_true), List.length_append]
  have h2 : (1 < ks.length ∧ allT ks = true) ↔ allT ks = true := by
    refine ⟨fun z => z.2, fun z => ⟨?_, z⟩⟩
    match ks, h, z with
    | [], h, _ => simp [twgL] at h
    | [k], h, z => simp [twgL] at h; simp [allT, h] at z
    | k :: k2 :: ks, _, _ => simp
  by_cases ha : allT ks = true
  · rw [if_pos (h2.mpr ha), if_pos ha]; simp only [List.length_singleton]; omega
  · rw [if_neg (fun z => ha (h2.mp z)), if_neg ha]; simp only [List.length_nil]; omega
/-- what stands at a part's number -/
def SubE (e : Ex) : Prop := ∀ (q : D) (b i : Nat), i < e.size → ∃ p q' r1 r2 r3, e.parts.drop i = p.parts ++ r1 ∧ (pars q b e).drop i = pars q' (b + i) p ++ r2 ∧ (kidN b e).drop i = kidN (b + i) p ++ r3
theorem drop_app {α : Type} (a b : List α) (j : Nat) : (a ++ b).drop (a.length + j) = b.drop j := by rw [← List.drop_drop, List.drop_left]
theorem subL (ks : List Ex) (h : ∀ k ∈ ks, SubE k) : ∀ (q : D) (b i : Nat), i < sizeL ks → ∃ p q' r1 r2 r3, (partsL ks).drop i = p.parts ++ r1 ∧ (parsL q b ks).drop i = pars q' (b + i) p ++ r2 ∧ (kidNL b ks).drop i = kidN (b + i) p ++ r3 := by
  induction ks with
  | nil => intro q b i hi; simp [sizeL] at hi
  | cons k ks ih =>
    intro q b i hi
    rw [sizeL] at hi
    rw [partsL, parsL, kidNL]
    have l1 := parts_len k
    have l2 := pars_len q b k
    have l3 := kidN_len b k
    by_cases h1 : i < k.size
    · obtain ⟨p, q', r1, r2, r3, g1, g2, g3⟩ := h k List.mem_cons_self q b i h1
      refine ⟨p, q', r1 ++ partsL ks, r2 ++ parsL q (b + k.size) ks, r3 ++ kidNL (b + k.size) ks, ?_, ?_, ?_⟩
      · rw [List.drop_append_of_le_length (by omega), g1, List.append_assoc]
      · rw [List.drop_append_of_le_length (by omega), g2, List.append_assoc]
      · rw [List.drop_append_of_le_length (by omega), g3, List.append_assoc]
    · obtain ⟨j, rfl⟩ : ∃ j, i = k.size + j := ⟨i - k.size, by omega⟩
      obtain ⟨p, q', r1, r2, r3, g1, g2, g3⟩ := ih (fun x hx => h x (List.mem_cons_of_mem _ hx)) q (b + k.size) j (by omega)
      refine ⟨p, q', r1, r2, r3, ?_, ?_, ?_⟩
      · rw [← l1, drop_app, g1]
      · have : k.size + j = (pars q b k).length + j := by rw [l2]
        rw [this, drop_app, g2, l2, Nat.add_assoc]
      · have : k.size + j = (kidN b k).length + j := by rw [l3]
        rw [this, drop_app, g3, l3, Nat.add_assoc]
theorem sub_at : ∀ e : Ex, SubE e := by
  have main : ∀ e : Ex, (∀ k ∈ e.kids, SubE k) → SubE e := by
    intro e ih q b i hi
    cases i with
    | zero => exact ⟨e, q, [], [], [], by simp, by simp, by simp⟩
    | succ i =>
      rw [size_eq] at hi
      obtain ⟨p, q', r1, r2, r3, g1, g2, g3⟩ := subL e.kids ih (.int b) (b + 1) i (by omega)
      have e1 : b + (i + 1) = b + 1 + i := by omega
      refine ⟨p, q', r1, r2, r3, ?_, ?_, ?_⟩
      · rw [parts_eq', List.drop_succ_cons]; exact g1
      · rw [pars_eq, List.drop_succ_cons, e1]; exact g2
      · rw [kidN_eq, List.drop_succ_cons, e1]; exact g3
  exact ind (fun i => main _ (by simp [kids])) (fun i => main _ (by simp [kids])) (main _ (by simp [kids])) (main _ (by simp [kids])) fun w ks ih => main _ ih
theorem get_drop {α : Type} {l : List α} {i j : Nat} {r : List α} (h : l.drop i = r) : l[i + j]? = r[j]? := by rw [← h, List.getElem?_drop]
/-- the operands of a part: their numbers, what stands there, their parent -/
theorem kid_at {e p : Ex} {i : Nat} (q : D) (b : Nat) (hp : e.parts[i]? = some p) : (kidN b e)[i]? = some (starts (b + i + 1) p.kids) ∧
    ∀ (j s : Nat), (starts (b + i + 1) p.kids)[j]? = some s → b + i < s ∧ s < b + e.size ∧ e.parts[s - b]? = p.kids[j]? ∧ (pars q b e)[s - b]? = some (.int ((b + i : Nat) : Int)) := by
  have hi : i < e.size := by rw [← parts_len e]; exact (List.getElem?_eq_some_iff.mp hp).1
  obtain ⟨p', q', r1, r2, r3, g1, g2, g3⟩ := sub_at e q b i hi
  have e1 := get_drop (j := 0) g1
  rw [Nat.add_zero, hp, parts_eq' p', List.cons_append, List.getElem?_cons_zero] at e1
  cases e1
  have e3 := get_drop (j := 0) g3
  rw [kidN_eq (b + i) p, Nat.add_zero, List.cons_append, List.getElem?_cons_zero] at e3
  refine ⟨e3, ?_⟩
  have key : ∀ (ks : List Ex) (n j s : Nat) (q : D), (starts n ks)[j]? = some s → n ≤ s ∧ s < n + sizeL ks ∧ (partsL ks)[s - n]? = ks[j]? ∧ (parsL q n ks)[s - n]? = some q := by
    intro ks
    induction ks with
    | nil => intro n j s q h; simp [starts] at h
    | cons k ks ih =>
      intro n j s q h
      rw [starts] at h
      have kp := size_pos k
      rw [partsL, parsL, sizeL]
      cases j with
      | zero =>
        rw [List.getElem?_cons_zero] at h
        cases h
        refine ⟨Nat.le_refl _, by omega, ?_, ?_⟩
        · rw [Nat.sub_self, parts_eq']; rfl
        · rw [Nat.sub_self, pars_eq]; rfl
      | succ j =>
        rw [List.getElem?_cons_succ] at h
        obtain ⟨h1, h2, h3, h4⟩ := ih (n + k.size) j s q h
        refine ⟨by omega, by omega, ?_, ?_⟩
        · rw [List.getElem?_append_right (by rw [parts_len]; omega), parts_len, List.getElem?_cons_succ, ← h3]
          congr 1; omega
        · rw [List.getElem?_append_right (by rw [pars_len]; omega), pars_len, ← h4]
          congr 1; omega
  intro j s hs
  obtain ⟨h1, h2, h3, h4⟩ := key p.kids (b + i + 1) j s (.int ((b + i : Nat) : Int)) hs
  have hsz := size_eq p
  have hle : i + p.size ≤ e.size := by
    have := congrArg List.length g1
    rw [List.length_drop, parts_len, List.length_append, parts_len] at this
    omega
  have ej : s - b = i + (1 + (s - (b + i + 1))) := by omega
  refine ⟨by omega, by omega, ?_, ?_⟩
  · rw [ej, get_drop g1, parts_eq' p, List.cons_append, Nat.add_comm 1, List.getElem?_cons_succ, List.getElem?_append_left, h3]
    have : (partsL p.kids).length = sizeL p.kids := by
      have := parts_len p
      rw [parts_eq', List.length_cons] at this
      omega
    omega
  · rw [ej, get_drop g2, pars_eq _ _ p, List.cons_append, Nat.add_comm 1, List.getElem?_cons_succ, List.getElem?_append_left, h4]
    rw [parsL_len]; omega
/-! ### whole twigs and forks by number -/
mutual
/-- number, part, parent, operands' numbers -/
def rws (q : D) (b : Nat) : Ex → List (Nat × Ex × D × List Nat)
  | .op w ks => (b, .op w ks, q, starts (b + 1) ks) :: rwsL (.int b) (b + 1) ks
  | e => [(b, e, q, [])]
def rwsL (q : D) (n : Nat) : List Ex → List (Nat × Ex × D × List Nat)
  | [] => []
  | k :: ks => rws q n k ++ rwsL q (n + k.size) ks
end
theorem rws_eq (q : D) (b : Nat) (e : Ex) : rws q b e = (b, e, q, starts (b + 1) e.kids) :: rwsL (.int b) (b + 1) e.kids := by cases e <;> rfl
theorem rws_maps : ∀ (e : Ex) (q : D) (b : Nat), (rws q b e).map (·.1) = List.range' b e.size ∧ (rws q b e).map (·.2.1) = e.parts ∧ (rws q b e).map (·.2.2.1) = pars q b e ∧ (rws q b e).map (·.2.2.2) = kidN b e := by
  have keyL : ∀ ks : List Ex, (∀ k ∈ ks, ∀ (q : D) (b : Nat), (rws q b k).map (·.1) = List.range' b k.size ∧ (rws q b k).map (·.2.1) = k.parts ∧ (rws q b k).map (·.2.2.1) = pars q b k ∧ (rws q b k).map (·.2.2.2) = kidN b k) →
      ∀ (q : D) (n : Nat), (rwsL q n ks).map (·.1) = List.range' n (sizeL ks) ∧ (rwsL q n ks).map (·.2.1) = partsL ks ∧ (rwsL q n ks).map (·.2.2.1) = parsL q n ks ∧ (rwsL q n ks).map (·.2.2.2) = kidNL n ks := by
    intro ks
    induction ks with
    | nil => intro _ q n; exact ⟨rfl, rfl, rfl, rfl⟩
    | cons k ks ih =>
      intro h q n
      obtain ⟨a1, a2, a3, a4⟩ := h k List.mem_cons_self q n
      obtain ⟨b1, b2, b3, b4⟩ := ih (fun x hx => h x (List.mem_cons_of_mem _ hx)) q (n + k.size)
      rw [rwsL, List.map_append, List.map_append, List.map_append, List.map_append, a1, a2, a3, a4, b1, b2, b3, b4]
      refine ⟨?_, rfl, rfl, rfl⟩
      rw [sizeL, ← List.range'_append_1]
  have main : ∀ e : Ex, (∀ k ∈ e.kids, ∀ (q : D) (b : Nat), (rws q b k).map (·.1) = List.range' b k.size ∧ (rws q b k).map (·.2.1) = k.parts ∧ (rws q b k).map (·.2.2.1) = pars q b k ∧ (rws q b k).map (·.2.2.2) = kidN b k) →
      ∀ (q : D) (b : Nat), (rws q b e).map (·.1) = List.range' b e.size ∧ (rws q b e).map (·.2.1) = e.parts ∧ (rws q b e).map (·.2.2.1) = pars q b e ∧ (rws q b e).map (·.2.2.2) = kidN b e := by
    intro e ih q b
    obtain ⟨b1, b2, b3, b4⟩ := keyL e.kids ih (.int b) (b + 1)
    rw [rws_eq, List.map_cons, List.map_cons, List.map_cons, List.map_cons, b1, b2, b3, b4, parts_eq', pars_eq, kidN_eq, size_eq, Nat.add_comm 1, List.range'_succ]
    exact ⟨rfl, rfl, rfl, rfl⟩
  exact ind (fun i => main _ (by simp [kids])) (fun i => main _ (by simp [kids])) (main _ (by simp [kids])) (main _ (by simp [kids])) fun w ks ih => main _ ih
def wP (f : Nat → Bool) (r : Nat × Ex × D × List Nat) : Bool := twg r.2.1 && match r.2.2.1 with
  | .int q => !f q.toNat
  | _ => true
def fP (f : Nat → Bool) (r : Nat × Ex × D × List Nat) : Bool := decide (1 < r.2.2.2.length) && r.2.2.2.all f
def gP (f : Nat → Bool) (q : D) : Bool := match q with
  | .int q => f q.toNat
  | _ => false
/-- f tells of each number whether a twig stands there -/
def Tells (f : Nat → Bool) (b : Nat) (ps : List Ex) : Prop := ∀ (i : Nat) (p : Ex), ps[i]? = some p → f (b + i) = twg p
theorem Tells.head {f : Nat → Bool} {b : Nat} {p : Ex} {ps : List Ex} (h : Tells f b (p :: ps)) : f b = twg p ∧ Tells f (b + 1) ps :=
  ⟨h 0 p rfl, fun i x hx => by have := h (i + 1) x (by rw [List.getElem?_cons_succ]; exact hx); rw [← this]; congr 1; omega⟩
theorem Tells.app {f : Nat → Bool} {b : Nat} {ps qs : List Ex} (h : Tells f b (ps ++ qs)) : Tells f b ps ∧ Tells f (b + ps.length) qs :=
  ⟨fun i x hx => h i x (by rw [List.getElem?_append_left (List.getElem?_eq_some_iff.mp hx).1]; exact hx),
   fun i x hx => by rw [Nat.add_assoc]; exact h (ps.length + i) x (by rw [List.getElem?_append_right (by omega), Nat.add_sub_cancel_left]; exact hx)⟩
theorem wP_head {f : Nat → Bool} (b : Nat) (e : Ex) (q : D) (kk : List Nat) : wP f (b, e, q, kk) = (twg e && !gP f q) := by
  unfold wP gP
  cases q <;> simp
theorem whl_rows (f : Nat → Bool) : ∀ (e : Ex) (q : D) (b : Nat), Tells f b e.parts → (gP f q = true → twg e = true) → ((rws q b e).filter (wP f)).map (·.1) = if gP f q = true then [] else whl b e := by
  have main : ∀ e : Ex, (∀ k ∈ e.kids, ∀ (q : D) (b : Nat), Tells f b k.parts → (gP f q = true → twg k = true) → ((rws q b k).filter (wP f)).map (·.1) = if gP f q = true then [] else whl b k) →
      ∀ (q : D) (b : Nat), Tells f b e.parts → (gP f q = true → twg e = true) → ((rws q b e).filter (wP f)).map (·.1) = if gP f q = true then [] else whl b e := by
    intro e ih q b ht hg
    have hL : ∀ (ks : List Ex) (n : Nat), (∀ k ∈ ks, k ∈ e.kids) → Tells f n (partsL ks) → (twg e = true → ∀ k ∈ ks, twg k = true) → ((rwsL (.int b) n ks).filter (wP f)).map (·.1) = if twg e = true then [] else whlL n ks := by
      intro ks
      induction ks with
      | nil => intro n _ _ _; simp [rwsL, whlL]
      | cons k ks ih2 =>
        intro n hm hT ha
        rw [partsL] at hT
        obtain ⟨t1, t2⟩ := hT.app
        rw [parts_len] at t2
        have hb : gP f (.int b) = twg e := by
          rw [parts_eq'] at ht
          exact ht.head.1
        have h1 := ih k (hm k List.mem_cons_self) (.int b) n t1 (fun z => ha (by rw [← hb]; exact z) k List.mem_cons_self)
        have h2 := ih2 (n + k.size) (fun x hx => hm x (List.mem_cons_of_mem _ hx)) t2 fun z x hx => ha z x (List.mem_cons_of_mem _ hx)
        rw [hb] at h1
        rw [rwsL, List.filter_append, List.map_append, h1, h2, whlL]
        cases twg e <;> simp
    rw [parts_eq'] at ht
    have hk := hL e.kids (b + 1) (fun _ h => h) ht.head.2 (fun z k hk => by
      rcases twg_one z with h | ⟨k', h, h2⟩
      · rw [h] at hk; cases hk
      · rw [h, List.mem_singleton] at hk
        subst hk
        exact h2)
    rw [rws_eq, List.filter_cons, wP_head]
    cases hgq : gP f q with
    | true =>
      have htw := hg hgq
      rw [htw] at hk ⊢
      simp [hk]
    | false =>
      cases htw : twg e with
      | true =>
        rw [htw] at hk
        rw [whl_twg e b htw]
        simp [hk]
      | false =>
        rw [htw] at hk
        have : whl b e = whlL (b + 1) e.kids := by
          cases e with
          | op w ks =>
            rw [twg] at htw
            rw [whl, if_neg (by rw [htw]; exact Bool.false_ne_true)]
            rfl
          | _ => simp [twg] at htw
        rw [this]
        simp [hk]
  exact ind (fun i => main _ (by simp [kids])) (fun i => main _ (by simp [kids])) (main _ (by simp [kids])) (main _ (by simp [kids])) fun w ks ih => main _ ih
theorem starts_all (f : Nat → Bool) : ∀ (ks : List Ex) (n : Nat), Tells f n (partsL ks) → (starts n ks).all f = allT ks
  | [], _, _ => rfl
  | k :: ks, n, h => by
    rw [partsL] at h
    obtain ⟨t1, t2⟩ := h.app
    rw [parts_len] at t2
    rw [parts_eq'] at t1
    rw [starts, List.all_cons, allT, starts_all f ks _ t2, t1.head.1]
theorem frk_rows (f : Nat → Bool) : ∀ (e : Ex) (q : D) (b : Nat), Tells f b e.parts → ((rws q b e).filter (fP f)).map (·.1) = frk b e := by
  have main : ∀ e : Ex, (∀ k ∈ e.kids, ∀ (q : D) (b : Nat), Tells f b k.parts → ((rws q b k).filter (fP f)).map (·.1) = frk b k) → ∀ (q : D) (b : Nat), Tells f b e.parts → ((rws q b e).filter (fP f)).map (·.1) = frk b e := by
    intro e ih q b ht
    have hL : ∀ (ks : List Ex) (q : D) (n : Nat), (∀ k ∈ ks, k ∈ e.kids) → Tells f n (partsL ks) → ((rwsL q n ks).filter (fP f)).map (·.1) = frkL n ks := by
      intro ks
      induction ks with
      | nil => intro q n _ _; rfl
      | cons k ks ih2 =>
        intro q n hm hT
        rw [partsL] at hT
        obtain ⟨t1, t2⟩ := hT.app
        rw [parts_len] at t2
        rw [rwsL, List.filter_append, List.map_append, ih k (hm k List.mem_cons_self) q n t1, ih2 q (n + k.size) (fun x hx => hm x (List.mem_cons_of_mem _ hx)) t2, frkL]
    rw [parts_eq'] at ht
    have hk := hL e.kids (.int b) (b + 1) (fun _ h => h) ht.head.2
    have hs := starts_all f e.kids (b + 1) ht.head.2
    have hb : fP f (b, e, q, starts (b + 1) e.kids) = (decide (1 < e.kids.length) && allT e.kids) := by
      unfold fP
      rw [hs, starts_len]
    rw [rws_eq, List.filter_cons, hb]
    cases e with
    | op w ks =>
      rw [frk]
      have hk : ((rwsL (.int b) (b + 1) ks).filter (fP f)).map (·.1) = frkL (b + 1) ks := hk
      show (if (decide (1 < ks.length) && allT ks) = true then _ else _ : List (Nat × Ex × D × List Nat)).map (·.1) = _
      by_cases h : 1 < ks.length ∧ allT ks = true
      · rw [if_pos (by simp [h.1, h.2]), if_pos h, List.map_cons]
        show _ :: ((rwsL (.int b) (b + 1) ks).filter (fP f)).map (·.1) = _
        rw [hk]; rfl
      · rw [if_neg (by simpa using h), if_neg h]
        exact hk
    | _ => rfl
  exact ind (fun i => main _ (by simp [kids])) (fun i => main _ (by simp [kids])) (main _ (by simp [kids])) (main _ (by simp [kids])) fun w ks ih => main _ ih
/-- is a twig at this number -/
def twAt (e : Ex) (i : Nat) : Bool := match e.parts[i]? with
  | some p => twg p
  | none => false
theorem tells (e : Ex) : Tells (twAt e) 0 e.parts := fun i p h => by unfold twAt; rw [Nat.zero_add, h]
theorem rws_get {e : Ex} {q : D} {b i : Nat} {r : Nat × Ex × D × List Nat} (h : (rws q b e)[i]? = some r) : r.1 = b + i ∧ e.parts[i]? = some r.2.1 ∧ (pars q b e)[i]? = some r.2.2.1 ∧ (kidN b e)[i]? = some r.2.2.2 := by
  obtain ⟨h1, h2, h3, h4⟩ := rws_maps e q b
  have g1 : ((rws q b e).map (·.1))[i]? = some r.1 := by rw [List.getElem?_map, h]; rfl
  have g2 : ((rws q b e).map (·.2.1))[i]? = some r.2.1 := by rw [List.getElem?_map, h]; rfl
  have g3 : ((rws q b e).map (·.2.2.1))[i]? = some r.2.2.1 := by rw [List.getElem?_map, h]; rfl
  have g4 : ((rws q b e).map (·.2.2.2))[i]? = some r.2.2.2 := by rw [List.getElem?_map, h]; rfl
  rw [h1] at g1
  rw [h2] at g2
  rw [h3] at g3
  rw [h4] at g4
  refine ⟨?_, g2, g3, g4⟩
  have := List.getElem?_eq_some_iff.mp g1
  obtain ⟨w1, w2⟩ := this
  simp at w2
  omega
/-- a choice among the numbers is one among the rows -/
theorem by_rows (e : Ex) (p : Nat → Bool) (P : Nat × Ex × D × List Nat → Bool) (h : ∀ (i : Nat) r, (rws .non 0 e)[i]? = some r → p i = P r) : (List.range e.size).filter p = ((rws .non 0 e).filter P).map (·.1) := by
  obtain ⟨h1, _⟩ := rws_maps e .non 0
  rw [List.range_eq_range', ← h1, List.filter_map]
  congr 1
  apply List.filter_congr
  intro r hr
  obtain ⟨i, hi⟩ := List.getElem?_of_mem hr
  have := (rws_get hi).1
  rw [Nat.zero_add] at this
  show p r.1 = P r
  rw [this]
  exact h i r hi
theorem whl_range (e : Ex) (p : Nat → Bool) (h : ∀ (i : Nat) (x : Ex) (d : D), e.parts[i]? = some x → (pars .non 0 e)[i]? = some d → p i = (twg x && match d with | .int q => !twAt e q.toNat | _ => true)) : (List.range e.size).filter p = whl 0 e := by
  rw [by_rows e p (wP (twAt e)) fun i r hr => ?_, whl_rows (twAt e) e .non 0 (tells e) (fun z => by simp [gP] at z)]
  · rfl
  · obtain ⟨_, h2, h3, _⟩ := rws_get hr
    rw [h i _ _ h2 h3]
    rfl
theorem frk_range (e : Ex) (p : Nat → Bool) (h : ∀ (i : Nat) (kk : List Nat), (kidN 0 e)[i]? = some kk → p i = (decide (1 < kk.length) && kk.all (twAt e))) : (List.range e.size).filter p = frk 0 e := by
  rw [by_rows e p (fP (twAt e)) fun i r hr => ?_, frk_rows (twAt e) e .non 0 (tells e)]
  obtain ⟨_, _, _, h4⟩ := rws_get hr
  rw [h i _ h4]
  rfl
end Ex
end MM
namespace MM
open PySem L2
theorem ap_eAgg (dflt : Bool) (it : MI) (vs : List Nat) (g : Tg) (t : MT) (elt : ME) (T : FT) (δ : MM.Env) (S : Sto) : eAgg dflt it vs g t elt T δ S = (it T δ S).then fun src S1 => match src with
  | .items ds => aggI dflt g (t T) (elt T) (wipeD δ vs) ds S1
  | .live n en => aggL dflt g (t T) (elt T) (wipeD δ vs) n en (lenAt n S1) 0 S1 := rfl
theorem aggI_all {α : Type} {g : Tg} {t : MM.Env → Sto → R Bool} {elt : MM.Env → Sto → R MM.W} {δ : MM.Env} {S : Sto} {enc : α → D} {p : α → Bool} : ∀ {xs : List α}, (∀ x ∈ xs, ∃ δ1, g (enc x) δ = some δ1 ∧ t δ1 S = .ok true S ∧ elt δ1 S = .ok (.val (.bl (p x))) S) → aggI true g t elt δ (xs.map enc) S = .ok (.val (.bl (xs.all p))) S
  | [], _ => rfl
  | x :: xs, h => by
    obtain ⟨δ1, h1, h2, h3⟩ := h x List.mem_cons_self
    have ih := aggI_all (xs := xs) fun y hy => h y (List.mem_cons_of_mem _ hy)
    rw [List.map_cons, List.all_cons]
    unfold aggI
    simp only [h1, h2, h3, nox_ok, then_ok, if_true]
    cases p x with
    | true => simpa using ih
    | false => simp
theorem aggI_any {α : Type} {g : Tg} {t : MM.Env → Sto → R Bool} {elt : MM.Env → Sto → R MM.W} {δ : MM.Env} {S : Sto} {enc : α → D} {p : α → Bool} : ∀ {xs : List α}, (∀ x ∈ xs, ∃ δ1, g (enc x) δ = some δ1 ∧ t δ1 S = .ok true S ∧ elt δ1 S = .ok (.val (.bl (p x))) S) → aggI false g t elt δ (xs.map enc) S = .ok (.val (.bl (xs.any p))) S
  | [], _ => rfl
  | x :: xs, h => by
    obtain ⟨δ1, h1, h2, h3⟩ := h x List.mem_cons_self
    have ih := aggI_any (xs := xs) fun y hy => h y (List.mem_cons_of_mem _ hy)
    rw [List.map_cons, List.any_cons]
    unfold aggI
    simp only [h1, h2, h3, nox_ok, then_ok, if_true]
    cases p x with
    | false => simpa using ih
    | true => simp
/-- over a list of the store that stays as it is -/
theorem aggL_eq {dflt : Bool} {g : Tg} {t : MM.Env → Sto → R Bool} {elt : MM.Env → Sto → R MM.W} {δ : MM.Env} {S : Sto} {n : Nat} {ds : List D} (hn : S[n]? = some (.lst ds)) (h : ∀ d ∈ ds, ∃ δ1 b, g d δ = some δ1 ∧ t δ1 S = .ok true S ∧ elt δ1 S = .ok (.val (.bl b)) S) :
    ∀ (fuel i : Nat), fuel + i = ds.length → aggL dflt g t elt δ n none fuel i S = aggI dflt g t elt δ (ds.drop i) S
  | 0, i, hf => by
    unfold aggL
    have : ds[i]? = none := List.getElem?_eq_none (by omega)
    rw [List.drop_eq_nil_of_le (by omega)]
    simp [liveAt, hn, this, aggI]
  | fuel + 1, i, hf => by
    have hi : i < ds.length := by omega
    obtain ⟨δ1, b, h1, h2, h3⟩ := h ds[i] (List.getElem_mem _)
    have ih := aggL_eq (dflt := dflt) hn h fuel (i + 1) (by omega)
    rw [List.drop_eq_getElem_cons hi]
    unfold aggL aggI
    simp only [liveAt, hn, List.getElem?_eq_getElem hi, Option.map_some, h1, h2, h3, nox_ok, then_ok, if_true, ih]
theorem lenAt_eq {S : Sto} {n : Nat} {ds : List D} (hn : S[n]? = some (.lst ds)) : lenAt n S = ds.length := by unfold lenAt; rw [hn]
end MM
namespace MM
open PySem L2
@[simp] theorem truth_frz (ds : List D) (S : Sto) : (MM.W.val (.frz ds)).truth S = some (!ds.isEmpty) := by unfold MM.W.truth; rfl
end MM
namespace MM
open PySem L2
namespace Ex
theorem part_ok : ∀ (e : Ex), ∀ p ∈ e.parts, (e.wf = true → p.wf = true) ∧ p.depth ≤ e.depth ∧ p.size ≤ e.size := by
  have main : ∀ e : Ex, (∀ k ∈ e.kids, ∀ p ∈ k.parts, (k.wf = true → p.wf = true) ∧ p.depth ≤ k.depth ∧ p.size ≤ k.size) → ∀ p ∈ e.parts, (e.wf = true → p.wf = true) ∧ p.depth ≤ e.depth ∧ p.size ≤ e.size := by
    intro e ih p hp
    rw [parts_eq'] at hp
    rcases List.mem_cons.mp hp with rfl | hp
    · exact ⟨fun h => h, Nat.le_refl _, Nat.le_refl _⟩
    · have key : ∀ ks : List Ex, p ∈ partsL ks → ∃ k ∈ ks, p ∈ k.parts := by
        intro ks
        induction ks with
        | nil => intro h; cases h
        | cons k ks ih2 =>
          intro h
          rw [partsL] at h
          rcases List.mem_append.mp h with h | h
          · exact ⟨k, List.mem_cons_self, h⟩
          · obtain ⟨x, hx, h⟩ := ih2 h
            exact ⟨x, List.mem_cons_of_mem _ hx, h⟩
      obtain ⟨k, hk, hp⟩ := key e.kids hp
      obtain ⟨h1, h2, h3⟩ := ih k hk p hp
      cases e with
      | op w ks =>
        have hk : k ∈ ks := hk
        have hd := (depthL_le (ks := ks) (n := depthL ks)).mp (Nat.le_refl _) k hk
        have hs := sizeL_mem hk
        refine ⟨fun hw => h1 ?_, by rw [depth]; omega, by rw [size]; omega⟩
        rw [wf, Bool.and_eq_true] at hw
        exact wfL_mem hw.2 k hk
      | _ => cases hk
  exact ind (fun i => main _ (by simp [kids])) (fun i => main _ (by simp [kids])) (main _ (by simp [kids])) (main _ (by simp [kids])) fun w ks ih => main _ ih
theorem twAt_of {e p : Ex} {i : Nat} (h : e.parts[i]? = some p) : twAt e i = twg p := by unfold twAt; rw [h]
theorem parts_some (e : Ex) {i : Nat} (hi : i < e.size) : ∃ p, e.parts[i]? = some p := ⟨e.parts[i]'(by rw [parts_len]; exact hi), List.getElem?_eq_getElem _⟩
theorem pars_some (e : Ex) {i : Nat} (hi : i < e.size) : ∃ p, (pars .non 0 e)[i]? = some p := ⟨(pars .non 0 e)[i]'(by rw [pars_len]; exact hi), List.getElem?_eq_getElem _⟩
theorem kidN_some (e : Ex) {i : Nat} (hi : i < e.size) : ∃ p, (kidN 0 e)[i]? = some p := ⟨(kidN 0 e)[i]'(by rw [kidN_len]; exact hi), List.getElem?_eq_getElem _⟩
/-- a part's parent: none of the whole, an earlier number of others -/
theorem par_at (e : Ex) {i : Nat} {d : D} (h : (pars .non 0 e)[i]? = some d) : (i = 0 ∧ d = .non) ∨ ∃ (m j : Nat) (kk : List Nat), m < i ∧ d = .int (m : Nat) ∧ (kidN 0 e)[m]? = some kk ∧ kk[j]? = some i := by
  cases i with
  | zero =>
    rw [pars_eq] at h
    exact .inl ⟨rfl, by simpa using h.symm⟩
  | succ i =>
    have hi : i + 1 < e.size := by rw [← pars_len .non 0 e]; exact (List.getElem?_eq_some_iff.mp h).1
    obtain ⟨m, j, kk, path, h1, h2, h3, h4, _⟩ := upE e .non 0 (i + 1) (by omega) hi
    rw [h] at h2
    rw [Nat.zero_add] at h2 h4
    exact .inr ⟨m, j, kk, h1, Option.some.inj h2, h3, h4⟩
end Ex
abbrev nI (n : Nat) : D := .int (n : Int)
theorem inD_ints (i : Nat) : ∀ xs : List Nat, inD (.int (i : Int)) (xs.map nI) = xs.contains i
  | [] => rfl
  | x :: xs => by
    have ih := inD_ints i xs
    unfold inD at ih ⊢
    rw [List.map_cons, List.any_cons, ih, List.contains_cons]
    congr 1
    simp [eqD, Bool.beq_eq_decide_eq]
    exact ⟨fun h => by omega, fun h => by omega⟩
theorem inD_non (xs : List Nat) : inD .non (xs.map nI) = false := by
  unfold inD
  rw [List.any_eq_false]
  intro x hx
  obtain ⟨n, _, rfl⟩ := List.mem_map.mp hx
  simp [eqD]
theorem flat_ints (xs : List Nat) : (xs.map nI).all D.flat = true := by
  rw [List.all_eq_true]
  intro x hx
  obtain ⟨n, _, rfl⟩ := List.mem_map.mp hx
  rfl
theorem inW_frz_non (xs : List Nat) (S : Sto) : inW (.val .non) (.val (.frz (xs.map nI))) S = some false := by
  have hf := flat_ints xs
  unfold inW
  simp only [W.dq, W.tq, W.lq]
  rw [hf, inD_non]; rfl
theorem inW_frz_int (n : Nat) (xs : List Nat) (S : Sto) : inW (.val (.int (n : Int))) (.val (.frz (xs.map nI))) S = some (xs.contains n) := by
  have hf := flat_ints xs
  unfold inW
  simp only [W.dq, W.tq, W.lq]
  rw [hf, inD_ints]; rfl
@[simp] theorem nI_clean (L : Nat) (xs : List Nat) : cleanL L (xs.map nI) = true := by
  induction xs with
  | nil => simp
  | cons a b ih => rw [List.map_cons, clean_cons, ih]; simp [nI]
end MM
namespace MM
open PySem L2
theorem ixN_nat {n i : Nat} (h : i < n) : ixN n (i : Int) = some i := by
  unfold ixN
  rw [if_pos (by omega), if_pos (by omega), Int.toNat_natCast]
theorem setW_nat {S : Sto} {b i : Nat} {ds : List D} (d : D) (h : S[b]? = some (.lst ds)) (hi : i < ds.length) : setW (.val (.loc b)) (.val (.int (i : Int))) d S = some (S.set b (.lst (ds.set i d))) := by
  unfold setW
  simp only [h, ixN_nat hi, Option.map_some]
theorem kl_cons (b n : Nat) : kl b (n + 1) = .loc b :: kl (b + 1) n := by
  unfold kl
  rw [List.range_succ_eq_map, List.map_cons, List.map_map]
  congr 1
  apply List.map_congr_left
  intro i _
  show D.loc (b + (i + 1)) = D.loc (b + 1 + i)
  congr 1; omega
/-- [[] for x in xs] -/
theorem compI_new {g : Tg} {T : FT} {δ : MM.Env} : ∀ (xs : List D) (S : Sto), (∀ x ∈ xs, ∃ δ1, g x δ = some δ1) → compI g (tYes T) (bnd (eLst lNil) T) δ xs S = .ok (kl S.length xs.length) (S ++ List.replicate xs.length (.lst []))
  | [], S, _ => by simp [compI, kl]
  | x :: xs, S, h => by
    obtain ⟨δ1, h1⟩ := h x List.mem_cons_self
    have ih := compI_new (g := g) (T := T) (δ := δ) xs (S ++ [.lst []]) fun y hy => h y (List.mem_cons_of_mem _ hy)
    have l0 : 0 ≤ sizeLine := Nat.zero_le _
    unfold compI
    simp [h1, l0]
    rw [ih]
    simp [kl_cons, List.replicate_succ]
theorem sorted_filter : ∀ (l : List Nat) (j : Nat), l.Pairwise (· < ·) → j ∈ l → l.filter (fun x => decide (x < j + 1)) = l.filter (fun x => decide (x < j)) ++ [j]
  | [], _, _, h => by cases h
  | a :: l, j, hp, h => by
    rw [List.pairwise_cons] at hp
    rcases List.mem_cons.mp h with rfl | h
    · have h1 : ∀ m : Nat, m ≤ j + 1 → l.filter (fun x => decide (x < m)) = [] := fun m hm => by
        rw [List.filter_eq_nil_iff]
        intro x hx
        have := hp.1 x hx
        simp
        omega
      rw [List.filter_cons, List.filter_cons, h1 _ (Nat.le_refl _), h1 j (by omega)]
      simp
    · have := hp.1 j h
      rw [List.filter_cons, List.filter_cons, sorted_filter l j hp.2 h, if_pos (by simp; omega), if_pos (by simp; omega)]
      rfl
theorem other_filter (l : List Nat) (j : Nat) (h : j ∉ l) : l.filter (fun x => decide (x < j + 1)) = l.filter (fun x => decide (x < j)) := by
  apply List.filter_congr
  intro x hx
  have : x ≠ j := fun z => h (z ▸ hx)
  rw [Bool.eq_iff_iff]
  simp
  omega
namespace Ex
/-- the operands' numbers below j -/
def kidJ (e : Ex) (j : Nat) : List (List Nat) := (kidN 0 e).map fun kk => kk.filter fun x => decide (x < j)
theorem kid_mem {e : Ex} {m j : Nat} {kk : List Nat} (h : (kidN 0 e)[m]? = some kk) (hj : j ∈ kk) : m < j ∧ j < e.size ∧ (pars .non 0 e)[j]? = some (.int (m : Int)) := by
  have hm : m < e.size := by rw [← kidN_len 0 e]; exact (List.getElem?_eq_some_iff.mp h).1
  obtain ⟨p, hp⟩ := parts_some e hm
  obtain ⟨h1, h2⟩ := kid_at (q := .non) (b := 0) hp
  rw [h] at h1
  cases h1
  obtain ⟨i, hi⟩ := List.getElem?_of_mem hj
  obtain ⟨g1, g2, _, g4⟩ := h2 i j hi
  rw [Nat.sub_zero, Nat.zero_add] at g4
  exact ⟨by omega, by omega, g4⟩
theorem kidJ_one (e : Ex) : kidJ e 1 = List.replicate e.size [] := by
  unfold kidJ
  rw [List.eq_replicate_iff]
  refine ⟨by rw [List.length_map, kidN_len], fun x hx => ?_⟩
  obtain ⟨kk, hk, rfl⟩ := List.mem_map.mp hx
  obtain ⟨m, hm⟩ := List.getElem?_of_mem hk
  rw [List.filter_eq_nil_iff]
  intro y hy
  have := (kid_mem hm hy).1
  simp
  omega
theorem kidJ_all (e : Ex) : kidJ e e.size = kidN 0 e := by
  unfold kidJ
  conv => rhs; rw [← List.map_id (kidN 0 e)]
  apply List.map_congr_left
  intro kk hk
  obtain ⟨m, hm⟩ := List.getElem?_of_mem hk
  rw [List.filter_eq_self.mpr]
  · rfl
  · intro y hy
    have := (kid_mem hm hy).2.1
    simpa using this
theorem kidJ_step (e : Ex) {m j : Nat} {kk : List Nat} (h : (kidN 0 e)[m]? = some kk) (hj : j ∈ kk) : kidJ e (j + 1) = (kidJ e j).set m (kk.filter (fun x => decide (x < j)) ++ [j]) ∧ (kidJ e j)[m]? = some (kk.filter fun x => decide (x < j)) := by
  have hg : (kidJ e j)[m]? = some (kk.filter fun x => decide (x < j)) := by unfold kidJ; rw [List.getElem?_map, h]; rfl
  refine ⟨?_, hg⟩
  have hpar := (kid_mem h hj).2.2
  apply List.ext_getElem?
  intro i
  by_cases hi : m = i
  · subst hi
    rw [List.getElem?_set_self (List.getElem?_eq_some_iff.mp hg).1]
    unfold kidJ
    rw [List.getElem?_map, h, Option.map_some, sorted_filter kk j (kidN_up e 0 kk (List.mem_of_getElem? h)) hj]
  · rw [List.getElem?_set_ne hi]
    unfold kidJ
    rw [List.getElem?_map, List.getElem?_map]
    cases hk : (kidN 0 e)[i]? with
    | none => rfl
    | some k2 =>
      rw [Option.map_some, Option.map_some, other_filter]
      intro hj2
      have := (kid_mem hk hj2).2.2
      rw [hpar] at this
      simp at this
      omega
end Ex
end MM
namespace MM
open PySem L2
theorem bMul_lrep (S : Sto) (d : D) (n : Nat) (z : Int) (hz : z = n) (hn : n ≤ 10000) : bMul (.tmp (.lst [d])) (.val (.int z)) S = some (.tmp (.lst (List.replicate n d))) := by
  have ht : z.toNat = n := by omega
  have h1 : -(2 ^ 63) ≤ z := by omega
  have h2 : z < 2 ^ 63 := by omega
  clear hz
  have h3 : ([d] : List D).length * z.toNat ≤ sizeLine := by rw [ht]; simp; exact le_line (by omega)
  unfold bMul
  simp only [W.lr]
  rw [if_pos ⟨h1, h2, h3⟩, ht, rep_flat]
end MM
namespace MM
open PySem L2
theorem eBin_of {f : B2} {a b : ME} {T : FT} {δ : MM.Env} {S S1 S2 : Sto} {x y w : MM.W} (h1 : a T δ S = .ok x S1) (h2 : b T δ S1 = .ok y S2) (h3 : f x y S2 = some w) : eBin f a b T δ S = .ok w S2 := by
  rw [ap_eBin, h1, then_ok, h2, then_ok, h3]; rfl
theorem sAsg_tmp {i : Nat} {m : ME} {T : FT} {δ : MM.Env} {S S1 : Sto} {o : O} (h : m T δ S = .ok (.tmp o) S1) (hi : i < δ.length) : sAsg i m T δ S = .nx (δ.set i (some (.loc S1.length))) (S1 ++ [o]) := by
  rw [ap_sAsg, ap_bnd, h, then_ok, bindW_tmp, thenS_ok, if_pos hi]
theorem sAsg_val {i : Nat} {m : ME} {T : FT} {δ : MM.Env} {S S1 : Sto} {d : D} (h : m T δ S = .ok (.val d) S1) (hi : i < δ.length) : sAsg i m T δ S = .nx (δ.set i (some d)) S1 := by
  rw [ap_sAsg, ap_bnd, h, then_ok, bindW_val, thenS_ok, if_pos hi]
end MM
set_option maxRecDepth 100000
set_option maxHeartbeats 0
namespace K06
open PySem PySem.Calls PyProof.Rows L2 MM
abbrev depth : Nat := 76
/-! ### the text by places -/
def topS (i : Nat) : Stmt := PySem.Challenge.pw_anypartnext_k06_twigs_and_forks.main.body.getD i (.Pass ⟨0, 0, 0, 0⟩)
def inClass (s : Stmt) (j : Nat) : Stmt := match s with
  | .ClassDef _ _ _ b _ _ _ _ _ _ _ => b.getD j (.Pass ⟨0, 0, 0, 0⟩)
  | _ => .Pass ⟨0, 0, 0, 0⟩
def exFields : List (List Str) := []
def exMros : List (List Nat) := []
def c_LEAVES : D := (.tup [(.str (Str.ofString "num")), (.str (Str.ofString "name")), (.str (Str.ofString "yes")), (.str (Str.ofString "no"))])
/-- _wall -/
noncomputable def m_00 : MS := sWhile manyN (tE (eC (.bl true))) (sNil)
/-- is_leaf -/
noncomputable def m_01 : MS := sRet (eBin (bC inW) (eBin bIx (eV 0) (eC (.int 0))) (eC c_LEAVES))
/-- operands_in -/
noncomputable def m_02 : MS := sRet (eIf (tE (eCall 1 (lCons (eV 0) (lNil)))) (eTup (lNil)) (eSl (eV 0) (some (eC (.int 1))) none))
/-- Tree.__init__ -/
noncomputable def m_03 : MS := sSeq (sFld (Str.ofString "_parts") (eV 0) (eLst (lNil))) (sSeq (sFld (Str.ofString "_kids") (eV 0) (eLst (lNil))) (sSeq (sFld (Str.ofString "_parents") (eV 0) (eLst (lNil))) (sSeq (sFld (Str.ofString "_levels") (eV 0) (eLst (lNil))) (sE (eMeth (Str.ofString "_add") [(0, 4)] (eV 0) (lCons (eV 1) (lCons (eC .non) (lCons (eC (.int 0)) (lNil)))))))))
/-- Tree._add -/
noncomputable def m_04 : MS := sSeq (sAsg 4 (eUn uLen (eFld (Str.ofString "_parts") (eV 0)))) (sSeq (sE (eEff2 isL fAppend (eFld (Str.ofString "_parts") (eV 0)) (eV 1))) (sSeq (sE (eEff2 isL fAppend (eFld (Str.ofString "_kids") (eV 0)) (eLst (lNil)))) (sSeq (sE (eEff2 isL fAppend (eFld (Str.ofString "_parents") (eV 0)) (eV 2))) (sSeq (sE (eEff2 isL fAppend (eFld (Str.ofString "_levels") (eV 0)) (eV 3))) (sSeq (sFor (iE (eCall 2 (lCons (eV 1) (lNil)))) (gN 5) (sE (eEff2 isL fAppend (eBin bIx (eFld (Str.ofString "_kids") (eV 0)) (eV 4)) (eZ (eMeth (Str.ofString "_add") [(0, 4)] (eV 0) (lCons (eV 5) (lCons (eV 4) (lCons (eBin bAdd (eV 3) (eC (.int 1))) (lNil))))))))) (sRet (eV 4)))))))
/-- Tree.many -/
noncomputable def m_05 : MS := sRet (eUn uLen (eFld (Str.ofString "_parts") (eV 0)))
/-- Tree.part -/
noncomputable def m_06 : MS := sRet (eBin bIx (eFld (Str.ofString "_parts") (eV 0)) (eV 1))
/-- Tree.kids -/
noncomputable def m_07 : MS := sRet (eBin bIx (eFld (Str.ofString "_kids") (eV 0)) (eV 1))
/-- Tree.parent -/
noncomputable def m_08 : MS := sRet (eBin bIx (eFld (Str.ofString "_parents") (eV 0)) (eV 1))
/-- Tree.level -/
noncomputable def m_09 : MS := sRet (eBin bIx (eFld (Str.ofString "_levels") (eV 0)) (eV 1))
/-- Tree.is_leaf -/
noncomputable def m_10 : MS := sE (eCall 0 (lCons (eC (.int 0)) (lNil)))
/-- Tree.within -/
noncomputable def m_11 : MS := sSeq (sAsg 2 (eBin bAdd (eV 1) (eC (.int 1)))) (sSeq (sWhile manyN (tAnd (tCmp cLt (eV 2) (eUn uLen (eFld (Str.ofString "_parts") (eV 0)))) (tCmp cGt (eBin bIx (eFld (Str.ofString "_levels") (eV 0)) (eV 2)) (eBin bIx (eFld (Str.ofString "_levels") (eV 0)) (eV 1)))) (sAsg 2 (eBin bAdd (eV 2) (eC (.int 1))))) (sRet (eListR true (eBin bAdd (eV 1) (eC (.int 1))) (eV 2))))
/-- Tree.size -/
noncomputable def m_12 : MS := sRet (eBin bAdd (eUn uLen (eMeth (Str.ofString "within") [(0, 11)] (eV 0) (lCons (eV 1) (lNil)))) (eC (.int 1)))
/-- Tree.upward -/
noncomputable def m_13 : MS := sE (eCall 0 (lCons (eC (.int 1)) (lNil)))
/-- stick_of -/
noncomputable def m_14 : MS := sRet (eBin bSub (eUn uSum (eLc (iE (eV 0)) [1] (gN 1) (tYes) (eZ (eBin bMax2 (eC (.int 1)) (eV 1))))) (eUn uInt (eAgg true (iE (eV 0)) [1] (gN 1) (tYes) (eBin (bC eqW) (eV 1) (eC (.int 0))))))
/-- stick_number -/
noncomputable def m_15 : MS := sSeq (sAsg 1 (eZ (eLc (iE (eCall 2 (lCons (eV 0) (lNil)))) [2] (gN 2) (tYes) (eZ (eCall 15 (lCons (eV 2) (lNil))))))) (sRet (eIf (tE (eV 1)) (eCall 14 (lCons (eV 1) (lNil))) (eC (.int 0))))
/-- is_twig -/
noncomputable def m_16 : MS := sSeq (sAsg 1 (eZ (eCall 2 (lCons (eV 0) (lNil))))) (sRet (eOr (eBin (bC eqW) (eUn uLen (eV 1)) (eC (.int 0))) (eAnd (eBin (bC eqW) (eUn uLen (eV 1)) (eC (.int 1))) (eCall 16 (lCons (eBin bIx (eV 1) (eC (.int 0))) (lNil))))))
/-- whole_twigs -/
noncomputable def m_17 : MS := sSeq (sAsg 1 (eZ (eNew 0 3 (lCons (eV 0) (lNil))))) (sSeq (sAsg 2 (eZ (eLc (iRange1 (eMeth (Str.ofString "many") [(0, 5)] (eV 1) lNil)) [3] (gN 3) (tE (eCall 16 (lCons (eZ (eMeth (Str.ofString "part") [(0, 6)] (eV 1) (lCons (eV 3) (lNil)))) (lNil)))) (eV 3)))) (sRet (eUn uTuple (eLc (iE (eV 2)) [3] (gN 3) (tCmp (cNot inW) (eMeth (Str.ofString "parent") [(0, 8)] (eV 1) (lCons (eV 3) (lNil))) (eV 2)) (eV 3)))))
/-- forks_of -/
noncomputable def m_18 : MS := sSeq (sAsg 1 (eZ (eNew 0 3 (lCons (eV 0) (lNil))))) (sSeq (sAsg 2 (eLst (lNil))) (sSeq (sFor (iRange1 (eMeth (Str.ofString "many") [(0, 5)] (eV 1) lNil)) (gN 3) (sSeq (sAsg 4 (eZ (eMeth (Str.ofString "kids") [(0, 7)] (eV 1) (lCons (eV 3) (lNil))))) (sIf (tAnd (tCmp cGt (eUn uLen (eV 4)) (eC (.int 1))) (tE (eAgg true (iE (eV 4)) [5] (gN 5) (tYes) (eCall 16 (lCons (eZ (eMeth (Str.ofString "part") [(0, 6)] (eV 1) (lCons (eV 5) (lNil)))) (lNil)))))) (sE (eEff2 isL fAppend (eV 2) (eV 3))) (sNil)))) (sRet (eUn uTuple (eV 2)))))
/-- need_of -/
noncomputable def m_19 : MS := sRet (eBin bAdd (eCall 15 (lCons (eV 0) (lNil))) (eC (.int 1)))
/-- _law_branch -/
noncomputable def m_20 : MS := sSeq (sPar [1, 2] (lCons (eLst (lNil)) (lCons (eC (.int 21577)) (lNil)))) (sSeq (sFor (iE (eSl (eV 0) none (some (eC (.int 58))))) (gN 3) (sSeq (sAsg 4 (eBin bMod (eUn uAbs (eUn uInt (eV 3))) (eBin bShl (eC (.int 1)) (eC (.int 1650))))) (sSeq (sAsg 2 (eBin bMod (eBin bAdd (eBin bAdd (eBin bMul (eV 2) (eC (.int 52009))) (eBin bMod (eUn uInt (eV 4)) (eC (.int 1000609)))) (eC (.int 29))) (eC (.int 998244223)))) (sIf (tCmp cGe (eV 4) (eBin bPow (eC (.int 10)) (eC (.int 18)))) (sE (eIns (eV 1) (eC (.int 0)) (eV 4))) (sNil))))) (sRet (eLst (lCons (eV 1) (lCons (eV 2) (lCons (eC (.int 0)) (lNil)))))))
/-- _law_snap -/
noncomputable def m_21 : MS := sSeq (sIf (tE (eBin bIx (eV 0) (eC (.int 0)))) (sSeq (sAsg 2 (eUn uInt (eBin bIx (eBin bIx (eV 0) (eC (.int 0))) (eUn uNeg (eC (.int 1)))))) (sSeq (sIf (tCmp cLt (eV 2) (eBin bMax2 (eV 1) (eC (.int 2)))) (sE (eEff1 fPop (eBin bIx (eV 0) (eC (.int 0))))) (sSetIx (eBin bIx (eV 0) (eC (.int 0))) (eUn uNeg (eC (.int 1))) (eBin bDiv (eV 2) (eBin bMax2 (eV 1) (eC (.int 2)))))) (sRet (eBin bMod (eV 2) (eV 1))))) (sNil)) (sSeq (sSetIx (eV 0) (eC (.int 2)) (eBin bAdd (eBin bIx (eV 0) (eC (.int 2))) (eC (.int 1)))) (sSeq (sSetIx (eV 0) (eC (.int 1)) (eBin bMod (eBin bAdd (eBin bAdd (eBin bMul (eUn uInt (eBin bIx (eV 0) (eC (.int 1)))) (eC (.int 29017))) (eBin bMul (eBin bIx (eV 0) (eC (.int 2))) (eC (.int 5801)))) (eC (.int 11))) (eC (.int 998244223)))) (sRet (eBin bMod (eBin bDiv (eUn uInt (eBin bIx (eV 0) (eC (.int 1)))) (eC (.int 41))) (eV 1)))))
/-- _law_is -/
noncomputable def m_22 : MS := sSeq (sIf (tOr (tE (eUn (uIs .bool) (eV 1))) (tE (eUn (uIs .bool) (eV 0)))) (sRet (eAnd (eUn (uIs .bool) (eV 1)) (eAnd (eUn (uIs .bool) (eV 0)) (eBin (bC eqW) (eV 0) (eV 1))))) (sNil)) (sSeq (sIf (tE (eUn (uIs .tuple) (eV 1))) (sRet (eAnd (eUn (uIs .tuple) (eV 0)) (eAnd (eBin (bC eqW) (eUn uLen (eV 0)) (eUn uLen (eV 1))) (eBin (bC eqW) (eUn uLen (eLc (iRange1 (eUn uLen (eV 1))) [2] (gN 2) (tNot (tE (eCall 22 (lCons (eBin bIx (eV 0) (eV 2)) (lCons (eBin bIx (eV 1) (eV 2)) (lNil)))))) (eC (.int 1)))) (eC (.int 0)))))) (sNil)) (sRet (eAnd (eUn (uIs .int) (eV 0)) (eBin (bC eqW) (eV 0) (eV 1)))))
/-- _law_twig -/
noncomputable def m_23 : MS := sSeq (sIf (tE (eV 1)) (sAsg 3 (eBin bIx (eTup (lCons (eTup (lCons (eC (.str (Str.ofString "yes"))) (lNil))) (lCons (eTup (lCons (eC (.str (Str.ofString "no"))) (lNil))) (lNil)))) (eCall 21 (lCons (eV 0) (lCons (eC (.int 2)) (lNil)))))) (sAsg 3 (eBin bIx (eTup (lCons (eTup (lCons (eC (.str (Str.ofString "name"))) (lCons (eC (.str (Str.ofString "v"))) (lNil)))) (lCons (eTup (lCons (eC (.str (Str.ofString "num"))) (lCons (eC (.int 12)) (lNil)))) (lCons (eTup (lCons (eC (.str (Str.ofString "name"))) (lCons (eC (.str (Str.ofString "twig"))) (lNil)))) (lNil))))) (eCall 21 (lCons (eV 0) (lCons (eC (.int 3)) (lNil))))))) (sSeq (sFor (iRange1 (eBin bSub (eV 2) (eC (.int 1)))) (gN 4) (sAsg 3 (eIf (tE (eV 1)) (eTup (lCons (eC (.str (Str.ofString "not"))) (lCons (eV 3) (lNil)))) (eTup (lCons (eBin bIx (eTup (lCons (eC (.str (Str.ofString "neg"))) (lCons (eC (.str (Str.ofString "half"))) (lNil)))) (eCall 21 (lCons (eV 0) (lCons (eC (.int 2)) (lNil))))) (lCons (eV 3) (lNil))))))) (sRet (eV 3)))
/-- _law_tree -/
noncomputable def m_24 : MS := sSeq (sAsg 4 (eZ (eCall 21 (lCons (eV 0) (lCons (eC (.int 8)) (lNil)))))) (sSeq (sIf (tOr (tCmp cLt (eV 2) (eC (.int 3))) (tOr (tCmp cLt (eV 3) (eC (.int 2))) (tCmp eqW (eV 4) (eC (.int 0))))) (sRet (eCall 23 (lCons (eV 0) (lCons (eV 1) (lCons (eBin bAdd (eC (.int 1)) (eCall 21 (lCons (eV 0) (lCons (eZ (eOf3 min3 (eV 2) (eV 3) (eC (.int 6)))) (lNil))))) (lNil)))))) (sNil)) (sSeq (sIf (tCmp eqW (eV 4) (eC (.int 1))) (sSeq (sAsg 5 (eZ (eCall 24 (lCons (eV 0) (lCons (eV 1) (lCons (eBin bSub (eV 2) (eC (.int 1))) (lCons (eBin bSub (eV 3) (eC (.int 1))) (lNil)))))))) (sRet (eIf (tE (eV 1)) (eTup (lCons (eC (.str (Str.ofString "not"))) (lCons (eV 5) (lNil)))) (eTup (lCons (eBin bIx (eTup (lCons (eC (.str (Str.ofString "half"))) (lCons (eC (.str (Str.ofString "neg"))) (lNil)))) (eCall 21 (lCons (eV 0) (lCons (eC (.int 2)) (lNil))))) (lCons (eV 5) (lNil))))))) (sNil)) (sSeq (sIf (tAnd (tCmp eqW (eV 4) (eC (.int 2))) (tAnd (tNot (tE (eV 1))) (tCmp cGt (eV 2) (eC (.int 3))))) (sSeq (sAsg 6 (eBin bDiv (eBin bSub (eV 2) (eC (.int 1))) (eC (.int 3)))) (sRet (eTup (lCons (eC (.str (Str.ofString "pick"))) (lCons (eZ (eCall 24 (lCons (eV 0) (lCons (eC (.bl true)) (lCons (eV 6) (lCons (eBin bSub (eV 3) (eC (.int 1))) (lNil))))))) (lCons (eZ (eCall 24 (lCons (eV 0) (lCons (eC (.bl false)) (lCons (eV 6) (lCons (eBin bSub (eV 3) (eC (.int 1))) (lNil))))))) (lCons (eZ (eCall 24 (lCons (eV 0) (lCons (eC (.bl false)) (lCons (eV 6) (lCons (eBin bSub (eV 3) (eC (.int 1))) (lNil))))))) (lNil)))))))) (sNil)) (sSeq (sIf (tAnd (tCmp eqW (eV 4) (eC (.int 3))) (tE (eV 1))) (sSeq (sAsg 7 (eBin bAdd (eC (.int 1)) (eCall 21 (lCons (eV 0) (lCons (eBin bSub (eV 2) (eC (.int 2))) (lNil)))))) (sRet (eTup (lCons (eBin bIx (eTup (lCons (eC (.str (Str.ofString "less"))) (lCons (eC (.str (Str.ofString "same"))) (lNil)))) (eCall 21 (lCons (eV 0) (lCons (eC (.int 2)) (lNil))))) (lCons (eZ (eCall 24 (lCons (eV 0) (lCons (eC (.bl false)) (lCons (eV 7) (lCons (eBin bSub (eV 3) (eC (.int 1))) (lNil))))))) (lCons (eZ (eCall 24 (lCons (eV 0) (lCons (eC (.bl false)) (lCons (eBin bSub (eBin bSub (eV 2) (eC (.int 1))) (eV 7)) (lCons (eBin bSub (eV 3) (eC (.int 1))) (lNil))))))) (lNil))))))) (sNil)) (sSeq (sAsg 8 (eIf (tE (eV 1)) (eBin bIx (eTup (lCons (eC (.str (Str.ofString "and"))) (lCons (eC (.str (Str.ofString "or"))) (lNil)))) (eCall 21 (lCons (eV 0) (lCons (eC (.int 2)) (lNil))))) (eBin bIx (eTup (lCons (eC (.str (Str.ofString "add"))) (lCons (eC (.str (Str.ofString "mul"))) (lCons (eC (.str (Str.ofString "min"))) (lCons (eC (.str (Str.ofString "max"))) (lNil)))))) (eCall 21 (lCons (eV 0) (lCons (eC (.int 4)) (lNil))))))) (sSeq (sAsg 9 (eBin bAdd (eC (.int 2)) (eCall 21 (lCons (eV 0) (lCons (eZ (eBin bMin2 (eC (.int 5)) (eBin bSub (eV 2) (eC (.int 2))))) (lNil)))))) (sSeq (sIf (tCmp eqW (eV 4) (eC (.int 4))) (sRet (eBin bAdd (eTup (lCons (eV 8) (lNil))) (eUn uTuple (eLc (iRange1 (eV 9)) [12] (gN 12) (tYes) (eZ (eCall 23 (lCons (eV 0) (lCons (eV 1) (lCons (eBin bAdd (eC (.int 1)) (eCall 21 (lCons (eV 0) (lCons (eZ (eBin bMax2 (eC (.int 1)) (eOf3 min3 (eC (.int 3)) (eBin bDiv (eBin bSub (eV 2) (eC (.int 1))) (eV 9)) (eBin bSub (eV 3) (eC (.int 1)))))) (lNil))))) (lNil)))))))))) (sNil)) (sSeq (sPar [10, 11] (lCons (eLst (lCons (eV 8) (lNil))) (lCons (eBin bSub (eV 2) (eC (.int 1))) (lNil)))) (sSeq (sFor (iRange1 (eV 9)) (gN 12) (sSeq (sAsg 6 (eIf (tCmp eqW (eV 12) (eBin bSub (eV 9) (eC (.int 1)))) (eBin bSub (eV 11) (eBin bSub (eBin bSub (eV 9) (eC (.int 1))) (eV 12))) (eBin bAdd (eC (.int 1)) (eCall 21 (lCons (eV 0) (lCons (eBin bSub (eV 11) (eBin bSub (eBin bSub (eV 9) (eC (.int 1))) (eV 12))) (lNil))))))) (sSeq (sE (eEff2 isL fAppend (eV 10) (eZ (eCall 24 (lCons (eV 0) (lCons (eV 1) (lCons (eV 6) (lCons (eBin bSub (eV 3) (eC (.int 1))) (lNil))))))))) (sAsg 11 (eBin bSub (eV 11) (eV 6)))))) (sRet (eUn uTuple (eV 10))))))))))))
/-- _law_numbered -/
noncomputable def m_25 : MS := sSeq (sPar [1, 2] (lCons (eLst (lNil)) (lCons (eLst (lCons (eTup (lCons (eV 0) (lCons (eC .non) (lNil)))) (lNil))) (lNil)))) (sSeq (sWhile manyN (tCmp cGt (eUn uLen (eV 2)) (eC (.int 0))) (sSeq (sAsgT [3, 4] (eEff1 fPop (eV 2))) (sSeq (sAsg 5 (eUn uLen (eV 1))) (sSeq (sE (eEff2 isL fAppend (eV 1) (eTup (lCons (eV 3) (lCons (eV 4) (lNil)))))) (sIf (tCmp (cNot inW) (eBin bIx (eV 3) (eC (.int 0))) (eTup (lCons (eC (.str (Str.ofString "num"))) (lCons (eC (.str (Str.ofString "name"))) (lCons (eC (.str (Str.ofString "yes"))) (lCons (eC (.str (Str.ofString "no"))) (lNil))))))) (sE (eEff2 isL fExtend (eV 2) (eSlA (eLc (iE (eSl (eV 3) (some (eC (.int 1))) none)) [6] (gN 6) (tYes) (eTup (lCons (eV 6) (lCons (eV 5) (lNil))))) none none (eUn uNeg (eC (.int 1)))))) (sNil)))))) (sRet (eV 1)))
/-- _law_twigs -/
noncomputable def m_26 : MS := sSeq (sAsg 1 (eZ (eLc (iE (eV 0)) [4] (gN 4) (tYes) (eLst (lNil))))) (sSeq (sFor (iRange (eC (.int 1)) (eUn uLen (eV 0))) (gN 2) (sE (eEff2 isL fAppend (eBin bIx (eV 1) (eBin bIx (eBin bIx (eV 0) (eV 2)) (eC (.int 1)))) (eV 2)))) (sSeq (sAsg 3 (eBin bMul (eLst (lCons (eC (.bl false)) (lNil))) (eUn uLen (eV 0)))) (sSeq (sFor (iRange3 (eBin bSub (eUn uLen (eV 0)) (eC (.int 1))) (eUn uNeg (eC (.int 1))) (eUn uNeg (eC (.int 1)))) (gN 2) (sSetIx (eV 3) (eV 2) (eOr (eBin (bC eqW) (eUn uLen (eBin bIx (eV 1) (eV 2))) (eC (.int 0))) (eAnd (eBin (bC eqW) (eUn uLen (eBin bIx (eV 1) (eV 2))) (eC (.int 1))) (eBin bIx (eV 3) (eBin bIx (eBin bIx (eV 1) (eV 2)) (eC (.int 0)))))))) (sRet (eTup (lCons (eV 3) (lCons (eV 1) (lNil))))))))
/-- _law_facts -/
noncomputable def m_27 : MS := sSeq (sAsg 1 (eZ (eCall 25 (lCons (eV 0) (lNil))))) (sSeq (sAsgT [2, 3] (eCall 26 (lCons (eV 1) (lNil)))) (sSeq (sAsg 4 (eZ (eLc (iRange1 (eUn uLen (eV 1))) [6] (gN 6) (tAnd (tE (eBin bIx (eV 2) (eV 6))) (tOr (tCmp cIsN (eBin bIx (eBin bIx (eV 1) (eV 6)) (eC (.int 1))) (eC .non)) (tNot (tE (eBin bIx (eV 2) (eBin bIx (eBin bIx (eV 1) (eV 6)) (eC (.int 1)))))))) (eV 6)))) (sSeq (sAsg 5 (eZ (eLc (iRange1 (eUn uLen (eV 1))) [6] (gN 6) (tAnd (tCmp cGt (eUn uLen (eBin bIx (eV 3) (eV 6))) (eC (.int 1))) (tCmp eqW (eUn uLen (eLc (iE (eBin bIx (eV 3) (eV 6))) [7] (gN 7) (tNot (tE (eBin bIx (eV 2) (eV 7)))) (eV 7))) (eC (.int 0)))) (eV 6)))) (sRet (eTup (lCons (eBin bIx (eV 2) (eC (.int 0))) (lCons (eUn uTuple (eV 4)) (lCons (eUn uTuple (eV 5)) (lCons (eIf (tE (eBin bIx (eV 2) (eC (.int 0)))) (eC (.int 0)) (eBin bSub (eUn uLen (eV 4)) (eUn uLen (eV 5)))) (lNil))))))))))
/-- _law_sum -/
noncomputable def m_28 : MS := sSeq (sIf (tCmp inW (eBin bIx (eV 0) (eC (.int 0))) (eTup (lCons (eC (.str (Str.ofString "num"))) (lCons (eC (.str (Str.ofString "name"))) (lCons (eC (.str (Str.ofString "yes"))) (lCons (eC (.str (Str.ofString "no"))) (lNil))))))) (sRet (eUn uNeg (eC (.int 1)))) (sNil)) (sSeq (sAsg 1 (eZ (eLc (iE (eSl (eV 0) (some (eC (.int 1))) none)) [2] (gN 2) (tYes) (eZ (eCall 28 (lCons (eV 2) (lNil))))))) (sSeq (sIf (tCmp eqW (eUn uLen (eV 1)) (eC (.int 1))) (sRet (eBin bIx (eV 1) (eC (.int 0)))) (sNil)) (sRet (eBin bSub (eUn uSum (eLc (iE (eV 1)) [2] (gN 2) (tYes) (eZ (eBin bMax2 (eC (.int 1)) (eV 2))))) (eUn uInt (eBin (bC eqW) (eUn uMax (eV 1)) (eUn uNeg (eC (.int 1)))))))))
/-- _law_asked -/
noncomputable def m_29 : MS := sSeq (sAsgT [2, 3, 4, 5] (eCall 27 (lCons (eV 1) (lNil)))) (sSeq (sIf (tCmp (cNot eqW) (eV 5) (eBin bMax2 (eC (.int 0)) (eCall 28 (lCons (eV 1) (lNil))))) (sRet (eC (.bl false))) (sNil)) (sSeq (sAsg 6 (eTup (lCons (eZ (eCall 16 (lCons (eV 1) (lNil)))) (lCons (eZ (eCall 17 (lCons (eV 1) (lNil)))) (lCons (eZ (eCall 18 (lCons (eV 1) (lNil)))) (lCons (eZ (eCall 15 (lCons (eV 1) (lNil)))) (lCons (eZ (eCall 19 (lCons (eV 1) (lNil)))) (lNil)))))))) (sSeq (sIf (tNot (tE (eCall 22 (lCons (eV 6) (lCons (eTup (lCons (eV 2) (lCons (eV 3) (lCons (eV 4) (lCons (eV 5) (lCons (eBin bAdd (eV 5) (eC (.int 1))) (lNil))))))) (lNil)))))) (sRet (eC (.bl false))) (sNil)) (sSeq (sAsg 7 (eZ (eCall 25 (lCons (eV 1) (lNil))))) (sSeq (sAsgT [8, 9] (eCall 26 (lCons (eV 7) (lNil)))) (sSeq (sFor (iRange1 (eC (.int 3))) (gN 10) (sSeq (sAsg 11 (eZ (eCall 21 (lCons (eV 0) (lCons (eUn uLen (eV 7)) (lNil)))))) (sIf (tNot (tE (eCall 22 (lCons (eZ (eCallK 16 0 1 [0] (lNil) (lCons (eBin bIx (eBin bIx (eV 7) (eV 11)) (eC (.int 0))) (lNil)))) (lCons (eBin bIx (eV 8) (eV 11)) (lNil)))))) (sRet (eC (.bl false))) (sNil)))) (sRet (eC (.bl true)))))))))
/-- _law_hand -/
noncomputable def m_30 : MS := sSeq (sAsg 1 (eTup (lCons (eC (.str (Str.ofString "add"))) (lCons (eTup (lCons (eC (.str (Str.ofString "add"))) (lCons (eTup (lCons (eC (.str (Str.ofString "add"))) (lCons (eTup (lCons (eC (.str (Str.ofString "name"))) (lCons (eC (.str (Str.ofString "a"))) (lNil)))) (lCons (eTup (lCons (eC (.str (Str.ofString "name"))) (lCons (eC (.str (Str.ofString "b"))) (lNil)))) (lNil))))) (lCons (eTup (lCons (eC (.str (Str.ofString "name"))) (lCons (eC (.str (Str.ofString "c"))) (lNil)))) (lNil))))) (lCons (eTup (lCons (eC (.str (Str.ofString "name"))) (lCons (eC (.str (Str.ofString "d"))) (lNil)))) (lNil)))))) (sSeq (sAsg 2 (eTup (lCons (eC (.str (Str.ofString "pick"))) (lCons (eTup (lCons (eC (.str (Str.ofString "less"))) (lCons (eTup (lCons (eC (.str (Str.ofString "name"))) (lCons (eC (.str (Str.ofString "a"))) (lNil)))) (lCons (eTup (lCons (eC (.str (Str.ofString "num"))) (lCons (eC (.int 3)) (lNil)))) (lNil))))) (lCons (eTup (lCons (eC (.str (Str.ofString "neg"))) (lCons (eTup (lCons (eC (.str (Str.ofString "name"))) (lCons (eC (.str (Str.ofString "b"))) (lNil)))) (lNil)))) (lCons (eTup (lCons (eC (.str (Str.ofString "mul"))) (lCons (eTup (lCons (eC (.str (Str.ofString "num"))) (lCons (eC (.int 2)) (lNil)))) (lCons (eTup (lCons (eC (.str (Str.ofString "name"))) (lCons (eC (.str (Str.ofString "c"))) (lNil)))) (lNil))))) (lNil))))))) (sSeq (sAsg 3 (eBin bAdd (eC (.int 1)) (eCall 21 (lCons (eV 0) (lCons (eC (.int 6)) (lNil)))))) (sSeq (sAsg 4 (eZ (eCall 23 (lCons (eV 0) (lCons (eC (.bl false)) (lCons (eV 3) (lNil))))))) (sSeq (sAsg 5 (eBin bAdd (eTup (lCons (eC (.str (Str.ofString "max"))) (lNil))) (eBin bMul (eTup (lCons (eV 4) (lNil))) (eC (.int 6))))) (sSeq (sAsg 6 (eZ (eLst (lCons (eTup (lCons (eV 1) (lCons (eTup (lCons (eC (.bl false)) (lCons (eTup (lCons (eC (.int 3)) (lCons (eC (.int 4)) (lCons (eC (.int 5)) (lCons (eC (.int 6)) (lNil)))))) (lCons (eTup (lCons (eC (.int 2)) (lNil))) (lCons (eC (.int 3)) (lNil)))))) (lNil)))) (lCons (eTup (lCons (eV 2) (lCons (eTup (lCons (eC (.bl false)) (lCons (eTup (lCons (eC (.int 2)) (lCons (eC (.int 3)) (lCons (eC (.int 4)) (lCons (eC (.int 7)) (lCons (eC (.int 8)) (lNil))))))) (lCons (eTup (lCons (eC (.int 1)) (lCons (eC (.int 6)) (lNil)))) (lCons (eC (.int 3)) (lNil)))))) (lNil)))) (lCons (eTup (lCons (eV 4) (lCons (eTup (lCons (eC (.bl true)) (lCons (eTup (lCons (eC (.int 0)) (lNil))) (lCons (eTup (lNil)) (lCons (eC (.int 0)) (lNil)))))) (lNil)))) (lCons (eTup (lCons (eV 5) (lCons (eTup (lCons (eC (.bl false)) (lCons (eUn uTuple (eLc (iRange1 (eC (.int 6))) [9] (gN 9) (tYes) (eBin bAdd (eC (.int 1)) (eBin bMul (eV 3) (eV 9))))) (lCons (eTup (lCons (eC (.int 0)) (lNil))) (lCons (eC (.int 5)) (lNil)))))) (lNil)))) (lCons (eTup (lCons (eTup (lCons (eC (.str (Str.ofString "neg"))) (lCons (eTup (lCons (eC (.str (Str.ofString "half"))) (lCons (eV 5) (lNil)))) (lNil)))) (lCons (eTup (lCons (eC (.bl false)) (lCons (eUn uTuple (eLc (iRange1 (eC (.int 6))) [9] (gN 9) (tYes) (eBin bAdd (eC (.int 3)) (eBin bMul (eV 3) (eV 9))))) (lCons (eTup (lCons (eC (.int 2)) (lNil))) (lCons (eC (.int 5)) (lNil)))))) (lNil)))) (lNil))))))))) (sSeq (sAsg 6 (eZ (eBin bAdd (eV 6) (eLst (lCons (eTup (lCons (eTup (lCons (eC (.str (Str.ofString "mul"))) (lCons (eV 5) (lCons (eV 4) (lNil))))) (lCons (eTup (lCons (eC (.bl false)) (lCons (eUn uTuple (eLc (iRange1 (eC (.int 7))) [9] (gN 9) (tYes) (eBin bAdd (eC (.int 2)) (eBin bMul (eV 3) (eV 9))))) (lCons (eTup (lCons (eC (.int 1)) (lNil))) (lCons (eC (.int 6)) (lNil)))))) (lNil)))) (lCons (eTup (lCons (eTup (lCons (eC (.str (Str.ofString "sub"))) (lCons (eV 4) (lCons (eV 4) (lNil))))) (lCons (eTup (lCons (eC (.bl false)) (lCons (eTup (lCons (eC (.int 1)) (lCons (eBin bAdd (eC (.int 1)) (eV 3)) (lNil)))) (lCons (eTup (lCons (eC (.int 0)) (lNil))) (lCons (eC (.int 1)) (lNil)))))) (lNil)))) (lCons (eTup (lCons (eTup (lCons (eC (.str (Str.ofString "not"))) (lCons (eTup (lCons (eC (.str (Str.ofString "same"))) (lCons (eV 4) (lCons (eTup (lCons (eC (.str (Str.ofString "num"))) (lCons (eC (.int 0)) (lNil)))) (lNil))))) (lNil)))) (lCons (eTup (lCons (eC (.bl false)) (lCons (eTup (lCons (eC (.int 2)) (lCons (eBin bAdd (eC (.int 2)) (eV 3)) (lNil)))) (lCons (eTup (lCons (eC (.int 1)) (lNil))) (lCons (eC (.int 1)) (lNil)))))) (lNil)))) (lCons (eTup (lCons (eTup (lCons (eC (.str (Str.ofString "add"))) (lCons (eTup (lCons (eC (.str (Str.ofString "sub"))) (lCons (eV 4) (lCons (eV 4) (lNil))))) (lCons (eTup (lCons (eC (.str (Str.ofString "sub"))) (lCons (eV 4) (lCons (eV 4) (lNil))))) (lNil))))) (lCons (eTup (lCons (eC (.bl false)) (lCons (eTup (lCons (eC (.int 2)) (lCons (eBin bAdd (eC (.int 2)) (eV 3)) (lCons (eBin bAdd (eC (.int 3)) (eBin bMul (eC (.int 2)) (eV 3))) (lCons (eBin bAdd (eC (.int 3)) (eBin bMul (eC (.int 3)) (eV 3))) (lNil)))))) (lCons (eTup (lCons (eC (.int 1)) (lCons (eBin bAdd (eC (.int 2)) (eBin bMul (eC (.int 2)) (eV 3))) (lNil)))) (lCons (eC (.int 2)) (lNil)))))) (lNil)))) (lNil))))))))) (sSeq (sAsg 6 (eZ (eBin bAdd (eV 6) (eLst (lCons (eTup (lCons (eTup (lCons (eC (.str (Str.ofString "pick"))) (lCons (eTup (lCons (eC (.str (Str.ofString "yes"))) (lNil))) (lCons (eV 4) (lCons (eTup (lCons (eC (.str (Str.ofString "num"))) (lCons (eC (.int 1)) (lNil)))) (lNil)))))) (lCons (eTup (lCons (eC (.bl false)) (lCons (eTup (lCons (eC (.int 1)) (lCons (eC (.int 2)) (lCons (eBin bAdd (eC (.int 2)) (eV 3)) (lNil))))) (lCons (eTup (lCons (eC (.int 0)) (lNil))) (lCons (eC (.int 2)) (lNil)))))) (lNil)))) (lCons (eTup (lCons (eTup (lCons (eC (.str (Str.ofString "pick"))) (lCons (eTup (lCons (eC (.str (Str.ofString "not"))) (lCons (eTup (lCons (eC (.str (Str.ofString "no"))) (lNil))) (lNil)))) (lCons (eTup (lCons (eC (.str (Str.ofString "add"))) (lCons (eV 4) (lCons (eV 4) (lCons (eV 4) (lNil)))))) (lCons (eTup (lCons (eC (.str (Str.ofString "num"))) (lCons (eC (.int 1)) (lNil)))) (lNil)))))) (lCons (eTup (lCons (eC (.bl false)) (lCons (eTup (lCons (eC (.int 1)) (lCons (eC (.int 4)) (lCons (eBin bAdd (eC (.int 4)) (eV 3)) (lCons (eBin bAdd (eC (.int 4)) (eBin bMul (eC (.int 2)) (eV 3))) (lCons (eBin bAdd (eC (.int 4)) (eBin bMul (eC (.int 3)) (eV 3))) (lNil))))))) (lCons (eTup (lCons (eC (.int 3)) (lNil))) (lCons (eC (.int 4)) (lNil)))))) (lNil)))) (lCons (eTup (lCons (eTup (lCons (eC (.str (Str.ofString "num"))) (lCons (eC (.int 0)) (lNil)))) (lCons (eTup (lCons (eC (.bl true)) (lCons (eTup (lCons (eC (.int 0)) (lNil))) (lCons (eTup (lNil)) (lCons (eC (.int 0)) (lNil)))))) (lNil)))) (lNil)))))))) (sSeq (sFor (iE (eV 6)) (gT [7, 8]) (sIf (tOr (tCmp (cNot eqW) (eCall 27 (lCons (eV 7) (lNil))) (eV 8)) (tNot (tE (eCall 29 (lCons (eV 0) (lCons (eV 7) (lNil))))))) (sRet (eC (.bl false))) (sNil))) (sRet (eCall 22 (lCons (eTup (lCons (eZ (eCallK 17 0 1 [0] (lNil) (lCons (eV 1) (lNil)))) (lCons (eZ (eCallK 18 0 1 [0] (lNil) (lCons (eV 2) (lNil)))) (lCons (eZ (eCallK 15 0 1 [0] (lNil) (lCons (eV 1) (lNil)))) (lCons (eZ (eCallK 19 0 1 [0] (lNil) (lCons (eV 2) (lNil)))) (lNil)))))) (lCons (eTup (lCons (eTup (lCons (eC (.int 3)) (lCons (eC (.int 4)) (lCons (eC (.int 5)) (lCons (eC (.int 6)) (lNil)))))) (lCons (eTup (lCons (eC (.int 1)) (lCons (eC (.int 6)) (lNil)))) (lCons (eC (.int 3)) (lCons (eC (.int 4)) (lNil)))))) (lNil)))))))))))))
/-- law -/
noncomputable def m_31 : MS := sSeq (sAsg 1 (eCall 20 (lCons (eV 0) (lNil)))) (sSeq (sIf (tNot (tE (eCall 30 (lCons (eV 1) (lNil))))) (sRet (eC (.bl false))) (sNil)) (sSeq (sFor (iRange1 (eC (.int 5))) (gN 2) (sSeq (sAsg 3 (eZ (eCall 24 (lCons (eV 1) (lCons (eBin (bC eqW) (eCall 21 (lCons (eV 1) (lCons (eC (.int 3)) (lNil)))) (eC (.int 0))) (lCons (eBin bIx (eTup (lCons (eC (.int 2)) (lCons (eC (.int 7)) (lCons (eC (.int 15)) (lCons (eC (.int 30)) (lCons (eC (.int 60)) (lNil))))))) (eCall 21 (lCons (eV 1) (lCons (eC (.int 5)) (lNil))))) (lCons (eC (.int 10)) (lNil)))))))) (sIf (tNot (tE (eCall 29 (lCons (eV 1) (lCons (eV 3) (lNil)))))) (sRet (eC (.bl false))) (sNil)))) (sSeq (sIf (tCmp (cNot eqW) (eCall 21 (lCons (eV 1) (lCons (eC (.int 13)) (lNil)))) (eC (.int 9))) (sRet (eC (.bl true))) (sNil)) (sSeq (sAsgT [4, 5] (eTup (lCons (eTup (lCons (eC (.str (Str.ofString "name"))) (lCons (eC (.str (Str.ofString "x"))) (lNil)))) (lCons (eTup (lCons (eC (.str (Str.ofString "name"))) (lCons (eC (.str (Str.ofString "y"))) (lNil)))) (lNil))))) (sSeq (sFor (iRange1 (eC (.int 29))) (gN 2) (sAsg 5 (eTup (lCons (eC (.str (Str.ofString "sub"))) (lCons (eV 5) (lCons (eV 4) (lNil))))))) (sSeq (sAsg 6 (eBin bAdd (eBin bAdd (eTup (lCons (eC (.str (Str.ofString "add"))) (lNil))) (eBin bMul (eTup (lCons (eBin bAdd (eTup (lCons (eC (.str (Str.ofString "mul"))) (lNil))) (eBin bMul (eTup (lCons (eBin bAdd (eTup (lCons (eC (.str (Str.ofString "min"))) (lNil))) (eBin bMul (eTup (lCons (eV 4) (lNil))) (eC (.int 6)))) (lNil))) (eC (.int 5)))) (lNil))) (eC (.int 5)))) (eTup (lCons (eTup (lCons (eC (.str (Str.ofString "neg"))) (lCons (eTup (lCons (eC (.str (Str.ofString "half"))) (lCons (eV 4) (lNil)))) (lNil)))) (lNil))))) (sRet (eAnd (eCall 29 (lCons (eV 1) (lCons (eV 5) (lNil)))) (eAnd (eCall 29 (lCons (eV 1) (lCons (eV 6) (lNil)))) (eCall 29 (lCons (eV 1) (lCons (eZ (eCall 24 (lCons (eV 1) (lCons (eC (.bl false)) (lCons (eC (.int 200)) (lCons (eC (.int 30)) (lNil))))))) (lNil)))))))))))))
noncomputable def I : Info where
  defs := [
    ⟨(Str.ofString "_wall"), (Str.ofString "_wall"), (topS 0), [(Str.ofString "k")], [(Str.ofString "k")], true, ⟨1, 1, m_00⟩⟩,
    ⟨(Str.ofString "is_leaf"), (Str.ofString "is_leaf"), (topS 3), [(Str.ofString "expression")], [(Str.ofString "expression")], true, ⟨1, 1, m_01⟩⟩,
    ⟨(Str.ofString "operands_in"), (Str.ofString "operands_in"), (topS 4), [(Str.ofString "expression")], [(Str.ofString "expression")], true, ⟨1, 1, m_02⟩⟩,
    ⟨(Str.ofString "__init__"), (Str.ofString "Tree.__init__"), (inClass (topS 6) 0), [(Str.ofString "self"), (Str.ofString "expression")], [(Str.ofString "self"), (Str.ofString "expression")], false, ⟨2, 2, m_03⟩⟩,
    ⟨(Str.ofString "_add"), (Str.ofString "Tree._add"), (inClass (topS 6) 1), [(Str.ofString "self"), (Str.ofString "expression"), (Str.ofString "parent"), (Str.ofString "level"), (Str.ofString "part"), (Str.ofString "operand")], [(Str.ofString "self"), (Str.ofString "expression"), (Str.ofString "parent"), (Str.ofString "level")], false, ⟨4, 6, m_04⟩⟩,
    ⟨(Str.ofString "many"), (Str.ofString "Tree.many"), (inClass (topS 6) 2), [(Str.ofString "self")], [(Str.ofString "self")], false, ⟨1, 1, m_05⟩⟩,
    ⟨(Str.ofString "part"), (Str.ofString "Tree.part"), (inClass (topS 6) 3), [(Str.ofString "self"), (Str.ofString "part")], [(Str.ofString "self"), (Str.ofString "part")], false, ⟨2, 2, m_06⟩⟩,
    ⟨(Str.ofString "kids"), (Str.ofString "Tree.kids"), (inClass (topS 6) 4), [(Str.ofString "self"), (Str.ofString "part")], [(Str.ofString "self"), (Str.ofString "part")], false, ⟨2, 2, m_07⟩⟩,
    ⟨(Str.ofString "parent"), (Str.ofString "Tree.parent"), (inClass (topS 6) 5), [(Str.ofString "self"), (Str.ofString "part")], [(Str.ofString "self"), (Str.ofString "part")], false, ⟨2, 2, m_08⟩⟩,
    ⟨(Str.ofString "level"), (Str.ofString "Tree.level"), (inClass (topS 6) 6), [(Str.ofString "self"), (Str.ofString "part")], [(Str.ofString "self"), (Str.ofString "part")], false, ⟨2, 2, m_09⟩⟩,
    ⟨(Str.ofString "is_leaf"), (Str.ofString "Tree.is_leaf"), (inClass (topS 6) 7), [(Str.ofString "self"), (Str.ofString "part")], [(Str.ofString "self"), (Str.ofString "part")], false, ⟨2, 2, m_10⟩⟩,
    ⟨(Str.ofString "within"), (Str.ofString "Tree.within"), (inClass (topS 6) 8), [(Str.ofString "self"), (Str.ofString "part"), (Str.ofString "end")], [(Str.ofString "self"), (Str.ofString "part")], false, ⟨2, 3, m_11⟩⟩,
    ⟨(Str.ofString "size"), (Str.ofString "Tree.size"), (inClass (topS 6) 9), [(Str.ofString "self"), (Str.ofString "part")], [(Str.ofString "self"), (Str.ofString "part")], false, ⟨2, 2, m_12⟩⟩,
    ⟨(Str.ofString "upward"), (Str.ofString "Tree.upward"), (inClass (topS 6) 10), [(Str.ofString "self")], [(Str.ofString "self")], false, ⟨1, 1, m_13⟩⟩,
    ⟨(Str.ofString "stick_of"), (Str.ofString "stick_of"), (topS 8), [(Str.ofString "sticks"), (Str.ofString "stick"), (Str.ofString ".gen")], [(Str.ofString "sticks")], true, ⟨1, 3, m_14⟩⟩,
    ⟨(Str.ofString "stick_number"), (Str.ofString "stick_number"), (topS 9), [(Str.ofString "expression"), (Str.ofString "sticks"), (Str.ofString "operand")], [(Str.ofString "expression")], true, ⟨1, 3, m_15⟩⟩,
    ⟨(Str.ofString "is_twig"), (Str.ofString "is_twig"), (topS 10), [(Str.ofString "expression"), (Str.ofString "operands")], [(Str.ofString "expression")], true, ⟨1, 2, m_16⟩⟩,
    ⟨(Str.ofString "whole_twigs"), (Str.ofString "whole_twigs"), (topS 11), [(Str.ofString "expression"), (Str.ofString "tree"), (Str.ofString "twigs"), (Str.ofString "part")], [(Str.ofString "expression")], true, ⟨1, 4, m_17⟩⟩,
    ⟨(Str.ofString "forks_of"), (Str.ofString "forks_of"), (topS 12), [(Str.ofString "expression"), (Str.ofString "tree"), (Str.ofString "told"), (Str.ofString "part"), (Str.ofString "kids"), (Str.ofString "kid"), (Str.ofString ".gen")], [(Str.ofString "expression")], true, ⟨1, 7, m_18⟩⟩,
    ⟨(Str.ofString "need_of"), (Str.ofString "need_of"), (topS 13), [(Str.ofString "expression")], [(Str.ofString "expression")], true, ⟨1, 1, m_19⟩⟩,
    ⟨(Str.ofString "_law_branch"), (Str.ofString "_law_branch"), (topS 15), [(Str.ofString "script"), (Str.ofString "bark"), (Str.ofString "sap"), (Str.ofString "cell"), (Str.ofString "size")], [(Str.ofString "script")], true, ⟨1, 5, m_20⟩⟩,
    ⟨(Str.ofString "_law_snap"), (Str.ofString "_law_snap"), (topS 16), [(Str.ofString "branch"), (Str.ofString "many"), (Str.ofString "size")], [(Str.ofString "branch"), (Str.ofString "many")], true, ⟨2, 3, m_21⟩⟩,
    ⟨(Str.ofString "_law_is"), (Str.ofString "_law_is"), (topS 17), [(Str.ofString "told"), (Str.ofString "due"), (Str.ofString "at")], [(Str.ofString "told"), (Str.ofString "due")], true, ⟨2, 3, m_22⟩⟩,
    ⟨(Str.ofString "_law_twig"), (Str.ofString "_law_twig"), (topS 18), [(Str.ofString "branch"), (Str.ofString "truth"), (Str.ofString "many"), (Str.ofString "told"), (Str.ofString "lap")], [(Str.ofString "branch"), (Str.ofString "truth"), (Str.ofString "many")], true, ⟨3, 5, m_23⟩⟩,
    ⟨(Str.ofString "_law_tree"), (Str.ofString "_law_tree"), (topS 19), [(Str.ofString "branch"), (Str.ofString "truth"), (Str.ofString "room"), (Str.ofString "deep"), (Str.ofString "way"), (Str.ofString "inner"), (Str.ofString "share"), (Str.ofString "first"), (Str.ofString "word"), (Str.ofString "many"), (Str.ofString "told"), (Str.ofString "left"), (Str.ofString "at")], [(Str.ofString "branch"), (Str.ofString "truth"), (Str.ofString "room"), (Str.ofString "deep")], true, ⟨4, 13, m_24⟩⟩,
    ⟨(Str.ofString "_law_numbered"), (Str.ofString "_law_numbered"), (topS 20), [(Str.ofString "expression"), (Str.ofString "told"), (Str.ofString "todo"), (Str.ofString "one"), (Str.ofString "above"), (Str.ofString "here"), (Str.ofString "operand")], [(Str.ofString "expression")], true, ⟨1, 7, m_25⟩⟩,
    ⟨(Str.ofString "_law_twigs"), (Str.ofString "_law_twigs"), (topS 21), [(Str.ofString "parts"), (Str.ofString "below"), (Str.ofString "at"), (Str.ofString "told"), (Str.ofString "part")], [(Str.ofString "parts")], true, ⟨1, 5, m_26⟩⟩,
    ⟨(Str.ofString "_law_facts"), (Str.ofString "_law_facts"), (topS 22), [(Str.ofString "expression"), (Str.ofString "parts"), (Str.ofString "twigs"), (Str.ofString "below"), (Str.ofString "whole"), (Str.ofString "forks"), (Str.ofString "at"), (Str.ofString "one")], [(Str.ofString "expression")], true, ⟨1, 8, m_27⟩⟩,
    ⟨(Str.ofString "_law_sum"), (Str.ofString "_law_sum"), (topS 23), [(Str.ofString "expression"), (Str.ofString "sticks"), (Str.ofString "one")], [(Str.ofString "expression")], true, ⟨1, 3, m_28⟩⟩,
    ⟨(Str.ofString "_law_asked"), (Str.ofString "_law_asked"), (topS 24), [(Str.ofString "branch"), (Str.ofString "expression"), (Str.ofString "twig"), (Str.ofString "whole"), (Str.ofString "forks"), (Str.ofString "stick"), (Str.ofString "told"), (Str.ofString "parts"), (Str.ofString "twigs"), (Str.ofString "below"), (Str.ofString "lap"), (Str.ofString "at")], [(Str.ofString "branch"), (Str.ofString "expression")], true, ⟨2, 12, m_29⟩⟩,
    ⟨(Str.ofString "_law_hand"), (Str.ofString "_law_hand"), (topS 25), [(Str.ofString "branch"), (Str.ofString "row"), (Str.ofString "test"), (Str.ofString "many"), (Str.ofString "twig"), (Str.ofString "six"), (Str.ofString "rows"), (Str.ofString "expression"), (Str.ofString "due"), (Str.ofString "at")], [(Str.ofString "branch")], true, ⟨1, 10, m_30⟩⟩,
    ⟨(Str.ofString "law"), (Str.ofString "law"), (topS 26), [(Str.ofString "script"), (Str.ofString "branch"), (Str.ofString "lap"), (Str.ofString "expression"), (Str.ofString "leaf"), (Str.ofString "deep"), (Str.ofString "thick")], [(Str.ofString "script")], true, ⟨1, 7, m_31⟩⟩]
  cons := [((Str.ofString "LEAVES"), c_LEAVES)]
  bins := [(Str.ofString "len"), (Str.ofString "tuple"), (Str.ofString "range"), (Str.ofString "max"), (Str.ofString "sum"), (Str.ofString "all"), (Str.ofString "int"), (Str.ofString "abs"), (Str.ofString "isinstance"), (Str.ofString "bool"), (Str.ofString "min")]
  clss := [⟨(Str.ofString "Tree"), 3, [((Str.ofString "__init__"), 3), ((Str.ofString "_add"), 4), ((Str.ofString "many"), 5), ((Str.ofString "part"), 6), ((Str.ofString "kids"), 7), ((Str.ofString "parent"), 8), ((Str.ofString "level"), 9), ((Str.ofString "is_leaf"), 10), ((Str.ofString "within"), 11), ((Str.ofString "size"), 12), ((Str.ofString "upward"), 13)]⟩]
  flds := [(Str.ofString "_kids"), (Str.ofString "_levels"), (Str.ofString "_parents"), (Str.ofString "_parts")]
  excs := []
  kws := [⟨16, 0, [(Str.ofString "expression")], [0]⟩, ⟨19, 0, [(Str.ofString "expression")], [0]⟩, ⟨15, 0, [(Str.ofString "expression")], [0]⟩, ⟨18, 0, [(Str.ofString "expression")], [0]⟩, ⟨17, 0, [(Str.ofString "expression")], [0]⟩]
  kds := []
  ing := false
noncomputable def fs : List Fd := I.defs.map (·.fd)
/-! ### leaves, operands, parts, sizes, depths -/
abbrev leafD : D := .tup [.str sNum, .str sNam, .str sYes, .str sNo]
theorem leaves_eq : c_LEAVES = leafD := rfl
theorem inW_leaf (w : Str) (S : Sto) : inW (.val (.str w)) (.val leafD) S = some (Ex.isLeafW w) := by
  have : inW (.val (.str w)) (.val leafD) S = some (inD (.str w) [.str sNum, .str sNam, .str sYes, .str sNo]) := rfl
  rw [this]
  unfold inD Ex.isLeafW
  simp only [List.any_cons, List.any_nil, eqD, Bool.or_false, ← Bool.or_assoc]
  congr 1
  simp only [Bool.beq_eq_decide_eq, eq_comm]
theorem L_is_leaf (k : Nat) (S : Sto) (e : Ex) (h : e.wf = true) (hk : 1 ≤ k) : sem fs k 1 [e.d] S = .ok (.val (.bl e.kids.isEmpty)) S := by
  obtain ⟨k, rfl⟩ : ∃ j, k = j + 1 := ⟨k - 1, by omega⟩
  rw [sem_eq (f := ⟨1, 1, m_01⟩) rfl rfl]
  cases e with
  | op w ks =>
    unfold Ex.wf at h
    simp only [Bool.and_eq_true, Bool.not_eq_true'] at h
    simp [m_01, Ex.d, leaves_eq, inW_leaf, h.1.1, h.1.2, Ex.kids]
  | num i => simp [m_01, Ex.d, leaves_eq, inW_leaf, Ex.kids]; decide +kernel
  | name i => simp [m_01, Ex.d, leaves_eq, inW_leaf, Ex.kids]; decide +kernel
  | yes => simp [m_01, Ex.d, leaves_eq, inW_leaf, Ex.kids]; decide +kernel
  | no => simp [m_01, Ex.d, leaves_eq, inW_leaf, Ex.kids]; decide +kernel
theorem L_operands_in (k : Nat) (S : Sto) (e : Ex) (h : e.wf = true) (hk : 2 ≤ k) : sem fs k 2 [e.d] S = .ok (.val (.tup (e.kids.map Ex.d))) S := by
  obtain ⟨k, rfl⟩ : ∃ j, k = j + 1 := ⟨k - 1, by omega⟩
  rw [sem_eq (f := ⟨1, 1, m_02⟩) rfl rfl]
  have e0 := fun S => L_is_leaf k S e h (by omega)
  cases e with
  | op w ks =>
    unfold Ex.wf at h
    simp only [Bool.and_eq_true, Bool.not_eq_true'] at h
    simp [m_02, e0, Ex.kids, h.1.2]
    simp [Ex.d, Ex.dL_map]
  | num i => simp [m_02, e0, Ex.kids]
  | name i => simp [m_02, e0, Ex.kids]
  | yes => simp [m_02, e0, Ex.kids]
  | no => simp [m_02, e0, Ex.kids]
theorem kids_wf {e : Ex} (h : e.wf = true) : ∀ x ∈ e.kids, x.wf = true := by
  cases e with
  | op w ks =>
    unfold Ex.wf at h
    simp only [Bool.and_eq_true] at h
    exact Ex.wfL_mem h.2
  | _ => intro x hx; cases hx
theorem kids_depth (e : Ex) : ∀ x ∈ e.kids, x.depth + 1 ≤ e.depth := by
  cases e with
  | op w ks =>
    intro x hx
    have := (Ex.depthL_le (ks := ks) (n := Ex.depthL ks)).mp (Nat.le_refl _) x hx
    rw [Ex.depth]
    omega
  | _ => intro x hx; cases hx
theorem parts_eq (e : Ex) : e.parts = e :: Ex.partsL e.kids := by cases e <;> rfl
/-! ### the numbered parts -/
noncomputable def addB : MS := (sE (eEff2 isL fAppend (eBin bIx (eFld (Str.ofString "_kids") (eV 0)) (eV 4)) (eZ (eMeth (Str.ofString "_add") [(0, 4)] (eV 0) (lCons (eV 5) (lCons (eV 4) (lCons (eBin bAdd (eV 3) (eC (.int 1))) (lNil))))))))
def AddOk (e : Ex) : Prop := ∀ (k : Nat) (X : Sto) (A : List D) (K : List (List Nat)) (P : List D) (L : List Nat) (par : D) (lvl : Nat), e.wf = true → (∀ n, par.clean n = true) → A.length = K.length → P.length = K.length → L.length = K.length → K.length + e.size ≤ 10000 → e.depth + 3 ≤ k →
  sem fs k 4 [.loc X.length, e.d, par, .int lvl] (X ++ treeO 0 X.length A K P L) = .ok (.val (.int K.length)) (X ++ treeO 0 X.length (A ++ e.parts.map Ex.d) (K ++ Ex.kidN K.length e) (P ++ Ex.pars par K.length e) (L ++ Ex.levs lvl e))
theorem add_loop (k : Nat) (X : Sto) (lvl : Nat) (a1 a2 : Option D) : ∀ (ks : List Ex) (A : List D) (K0 : List (List Nat)) (cur : List Nat) (K2 : List (List Nat)) (P : List D) (L : List Nat) (x : Option D),
    (∀ e ∈ ks, AddOk e) → Ex.wfL ks = true → A.length = K0.length + 1 + K2.length → P.length = K0.length + 1 + K2.length → L.length = K0.length + 1 + K2.length → cur.length ≤ 10000 → cur.length + ks.length ≤ 10000 → K0.length + 1 + K2.length + Ex.sizeL ks ≤ 10000 → Ex.depthL ks + 3 ≤ k →
    ∃ x', loopI (gN 5) (addB (sem fs k)) (ks.map Ex.d) [some (.loc X.length), a1, a2, some (.int lvl), some (.int K0.length), x] (X ++ treeO 0 X.length A (K0 ++ cur :: K2) P L) =
      .nx [some (.loc X.length), a1, a2, some (.int lvl), some (.int K0.length), x'] (X ++ treeO 0 X.length (A ++ (Ex.partsL ks).map Ex.d) (K0 ++ (cur ++ Ex.starts (K0.length + 1 + K2.length) ks) :: (K2 ++ Ex.kidNL (K0.length + 1 + K2.length) ks)) (P ++ Ex.parsL (.int K0.length) (K0.length + 1 + K2.length) ks) (L ++ Ex.levsL (lvl + 1) ks))
  | [], A, K0, cur, K2, P, L, x, _, _, _, _, _, _, _, _, _ => ⟨x, by simp [loopI, Ex.partsL, Ex.kidNL, Ex.starts, Ex.parsL, Ex.levsL]⟩
  | e :: ks, A, K0, cur, K2, P, L, x, ih, hw, hA, hP, hL, hc, hc2, hs, hk => by
    rw [Ex.wfL, Bool.and_eq_true] at hw
    rw [Ex.sizeL] at hs
    rw [Ex.depthL] at hk
    rw [List.length_cons] at hc2
    have hlen : (K0 ++ cur :: K2).length = K0.length + 1 + K2.length := by simp; omega
    have e1 := ih e List.mem_cons_self k X A (K0 ++ cur :: K2) P L (.int K0.length) (lvl + 1) hw.1 (fun n => by simp) (by omega) (by omega) (by omega) (by omega) (by omega)
    rw [hlen] at e1
    obtain ⟨x', hx⟩ := add_loop k X lvl a1 a2 ks (A ++ e.parts.map Ex.d) K0 (cur ++ [K0.length + 1 + K2.length]) (K2 ++ Ex.kidN (K0.length + 1 + K2.length) e) (P ++ Ex.pars (.int K0.length) (K0.length + 1 + K2.length) e) (L ++ Ex.levs (lvl + 1) e) (some e.d)
      (fun y hy => ih y (List.mem_cons_of_mem _ hy)) hw.2 (by simp [Ex.parts_len, Ex.kidN_len]; omega) (by simp [Ex.pars_len, Ex.kidN_len]; omega) (by simp [Ex.levs_len, Ex.kidN_len]; omega) (by simp; omega) (by simp; omega) (by simp [Ex.kidN_len]; omega) (by omega)
    have hn2 : K0.length + 1 + (K2 ++ Ex.kidN (K0.length + 1 + K2.length) e).length = K0.length + 1 + K2.length + e.size := by rw [List.length_append, Ex.kidN_len]; omega
    rw [hn2] at hx
    refine ⟨x', ?_⟩
    rw [Ex.partsL, Ex.kidNL, Ex.starts, Ex.parsL, Ex.levsL]
    obtain ⟨l1, hl1⟩ : ∃ l1, lvl + 1 = l1 := ⟨_, rfl⟩
    have hlv : ((lvl : Int) + 1) = (l1 : Int) := by omega
    obtain ⟨m, hm⟩ : ∃ m, K0.length + 1 + K2.length = m := ⟨_, rfl⟩
    rw [hm, hl1] at e1 hx
    rw [hm, hl1]
    obtain ⟨k0, kr, hkn⟩ : ∃ a b, Ex.kidN m e = a :: b := ⟨_, _, Ex.kidN_eq _ e⟩
    have gct : gc (X ++ treeO 0 X.length A (K0 ++ cur :: K2) P L) (.ok (.val (.int ((m : Nat) : Int))) (X ++ treeO 0 X.length (A ++ e.parts.map Ex.d) ((K0 ++ cur :: K2) ++ Ex.kidN m e) (P ++ Ex.pars (.int K0.length) m e) (L ++ Ex.levs l1 e))) =
        .ok (.val (.int ((m : Nat) : Int))) (X ++ treeO 0 X.length (A ++ e.parts.map Ex.d) ((K0 ++ cur :: K2) ++ Ex.kidN m e) (P ++ Ex.pars (.int K0.length) m e) (L ++ Ex.levs l1 e)) := by
      rw [hkn]; exact gc_tree ..
    have step : addB (sem fs k) [some (.loc X.length), a1, a2, some (.int lvl), some (.int K0.length), some e.d] (X ++ treeO 0 X.length A (K0 ++ cur :: K2) P L) =
        .nx [some (.loc X.length), a1, a2, some (.int lvl), some (.int K0.length), some e.d] (X ++ treeO 0 X.length (A ++ e.parts.map Ex.d) (K0 ++ (cur ++ [m]) :: (K2 ++ Ex.kidN m e)) (P ++ Ex.pars (.int K0.length) m e) (L ++ Ex.levs l1 e)) := by
      have b1 : bIx (.val (.loc (X.length + 2))) (.val (.int K0.length)) (X ++ treeO 0 X.length A (K0 ++ cur :: K2) P L) = some (.val (.loc (X.length + 5 + K0.length))) := by
        rw [bIx_loc (t_2 ..), atI_nat (kl_get _ _ _ (by rw [hlen]; omega))]; rfl
      have b2 : isL (.val (.loc (X.length + 5 + K0.length))) (X ++ treeO 0 X.length A (K0 ++ cur :: K2) P L) = true := by
        unfold isL W.lm
        simp only [t_k]
        simp [kO]
      have b3 : fAppend (.val (.loc (X.length + 5 + K0.length))) (.val (.int ((m : Nat) : Int))) (X ++ treeO 0 X.length (A ++ e.parts.map Ex.d) ((K0 ++ cur :: K2) ++ Ex.kidN m e) (P ++ Ex.pars (.int K0.length) m e) (L ++ Ex.levs l1 e)) =
          some (.val .non, X ++ treeO 0 X.length (A ++ e.parts.map Ex.d) (K0 ++ (cur ++ [m]) :: (K2 ++ Ex.kidN m e)) (P ++ Ex.pars (.int K0.length) m e) (L ++ Ex.levs l1 e)) := by
        unfold fAppend
        simp only [bindW_val, t_k]
        have g : (K0 ++ cur :: K2 ++ Ex.kidN m e)[K0.length]? = some cur := by simp
        rw [g]
        simp only [Option.map_some, kO]
        rw [if_pos (by rw [List.length_map]; exact lt_line (by omega))]
        have := s_k X 0 (A ++ e.parts.map Ex.d) (K0 ++ cur :: K2 ++ Ex.kidN m e) (P ++ Ex.pars (.int K0.length) m e) (L ++ Ex.levs l1 e) K0.length (cur ++ [m]) (by simp)
        simp only [kO, List.map_append, List.map_cons, List.map_nil] at this
        rw [this]
        simp
      rw [List.append_assoc, List.cons_append] at e1 gct b3
      unfold addB
      simp [t_0, lk_kids, lk_add, ap_eMeth, List.lookup, b1, b2, hlv, e1, gct, b3]
    rw [List.map_cons]
    simp only [loopI, gN]
    rw [if_pos (by simp)]
    simp only [List.set_cons_succ, List.set_cons_zero]
    rw [step]
    simp only [hx]
    simp
theorem add_ok : ∀ e : Ex, AddOk e := by
  have main : ∀ e : Ex, (∀ x ∈ e.kids, AddOk x) → AddOk e := by
    intro e ih k X A K P L par lvl hw hp hA hP hL hs hk
    obtain ⟨k, rfl⟩ : ∃ j, k = j + 1 := ⟨k - 1, by omega⟩
    have dp := Ex.depth_pos e
    have e0 := fun S => L_operands_in k S e hw (by omega)
    have hsz := Ex.size_eq e
    have hkd : Ex.depthL e.kids + 1 ≤ e.depth := by
      cases e with
      | op w ks => rw [Ex.depth]; exact Nat.le_refl _
      | _ => simp [Ex.kids, Ex.depthL]
    have hlen := Ex.length_le_sizeL e.kids
    obtain ⟨x', hx⟩ := add_loop k X lvl (some e.d) (some par) e.kids (A ++ [e.d]) K [] [] (P ++ [par]) (L ++ [lvl]) none ih (Ex.wfL_of (kids_wf hw)) (by simp [hA]) (by simp [hP]) (by simp [hL]) (by simp) (by simp; omega) (by simp; omega) (by omega)
    have g1 : fAppend (.val (.loc (X.length + 1))) (.val e.d) (X ++ treeO 0 X.length A K P L) = some (.val .non, X ++ treeO 0 X.length (A ++ [e.d]) K P L) := by
      unfold fAppend
      simp only [bindW_val, t_1]
      rw [if_pos (lt_line (by omega)), s_1]
    have g2 : fAppend (.val (.loc (X.length + 2))) (.tmp (.lst [])) (X ++ treeO 0 X.length (A ++ [e.d]) K P L) = some (.val .non, X ++ treeO 0 X.length (A ++ [e.d]) (K ++ [[]]) P L) := by
      have hb : bindW (.tmp (.lst [])) (X ++ treeO 0 X.length (A ++ [e.d]) K P L) = (.loc (X.length + 5 + K.length), X ++ treeO 0 X.length (A ++ [e.d]) K P L ++ [.lst []]) := by
        unfold bindW
        rw [t_len]
      unfold fAppend
      simp only [hb]
      rw [List.getElem?_append_left (by rw [t_len]; omega), t_2]
      simp only [kl_len]
      rw [if_pos (lt_line (by omega)), s_2]
    have g3 : fAppend (.val (.loc (X.length + 3))) (.val par) (X ++ treeO 0 X.length (A ++ [e.d]) (K ++ [[]]) P L) = some (.val .non, X ++ treeO 0 X.length (A ++ [e.d]) (K ++ [[]]) (P ++ [par]) L) := by
      unfold fAppend
      simp only [bindW_val, t_3]
      rw [if_pos (lt_line (by omega)), s_3]
    have g4 : fAppend (.val (.loc (X.length + 4))) (.val (.int lvl)) (X ++ treeO 0 X.length (A ++ [e.d]) (K ++ [[]]) (P ++ [par]) L) = some (.val .non, X ++ treeO 0 X.length (A ++ [e.d]) (K ++ [[]]) (P ++ [par]) (L ++ [lvl])) := by
      unfold fAppend
      simp only [bindW_val, t_4]
      rw [if_pos (lt_line (by rw [lv_len]; omega)), s_4']
    have i1 : ∀ (S : Sto) (n : Nat) ds, S[n]? = some (.lst ds) → isL (.val (.loc n)) S = true := by
      intro S n ds h
      unfold isL W.lm
      simp [h]
    have i2 := i1 _ _ _ (t_1 X 0 A K P L)
    have i3 := i1 _ _ _ (t_2 X 0 (A ++ [e.d]) K P L)
    have i4 := i1 _ _ _ (t_3 X 0 (A ++ [e.d]) (K ++ [[]]) P L)
    have i5 := i1 _ _ _ (t_4 X 0 (A ++ [e.d]) (K ++ [[]]) (P ++ [par]) L)
    have u1 : uLen (.val (.loc (X.length + 1))) (X ++ treeO 0 X.length A K P L) = some (.val (.int K.length)) := by
      unfold uLen
      simp [W.any, W.lq, W.tq, t_1, hA]
    have l0 : 0 ≤ sizeLine := Nat.zero_le _
    have kids0 : K ++ [([] : List Nat)] = K ++ [] :: [] := rfl
    unfold addB at hx
    rw [sem_eq (f := ⟨4, 6, m_04⟩) rfl rfl]
    simp [m_04, e0, t_0, lk_parts, lk_kids, lk_pars, lk_levs, g1, g2, g3, g4, i2, i3, i4, i5, u1, l0, ap_sFor, hx]
    rw [gc_tree, Ex.parts_eq' e, Ex.kidN_eq, Ex.pars_eq, Ex.levs_eq]
    rfl
  exact Ex.ind (fun i => main _ (by simp [Ex.kids])) (fun i => main _ (by simp [Ex.kids])) (main _ (by simp [Ex.kids])) (main _ (by simp [Ex.kids])) fun w ks ih => main _ ih
theorem L_new (k : Nat) (X : Sto) (e : Ex) (hw : e.wf = true) (hs : e.size ≤ 10000) (hk : e.depth + 5 ≤ k) (es : ML) (δ : MM.Env) (he : es (sem fs k) δ X = .ok [e.d] X) :
    eNew 0 3 es (sem fs k) δ X = .ok (.val (.loc X.length)) (treeS 0 X e) := by
  have e0 : sem fs k 3 [.loc X.length, e.d] (X ++ [.ins 0 []]) = .ok (.val .non) (treeS 0 X e) := by
    obtain ⟨k, rfl⟩ : ∃ j, k = j + 1 := ⟨k - 1, by omega⟩
    have e1 := add_ok e k X [] [] [] [] .non 0 hw (fun n => by simp) rfl rfl rfl (by simp; omega) (by omega)
    rw [sem_eq (f := ⟨2, 2, m_03⟩) rfl rfl]
    have p1 : ∀ Y : Sto, (X ++ Y)[X.length]? = Y[0]? := app_get0 X
    have p2 : ∀ (Y : Sto) o, (X ++ Y).set X.length o = X ++ Y.set 0 o := app_set0 X
    have l0 : 0 ≤ sizeLine := Nat.zero_le _
    simp [m_03, ap_sFld, p1, p2, l0, pf_1, pf_2, pf_3, pf_4]
    have hst : X ++ [O.ins 0 [(fParts, D.loc (X.length + 1)), (fKids, D.loc (X.length + 2)), (fPars, D.loc (X.length + 3)), (fLevs, D.loc (X.length + 4))], O.lst [], O.lst [], O.lst [], O.lst []] = X ++ treeO 0 X.length [] [] [] [] := rfl
    rw [hst]
    have e1' : sem fs k 4 [.loc X.length, e.d, .non, .int 0] (X ++ treeO 0 X.length [] [] [] []) = .ok (.val (.int 0)) (treeS 0 X e) := e1
    have gt : gc (X ++ treeO 0 X.length [] [] [] []) (.ok (.val (.int 0)) (treeS 0 X e)) = .ok (.val (.int 0)) (treeS 0 X e) := by
      unfold treeS
      rw [Ex.kidN_eq 0 e]
      exact gc_tree X 0 [] [] [] [] (e.parts.map Ex.d) (Ex.starts (0 + 1) e.kids) (Ex.kidNL (0 + 1) e.kids) (Ex.pars .non 0 e) (Ex.levs 0 e) (.int 0)
    have gn : gc (X ++ [.ins 0 []]) (.ok (.val .non) (treeS 0 X e)) = .ok (.val .non) (treeS 0 X e) := gc_tnew ..
    simp [ap_eMeth, t_0, lk_add, List.lookup, e1', gt, gn]
  rw [ap_eNew, he]
  simp [e0, R.nox]
theorem L_many (k : Nat) (S : Sto) (t : Nat) (e : Ex) (h : IsTree 0 S t e) (hk : 1 ≤ k) : sem fs k 5 [.loc t] S = .ok (.val (.int e.size)) S := by
  obtain ⟨k, rfl⟩ : ∃ j, k = j + 1 := ⟨k - 1, by omega⟩
  rw [sem_eq (f := ⟨1, 1, m_05⟩) rfl rfl]
  have u : uLen (.val (.loc (t + 1))) S = some (.val (.int e.size)) := by
    unfold uLen
    simp [W.any, W.lq, W.tq, h.parts, Ex.parts_len]
  simp [m_05, h.self, lk_parts, u]
theorem L_part (k : Nat) (S : Sto) (t : Nat) (e : Ex) (h : IsTree 0 S t e) (i : Nat) (p : Ex) (hp : e.parts[i]? = some p) (hk : 1 ≤ k) : sem fs k 6 [.loc t, .int i] S = .ok (.val p.d) S := by
  obtain ⟨k, rfl⟩ : ∃ j, k = j + 1 := ⟨k - 1, by omega⟩
  rw [sem_eq (f := ⟨2, 2, m_06⟩) rfl rfl]
  have u : bIx (.val (.loc (t + 1))) (.val (.int i)) S = some (.val p.d) := by
    rw [bIx_loc h.parts, atI_nat (v := p.d) (by rw [List.getElem?_map, hp]; rfl)]; rfl
  simp [m_06, h.self, lk_parts, u]
theorem L_level (k : Nat) (S : Sto) (t : Nat) (e : Ex) (h : IsTree 0 S t e) (i l : Nat) (hp : (Ex.levs 0 e)[i]? = some l) (hk : 1 ≤ k) : sem fs k 9 [.loc t, .int i] S = .ok (.val (.int l)) S := by
  obtain ⟨k, rfl⟩ : ∃ j, k = j + 1 := ⟨k - 1, by omega⟩
  rw [sem_eq (f := ⟨2, 2, m_09⟩) rfl rfl]
  have u : bIx (.val (.loc (t + 4))) (.val (.int i)) S = some (.val (.int l)) := by
    rw [bIx_loc h.levs, atI_nat (v := D.int l) (by unfold lv; rw [List.getElem?_map, hp]; rfl)]; rfl
  simp [m_09, h.self, lk_levs, u]
theorem L_kids (k : Nat) (S : Sto) (t : Nat) (e : Ex) (h : IsTree 0 S t e) (i : Nat) (hi : i < e.size) (hk : 1 ≤ k) : sem fs k 7 [.loc t, .int i] S = .ok (.val (.loc (t + 5 + i))) S := by
  obtain ⟨k, rfl⟩ : ∃ j, k = j + 1 := ⟨k - 1, by omega⟩
  rw [sem_eq (f := ⟨2, 2, m_07⟩) rfl rfl]
  have u : bIx (.val (.loc (t + 2))) (.val (.int i)) S = some (.val (.loc (t + 5 + i))) := by
    rw [bIx_loc h.kids, atI_nat (kl_get _ _ _ hi)]; rfl
  have hl : i < (Ex.kidN 0 e).length := by rw [Ex.kidN_len]; exact hi
  have := (List.getElem?_eq_some_iff.mp (h.kid i _ (List.getElem?_eq_getElem hl))).1
  simp [m_07, h.self, lk_kids, u, D.clean, this]
theorem pars_clean (L : Nat) (e : Ex) : ∀ (n : Nat) (d : D), (Ex.pars .non 0 e)[n]? = some d → d = .non ∨ ∃ i : Int, d = .int i := by
  intro n d h
  have key : ∀ (e : Ex) (p : D) (b : Nat), (p = .non ∨ ∃ i : Int, p = .int i) → ∀ x ∈ Ex.pars p b e, x = .non ∨ ∃ i : Int, x = .int i := by
    refine Ex.ind (fun i p b hp x hx => ?_) (fun i p b hp x hx => ?_) (fun p b hp x hx => ?_) (fun p b hp x hx => ?_) fun w ks ih p b hp x hx => ?_
    · have hx : x ∈ [p] := hx; rw [List.mem_singleton] at hx; subst hx; exact hp
    · have hx : x ∈ [p] := hx; rw [List.mem_singleton] at hx; subst hx; exact hp
    · have hx : x ∈ [p] := hx; rw [List.mem_singleton] at hx; subst hx; exact hp
    · have hx : x ∈ [p] := hx; rw [List.mem_singleton] at hx; subst hx; exact hp
    · rw [Ex.pars] at hx
      rcases List.mem_cons.mp hx with rfl | hx
      · exact hp
      · have : ∀ (ks : List Ex) (n : Nat), (∀ k ∈ ks, ∀ (p : D) (b : Nat), (p = .non ∨ ∃ i : Int, p = .int i) → ∀ x ∈ Ex.pars p b k, x = .non ∨ ∃ i : Int, x = .int i) → ∀ x ∈ Ex.parsL (.int b) n ks, x = .non ∨ ∃ i : Int, x = .int i := by
          intro ks
          induction ks with
          | nil => intro n _ x hx; cases hx
          | cons k ks ih2 =>
            intro n hh x hx
            rw [Ex.parsL] at hx
            rcases List.mem_append.mp hx with hx | hx
            · exact hh k List.mem_cons_self _ _ (.inr ⟨_, rfl⟩) x hx
            · exact ih2 _ (fun y hy => hh y (List.mem_cons_of_mem _ hy)) x hx
        exact this ks _ ih x hx
  exact key e .non 0 (.inl rfl) d (List.mem_of_getElem? h)
theorem L_parent (k : Nat) (S : Sto) (t : Nat) (e : Ex) (h : IsTree 0 S t e) (i : Nat) (d : D) (hp : (Ex.pars .non 0 e)[i]? = some d) (hk : 1 ≤ k) : sem fs k 8 [.loc t, .int i] S = .ok (.val d) S := by
  obtain ⟨k, rfl⟩ : ∃ j, k = j + 1 := ⟨k - 1, by omega⟩
  rw [sem_eq (f := ⟨2, 2, m_08⟩) rfl rfl]
  have u : bIx (.val (.loc (t + 3))) (.val (.int i)) S = some (.val d) := by
    rw [bIx_loc h.pars, atI_nat hp]; rfl
  have hc : d.clean S.length = true := by
    rcases pars_clean 0 e i d hp with rfl | ⟨j, rfl⟩ <;> simp
  simp [m_08, h.self, lk_pars, u, hc]
theorem gc_treeS (S : Sto) (e : Ex) (d : D) (hd : d.clean S.length = true) : gc S (.ok (.val d) (treeS 0 S e)) = .ok (.val d) S := by
  unfold treeS
  exact gc_val _ hd
/-! ### twigs and sticks -/
theorem L_is_twig : ∀ e : Ex, ∀ (k : Nat) (S : Sto), e.wf = true → e.depth + 3 ≤ k → sem fs k 16 [e.d] S = .ok (.val (.bl (Ex.twg e))) S := by
  have main : ∀ e : Ex, (∀ x ∈ e.kids, ∀ (k : Nat) (S : Sto), x.wf = true → x.depth + 3 ≤ k → sem fs k 16 [x.d] S = .ok (.val (.bl (Ex.twg x))) S) → ∀ (k : Nat) (S : Sto), e.wf = true → e.depth + 3 ≤ k → sem fs k 16 [e.d] S = .ok (.val (.bl (Ex.twg e))) S := by
    intro e ih k S hw hk
    obtain ⟨k, rfl⟩ : ∃ j, k = j + 1 := ⟨k - 1, by omega⟩
    have e0 := L_operands_in k S e hw (by omega)
    rw [sem_eq (f := ⟨1, 2, m_16⟩) rfl rfl]
    have ht := Ex.twg_kids e
    match hk2 : e.kids with
    | [] =>
      rw [hk2] at e0 ht
      rw [ht]
      simp [m_16, e0]
    | [x] =>
      have hx := ih x (by rw [hk2]; exact List.mem_cons_self) k S (kids_wf hw x (by rw [hk2]; exact List.mem_cons_self)) (by have := kids_depth e x (by rw [hk2]; exact List.mem_cons_self); omega)
      rw [hk2] at e0 ht
      rw [ht]
      simp [m_16, e0, hx, Ex.allT]
    | x :: y :: ks =>
      rw [hk2] at e0 ht
      rw [ht]
      have h0 : ¬ ((ks.length : Int) + 1 + 1 = 0) := by omega
      have h1 : ¬ ((ks.length : Int) + 1 + 1 = 1) := by omega
      simp [m_16, e0, h0, h1]
  exact Ex.ind (fun i => main _ (by simp [Ex.kids])) (fun i => main _ (by simp [Ex.kids])) (main _ (by simp [Ex.kids])) (main _ (by simp [Ex.kids])) fun w ks ih => main _ ih
/-- sums of numbers that are got by a row -/
theorem L_stick_of (k : Nat) (S : Sto) (ks : List Ex) (hl : ks.length ≤ 10000) (hk : 1 ≤ k) : sem fs k 14 [.frz (ks.map fun x => D.int (Ex.stk x))] S = .ok (.val (.int (Ex.stkS ks - (if Ex.stkZ ks = true then 1 else 0)))) S := by
  obtain ⟨k, rfl⟩ : ∃ j, k = j + 1 := ⟨k - 1, by omega⟩
  rw [sem_eq (f := ⟨1, 3, m_14⟩) rfl rfl]
  have c1 : ∀ δ : MM.Env, 2 ≤ δ.length → compI (gN 1) (tYes (sem fs k)) (bnd (eZ (eBin bMax2 (eC (.int 1)) (eV 1))) (sem fs k)) δ (ks.map fun x => D.int (Ex.stk x)) S = .ok (ks.map fun x => D.int (if Ex.stk x > 1 then Ex.stk x else 1)) S := by
    intro δ hd
    refine compI_map (enc := fun x => D.int (Ex.stk x)) (f := fun x => D.int (if Ex.stk x > 1 then Ex.stk x else 1)) fun x hx => ?_
    match δ, hd with
    | a :: b :: r, _ => exact ⟨a :: some (.int (Ex.stk x)) :: r, rfl, rfl, rfl⟩
  have c2 : ∀ δ : MM.Env, 2 ≤ δ.length → aggI true (gN 1) (tYes (sem fs k)) ((eBin (bC eqW) (eV 1) (eC (.int 0))) (sem fs k)) δ (ks.map fun x => D.int (Ex.stk x)) S = .ok (.val (.bl (Ex.stkZ ks))) S := by
    intro δ hd
    have := aggI_all (g := gN 1) (t := tYes (sem fs k)) (elt := (eBin (bC eqW) (eV 1) (eC (.int 0))) (sem fs k)) (δ := δ) (S := S) (p := fun x => decide (Ex.stk x = 0)) (enc := fun x => D.int (Ex.stk x)) (xs := ks) fun x hx => by
      match δ, hd with
      | a :: b :: r, _ => exact ⟨a :: some (.int (Ex.stk x)) :: r, rfl, rfl, rfl⟩
    rw [this]
    congr 3
    clear this c1 hl
    induction ks with
    | nil => rfl
    | cons x xs ih => rw [List.all_cons, Ex.stkZ, ih]
  have hs : ∀ S, uSum (.tmp (.lst (ks.map fun x => D.int (if Ex.stk x > 1 then Ex.stk x else 1)))) S = some (.val (.int (Ex.stkS ks))) := by
    intro S
    unfold uSum
    have h1 : allInts (ks.map fun x => D.int (if Ex.stk x > 1 then Ex.stk x else 1)) = some (ks.map fun x => if Ex.stk x > 1 then Ex.stk x else 1) := allInts_map _ ks
    have h2 : (ks.map fun x => if Ex.stk x > 1 then Ex.stk x else 1).sum = Ex.stkS ks := by
      clear c1 c2 h1 hl
      induction ks with
      | nil => rfl
      | cons x xs ih => rw [List.map_cons, List.sum_cons, ih, Ex.stkS]
    simp only [W.any, W.lq, W.tq]
    rw [h1]
    simp [h2]
  have ll : (ks.map fun x => D.int (Ex.stk x)).length ≤ sizeLine := by rw [List.length_map]; exact le_line (by omega)
  simp only [m_14, ap_sRet, ap_eBin, ap_eUn, ap_eLc, ap_eAgg, ap_iE, ap_begin, List.map_cons, List.map_nil, List.cons_append, List.nil_append, eV_0, then_ok, wipeD]
  rw [if_pos ll, c1 _ (by simp)]
  simp only [then_ok, hs, o2R_some]
  rw [c2 _ (by simp)]
  simp
theorem L_stick_number : ∀ e : Ex, ∀ (k : Nat) (S : Sto), e.wf = true → e.size ≤ 10000 → e.depth + 3 ≤ k → sem fs k 15 [e.d] S = .ok (.val (.int (Ex.stk e))) S := by
  have main : ∀ e : Ex, (∀ x ∈ e.kids, ∀ (k : Nat) (S : Sto), x.wf = true → x.size ≤ 10000 → x.depth + 3 ≤ k → sem fs k 15 [x.d] S = .ok (.val (.int (Ex.stk x))) S) → ∀ (k : Nat) (S : Sto), e.wf = true → e.size ≤ 10000 → e.depth + 3 ≤ k → sem fs k 15 [e.d] S = .ok (.val (.int (Ex.stk e))) S := by
    intro e ih k S hw hs hk
    obtain ⟨k, rfl⟩ : ∃ j, k = j + 1 := ⟨k - 1, by omega⟩
    have e0 := L_operands_in k S e hw (by omega)
    have hl : e.kids.length ≤ 10000 := by
      have h1 := Ex.length_le_sizeL e.kids
      have h2 := Ex.size_eq e
      omega
    have c1 : ∀ δ : MM.Env, 3 ≤ δ.length → compI (gN 2) (tYes (sem fs k)) (bnd (eZ (eCall 15 (lCons (eV 2) lNil))) (sem fs k)) δ (e.kids.map Ex.d) S = .ok (e.kids.map fun x => D.int (Ex.stk x)) S := by
      intro δ hd
      refine compI_map (enc := Ex.d) (f := fun x => D.int (Ex.stk x)) fun x hx => ?_
      have h1 := ih x hx k S (kids_wf hw x hx) (by have h1 := Ex.sizeL_mem hx; have h2 := Ex.size_eq e; omega) (by have := kids_depth e x hx; omega)
      match δ, hd with
      | a :: b :: c :: r, _ => exact ⟨a :: b :: some x.d :: r, rfl, rfl, by simp [h1]⟩
    have ll : (e.kids.map Ex.d).length ≤ sizeLine := by rw [List.length_map]; exact le_line (by omega)
    have e1 := L_stick_of k S e.kids hl (by omega)
    rw [sem_eq (f := ⟨1, 3, m_15⟩) rfl rfl]
    have hst : Ex.stk e = if e.kids = [] then 0 else Ex.stkS e.kids - (if Ex.stkZ e.kids = true then 1 else 0) := by
      cases e with
      | op w ks =>
        cases ks with
        | nil => simp [Ex.wf] at hw
        | cons a b => rw [if_neg (by simp [Ex.kids])]; rfl
      | _ => rfl
    simp only [m_15, ap_sSeq, ap_sAsg, ap_bnd, ap_eZ, ap_eLc, ap_iE, ap_eCall, ap_lCons, ap_lNil, ap_begin, List.map_cons, List.map_nil, List.cons_append, List.nil_append, eV_0, then_ok, bindW_val, e0, wipeD, gc_sem]
    rw [gc_val0 (by simp)]
    simp only [then_ok]
    rw [if_pos ll, c1 _ (by simp)]
    simp only [then_ok, frzW_lst, bindW_val, thenS_ok]
    cases hk2 : e.kids with
    | nil =>
      rw [hk2] at hst
      rw [hst]
      simp
    | cons a b =>
      rw [hk2] at hst e1
      rw [hst]
      simp only [List.map_cons] at e1
      simp [e1]
  exact Ex.ind (fun i => main _ (by simp [Ex.kids])) (fun i => main _ (by simp [Ex.kids])) (main _ (by simp [Ex.kids])) (main _ (by simp [Ex.kids])) fun w ks ih => main _ ih
theorem L_need_of (e : Ex) (k : Nat) (S : Sto) (hw : e.wf = true) (hs : e.size ≤ 10000) (hk : e.depth + 4 ≤ k) : sem fs k 19 [e.d] S = .ok (.val (.int (Ex.stk e + 1))) S := by
  obtain ⟨k, rfl⟩ : ∃ j, k = j + 1 := ⟨k - 1, by omega⟩
  have e0 := L_stick_number e k S hw hs (by omega)
  rw [sem_eq (f := ⟨1, 1, m_19⟩) rfl rfl]
  simp [m_19, e0]
/-! ### whole twigs, forks -/
theorem span0 (n : Nat) : span 0 n = (List.range n).map nI := by
  unfold span
  apply List.map_congr_left
  intro i _
  rw [Int.zero_add]
theorem L_whole_twigs (e : Ex) (k : Nat) (S : Sto) (hw : e.wf = true) (hs : e.size ≤ 10000) (hk : e.depth + 6 ≤ k) : sem fs k 17 [e.d] S = .ok (.val (.tup ((Ex.whl 0 e).map nI))) S := by
  obtain ⟨k, rfl⟩ : ∃ j, k = j + 1 := ⟨k - 1, by omega⟩
  have ht := treeS_is 0 S e
  have e1 := L_new k S e hw hs (by omega) (lCons (eV 0) lNil) [some e.d, none, none, none] rfl
  have e2 := L_many k (treeS 0 S e) S.length e ht (by omega)
  generalize hS1 : treeS 0 S e = S1 at ht e1 e2
  have c1 : ∀ δ : MM.Env, δ = [some e.d, some (.loc S.length), none, none] → compI (gN 3) (tE (eCall 16 (lCons (eZ (eMeth (Str.ofString "part") [(0, 6)] (eV 1) (lCons (eV 3) lNil))) lNil)) (sem fs k)) (bnd (eV 3) (sem fs k)) δ ((List.range e.size).map nI) S1 = .ok (((List.range e.size).filter (Ex.twAt e)).map nI) S1 := by
    rintro δ rfl
    refine compI_filter (enc := nI) (f := nI) (p := Ex.twAt e) fun i hi => ?_
    obtain ⟨p, hp⟩ := Ex.parts_some e (List.mem_range.mp hi)
    have h1 := L_part k S1 S.length e ht i p hp (by omega)
    have hpo := Ex.part_ok e p (List.mem_of_getElem? hp)
    have h2 := L_is_twig p k S1 (hpo.1 hw) (by omega)
    refine ⟨[some e.d, some (.loc S.length), none, some (nI i)], rfl, ?_, fun _ => rfl⟩
    rw [Ex.twAt_of hp]
    simp [ap_eMeth, ht.self, lk_part, List.lookup, h1, h2]
  generalize hT : (List.range e.size).filter (Ex.twAt e) = tws at c1
  have c2 : ∀ δ : MM.Env, δ = [some e.d, some (.loc S.length), some (.frz (tws.map nI)), none] → compI (gN 3) (tCmp (cNot inW) (eMeth (Str.ofString "parent") [(0, 8)] (eV 1) (lCons (eV 3) lNil)) (eV 2) (sem fs k)) (bnd (eV 3) (sem fs k)) δ (tws.map nI) S1 =
      .ok ((tws.filter fun (i : Nat) => match (Ex.pars .non 0 e)[i]? with | some (.int q) => !tws.contains q.toNat | _ => true).map nI) S1 := by
    rintro δ rfl
    refine compI_filter (enc := nI) (f := nI) (p := fun (i : Nat) => match (Ex.pars .non 0 e)[i]? with | some (.int q) => !tws.contains q.toNat | _ => true) fun i hi => ?_
    have hi2 : i < e.size := by
      rw [← hT] at hi
      exact List.mem_range.mp (List.mem_filter.mp hi).1
    obtain ⟨d, hd⟩ := Ex.pars_some e hi2
    have h1 := L_parent k S1 S.length e ht i d hd (by omega)
    have hf : d = .non ∨ ∃ n : Nat, d = .int (n : Int) := by
      rcases Ex.par_at e hd with ⟨_, h⟩ | ⟨m, _, _, _, h, _⟩
      · exact .inl h
      · exact .inr ⟨m, h⟩
    refine ⟨[some e.d, some (.loc S.length), some (.frz (tws.map nI)), some (nI i)], rfl, ?_, fun _ => rfl⟩
    rw [hd]
    rcases hf with rfl | ⟨n, rfl⟩
    · simp [ap_eMeth, ht.self, lk_parent, List.lookup, h1, inW_frz_non]
    · simp [ap_eMeth, ht.self, lk_parent, List.lookup, h1, inW_frz_int]
  have fin : (tws.filter fun (i : Nat) => match (Ex.pars .non 0 e)[i]? with | some (.int q) => !tws.contains q.toNat | _ => true) = Ex.whl 0 e := by
    rw [← hT, List.filter_filter]
    refine Ex.whl_range e _ fun i x d hx hd => ?_
    rw [hd, Ex.twAt_of hx]
    have hb : ∀ q : Nat, q < e.size → ((List.range e.size).filter (Ex.twAt e)).contains q = Ex.twAt e q := by
      intro q hq
      rw [Bool.eq_iff_iff, List.contains_iff_mem, List.mem_filter, List.mem_range]
      exact ⟨fun z => z.2, fun z => ⟨hq, z⟩⟩
    have hi : i < e.size := by rw [← Ex.parts_len e]; exact (List.getElem?_eq_some_iff.mp hx).1
    rcases Ex.par_at e hd with ⟨_, rfl⟩ | ⟨m, _, _, hm, rfl, _⟩
    · simp
    · have := hb m (by omega)
      simp only [Int.toNat_natCast, this]
      rw [Bool.and_comm]
  rw [fin] at c2
  have hr1 : ∀ δ, iRange1 (eMeth (Str.ofString "many") [(0, 5)] (eV 1) lNil) (sem fs k) (some e.d :: some (.loc S.length) :: δ) S1 = .ok (.items ((List.range e.size).map nI)) S1 := fun δ => by
    rw [← span0]
    exact range1_ok (n := e.size) (S' := S1) (by simp [ap_eMeth, ht.self, lk_many, List.lookup, e2]) (by omega)
  have l1 : ((List.range e.size).map nI).length ≤ sizeLine := by simp; exact le_line (by omega)
  have l2 : (tws.map nI).length ≤ sizeLine := by
    rw [List.length_map, ← hT]
    have := List.length_filter_le (Ex.twAt e) (List.range e.size)
    rw [List.length_range] at this
    exact le_line (by omega)
  rw [sem_eq (f := ⟨1, 4, m_17⟩) rfl rfl]
  have gt : ∀ d : D, d.clean S.length = true → gc S (.ok (.val d) S1) = .ok (.val d) S := fun d hd => by rw [← hS1]; exact gc_treeS S e d hd
  have hcl : (D.tup ((Ex.whl 0 e).map nI)).clean S.length = true := by rw [clean_tup, nI_clean]
  simp only [m_17, ap_sSeq, ap_sAsg, ap_bnd, ap_eZ, ap_begin, List.map_cons, List.map_nil, List.cons_append, List.nil_append]
  rw [show (List.replicate (4 - 1) none : MM.Env) = [none, none, none] from rfl, e1]
  simp only [then_ok, frzW_val, bindW_val, thenS_ok, seq_nx, List.length_cons, List.length_nil, List.set_cons_succ, List.set_cons_zero, ap_eLc]
  rw [if_pos (by decide)]
  simp only [seq_nx, ap_sSeq, ap_sAsg, ap_bnd, ap_eZ, ap_eLc, hr1, then_ok, if_pos l1, wipeD, List.set_cons_succ, List.set_cons_zero]
  have c1' := c1 _ rfl
  rw [c1']
  simp only [then_ok, frzW_lst, bindW_val, thenS_ok, seq_nx, List.length_cons, List.length_nil, List.set_cons_succ, List.set_cons_zero]
  rw [if_pos (by decide)]
  simp only [seq_nx, ap_sRet, ap_eUn, ap_eLc, ap_iE, eV_2, then_ok, if_pos l2, wipeD, List.set_cons_succ, List.set_cons_zero, c2 _ rfl, uTuple_tmp, o2R_some, thenS_ok, fin_rt]
  exact gt _ hcl
noncomputable abbrev forkB : MS := (sSeq (sAsg 4 (eZ (eMeth (Str.ofString "kids") [(0, 7)] (eV 1) (lCons (eV 3) (lNil))))) (sIf (tAnd (tCmp cGt (eUn uLen (eV 4)) (eC (.int 1))) (tE (eAgg true (iE (eV 4)) [5] (gN 5) (tYes) (eCall 16 (lCons (eZ (eMeth (Str.ofString "part") [(0, 6)] (eV 1) (lCons (eV 5) (lNil)))) (lNil)))))) (sE (eEff2 isL fAppend (eV 2) (eV 3))) (sNil)))
def forkP (e : Ex) (i : Nat) : Bool := match (Ex.kidN 0 e)[i]? with
  | some kk => decide (1 < kk.length) && kk.all (Ex.twAt e)
  | none => false
theorem fork_loop (e : Ex) (k : Nat) (S1 : Sto) (t : Nat) (hw : e.wf = true) (hs : e.size ≤ 10000) (hk : e.depth + 4 ≤ k) (ht : ∀ X, IsTree 0 (S1 ++ X) t e) : ∀ (xs acc : List Nat) (x3 x4 x5 : Option D), (∀ i ∈ xs, i < e.size) → acc.length + xs.length ≤ 10000 →
    ∃ x3' x4', loopI (gN 3) (forkB (sem fs k)) (xs.map nI) [some e.d, some (.loc t), some (.loc S1.length), x3, x4, x5, none] (S1 ++ [.lst (acc.map nI)]) =
      .nx [some e.d, some (.loc t), some (.loc S1.length), x3', x4', x5, none] (S1 ++ [.lst ((acc ++ xs.filter (forkP e)).map nI)])
  | [], acc, x3, x4, x5, _, _ => ⟨x3, x4, by simp [loopI]⟩
  | i :: xs, acc, x3, x4, x5, hm, hl => by
    rw [List.length_cons] at hl
    have hi := hm i List.mem_cons_self
    obtain ⟨p, hp⟩ := Ex.parts_some e hi
    obtain ⟨hkk, hks⟩ := Ex.kid_at (q := .non) (b := 0) hp
    rw [Nat.zero_add] at hkk hks
    generalize hkg : Ex.starts (i + 1) p.kids = kk at hkk hks
    have hT := ht [.lst (acc.map nI)]
    have h1 := L_kids k _ t e hT i hi (by omega)
    have hkid := hT.kid i kk hkk
    have hlt := (List.getElem?_eq_some_iff.mp hkid).1
    have g1 : ∀ S' : Sto, S' = S1 ++ [.lst (acc.map nI)] → gc S' (.ok (.val (.loc (t + 5 + i))) S') = .ok (.val (.loc (t + 5 + i))) S' := by
      rintro S' rfl
      exact gc_val0 (by rw [D.clean]; exact decide_eq_true hlt)
    have u1 : uLen (.val (.loc (t + 5 + i))) (S1 ++ [.lst (acc.map nI)]) = some (.val (.int kk.length)) := by
      have := uLen_loc hkid
      rw [this, List.length_map]
    have ag : aggL true (gN 5) (tYes (sem fs k)) ((eCall 16 (lCons (eZ (eMeth (Str.ofString "part") [(0, 6)] (eV 1) (lCons (eV 5) (lNil)))) (lNil))) (sem fs k)) [some e.d, some (.loc t), some (.loc S1.length), some (nI i), some (.loc (t + 5 + i)), none, none] (t + 5 + i) none kk.length 0 (S1 ++ [.lst (acc.map nI)]) = .ok (.val (.bl (kk.all (Ex.twAt e)))) (S1 ++ [.lst (acc.map nI)]) := by
      have hel : ∀ s ∈ kk, ∃ δ1, gN 5 (nI s) [some e.d, some (.loc t), some (.loc S1.length), some (nI i), some (.loc (t + 5 + i)), none, none] = some δ1 ∧ tYes (sem fs k) δ1 (S1 ++ [.lst (acc.map nI)]) = .ok true (S1 ++ [.lst (acc.map nI)]) ∧
          (eCall 16 (lCons (eZ (eMeth (Str.ofString "part") [(0, 6)] (eV 1) (lCons (eV 5) (lNil)))) (lNil))) (sem fs k) δ1 (S1 ++ [.lst (acc.map nI)]) = .ok (.val (.bl (Ex.twAt e s))) (S1 ++ [.lst (acc.map nI)]) := by
        intro s hs2
        obtain ⟨j, hj⟩ := List.getElem?_of_mem hs2
        obtain ⟨_, hsz, _, _⟩ := hks j s hj
        obtain ⟨q, hq⟩ := Ex.parts_some e (show s < e.size by omega)
        have h2 := L_part k _ t e hT s q hq (by omega)
        have hpo := Ex.part_ok e q (List.mem_of_getElem? hq)
        have h3 := L_is_twig q k (S1 ++ [.lst (acc.map nI)]) (hpo.1 hw) (by omega)
        refine ⟨[some e.d, some (.loc t), some (.loc S1.length), some (nI i), some (.loc (t + 5 + i)), some (nI s), none], rfl, rfl, ?_⟩
        rw [Ex.twAt_of hq]
        simp [ap_eMeth, hT.self, lk_part, List.lookup, h2, h3]
      have := aggL_eq (dflt := true) (g := gN 5) (t := tYes (sem fs k)) (elt := (eCall 16 (lCons (eZ (eMeth (Str.ofString "part") [(0, 6)] (eV 1) (lCons (eV 5) (lNil)))) (lNil))) (sem fs k)) (δ := [some e.d, some (.loc t), some (.loc S1.length), some (nI i), some (.loc (t + 5 + i)), none, none]) hkid (fun d hd => by
        obtain ⟨s, hs2, rfl⟩ := List.mem_map.mp hd
        obtain ⟨δ1, a, b, c⟩ := hel s hs2
        exact ⟨δ1, _, a, b, c⟩) kk.length 0 (by simp)
      rw [this, List.drop_zero]
      exact aggI_all (enc := nI) hel
    have hP : forkP e i = (decide (1 < kk.length) && kk.all (Ex.twAt e)) := by unfold forkP; rw [hkk]
    have iE4 : iE (eV 4) (sem fs k) [some e.d, some (.loc t), some (.loc S1.length), some (nI i), some (.loc (t + 5 + i)), x5, none] (S1 ++ [.lst (acc.map nI)]) = .ok (.live (t + 5 + i) none) (S1 ++ [.lst (acc.map nI)]) := by
      simp [kO] at hkid
      simp [hkid]
    have ln : lenAt (t + 5 + i) (S1 ++ [.lst (acc.map nI)]) = kk.length := by
      rw [lenAt_eq hkid, List.length_map]
    have step : forkB (sem fs k) [some e.d, some (.loc t), some (.loc S1.length), some (nI i), x4, x5, none] (S1 ++ [.lst (acc.map nI)]) =
        .nx [some e.d, some (.loc t), some (.loc S1.length), some (nI i), some (.loc (t + 5 + i)), x5, none] (S1 ++ [.lst ((acc ++ if forkP e i = true then [i] else []).map nI)]) := by
      have ap : fAppend (.val (.loc S1.length)) (.val (nI i)) (S1 ++ [.lst (acc.map nI)]) = some (.val .non, S1 ++ [.lst ((acc ++ [i]).map nI)]) := by
        rw [app_loc (ds := acc.map nI) (by rw [app_get0]; rfl) (by rw [List.length_map]; exact lt_line (by omega)), app_set0]
        simp
      have il : isL (.val (.loc S1.length)) (S1 ++ [.lst (acc.map nI)]) = true := isL_loc (ds := acc.map nI) (by rw [app_get0]; rfl)
      have a1 : (sAsg 4 (eZ (eMeth (Str.ofString "kids") [(0, 7)] (eV 1) (lCons (eV 3) (lNil))))) (sem fs k) [some e.d, some (.loc t), some (.loc S1.length), some (nI i), x4, x5, none] (S1 ++ [.lst (acc.map nI)]) = .nx [some e.d, some (.loc t), some (.loc S1.length), some (nI i), some (.loc (t + 5 + i)), x5, none] (S1 ++ [.lst (acc.map nI)]) := by
        simp [ap_eMeth, hT.self, lk_mkids, List.lookup, h1, g1]
      show sSeq _ _ (sem fs k) _ _ = _
      rw [ap_sSeq, a1, seq_nx]
      simp only [ap_sIf, ap_tAnd, ap_tCmp, ap_eUn, eV_4, then_ok, u1, o2R_some, ap_eC, cGt_int, o2B_some, ap_tE, ap_eAgg, iE4, ln, wipeD, List.set_cons_succ, List.set_cons_zero, ag, truth_bl]
      rw [hP]
      by_cases h : 1 < kk.length
      · have h' : (1 : Int) < kk.length := by omega
        cases ha : kk.all (Ex.twAt e) with
        | true => simp [h, h', ha, il, ap]
        | false => simp [h, h', ha]
      · have h' : ¬ (1 : Int) < kk.length := by omega
        simp [h, h']
    obtain ⟨x3', x4', hx⟩ := fork_loop e k S1 t hw hs hk ht xs (acc ++ if forkP e i = true then [i] else []) (some (nI i)) (some (.loc (t + 5 + i))) x5 (fun j hj => hm j (List.mem_cons_of_mem _ hj)) (by split <;> simp <;> omega)
    refine ⟨x3', x4', ?_⟩
    rw [List.map_cons]
    simp only [loopI, gN]
    rw [if_pos (by simp)]
    simp only [List.set_cons_succ, List.set_cons_zero]
    rw [step]
    simp only [hx]
    congr 3
    rw [List.filter_cons]
    cases forkP e i <;> simp
theorem L_forks_of (e : Ex) (k : Nat) (S : Sto) (hw : e.wf = true) (hs : e.size ≤ 10000) (hk : e.depth + 6 ≤ k) : sem fs k 18 [e.d] S = .ok (.val (.tup ((Ex.frk 0 e).map nI))) S := by
  obtain ⟨k, rfl⟩ : ∃ j, k = j + 1 := ⟨k - 1, by omega⟩
  have ht := treeS_is 0 S e
  have e1 := L_new k S e hw hs (by omega) (lCons (eV 0) lNil) [some e.d, none, none, none, none, none, none] rfl
  obtain ⟨Y, hY⟩ : ∃ Y, treeS 0 S e = S ++ Y := ⟨_, rfl⟩
  generalize hS1 : treeS 0 S e = S1 at ht e1 hY
  have htX : ∀ X, IsTree 0 (S1 ++ X) S.length e := fun X => ht.mono fun n o _ h => by rw [List.getElem?_append_left (List.getElem?_eq_some_iff.mp h).1]; exact h
  obtain ⟨x3, x4, hx⟩ := fork_loop e k S1 S.length hw hs (by omega) htX (List.range e.size) [] none none none (fun i hi => List.mem_range.mp hi) (by simp; omega)
  have hf : (List.range e.size).filter (forkP e) = Ex.frk 0 e := Ex.frk_range e _ fun i kk h => by unfold forkP; rw [h]
  rw [List.nil_append, hf, List.map_nil] at hx
  have hr0 : ∀ (S2 : Sto) δ, IsTree 0 S2 S.length e → iRange1 (eMeth (Str.ofString "many") [(0, 5)] (eV 1) lNil) (sem fs k) (some e.d :: some (.loc S.length) :: δ) S2 = .ok (.items ((List.range e.size).map nI)) S2 := fun S2 δ h => by
    have e2 := L_many k S2 S.length e h (by omega)
    rw [← span0]
    exact range1_ok (n := e.size) (S' := S2) (by simp [ap_eMeth, h.self, lk_many, List.lookup, e2]) (by omega)
  have hr1 := fun δ => hr0 _ δ (htX [.lst []])
  have ut : uTuple (.val (.loc S1.length)) (S1 ++ [.lst ((Ex.frk 0 e).map nI)]) = some (.val (.tup ((Ex.frk 0 e).map nI))) := by
    unfold uTuple
    simp [W.any, W.lq, W.tq]
  rw [sem_eq (f := ⟨1, 7, m_18⟩) rfl rfl]
  simp only [m_18, ap_sSeq, ap_sAsg, ap_bnd, ap_eZ, ap_begin, List.map_cons, List.map_nil, List.cons_append, List.nil_append]
  rw [show (List.replicate (7 - 1) none : MM.Env) = [none, none, none, none, none, none] from rfl, e1]
  simp only [then_ok, frzW_val, bindW_val, thenS_ok, seq_nx, List.length_cons, List.length_nil, List.set_cons_succ, List.set_cons_zero]
  rw [if_pos (by decide)]
  simp only [seq_nx, ap_sSeq, ap_sAsg, ap_bnd, ap_eLst, ap_lNil, then_ok, List.length_nil, if_pos (Nat.zero_le _), bindW_tmp, thenS_ok, List.length_cons, List.set_cons_succ, List.set_cons_zero]
  rw [if_pos (by decide)]
  simp only [seq_nx, ap_sSeq, ap_sFor, hr1, thenS_ok, hx, ap_sRet, ap_eUn, eV_2, then_ok, ut, o2R_some, fin_rt]
  rw [hY, List.append_assoc]
  exact gc_val _ (by rw [clean_tup, nI_clean])
/-! ### the law's own numbering -/
def nrow (r : Nat × Ex × D × List Nat) : D := .tup [r.2.1.d, r.2.2.1]
def numb (e : Ex) : List D := (Ex.rws .non 0 e).map nrow
theorem numb_len (e : Ex) : (numb e).length = e.size := by
  have := congrArg List.length (Ex.rws_maps e .non 0).1
  rw [List.length_map, List.length_range'] at this
  rw [numb, List.length_map, this]
theorem numb_get {e p : Ex} {d : D} {i : Nat} (hp : e.parts[i]? = some p) (hd : (Ex.pars .non 0 e)[i]? = some d) : (numb e)[i]? = some (.tup [p.d, d]) := by
  have hi : i < (Ex.rws .non 0 e).length := by
    have h1 := numb_len e
    rw [numb, List.length_map] at h1
    rw [h1, ← Ex.parts_len e]
    exact (List.getElem?_eq_some_iff.mp hp).1
  have hr := List.getElem?_eq_getElem hi
  obtain ⟨_, h2, h3, _⟩ := Ex.rws_get hr
  rw [hp] at h2
  rw [hd] at h3
  rw [numb, List.getElem?_map, hr, Option.map_some, nrow, ← Option.some.inj h2, ← Option.some.inj h3]
theorem numb_clean (L : Nat) (e : Ex) : cleanL L (numb e) = true := by
  have key : ∀ xs : List D, (∀ x ∈ xs, x.clean L = true) → cleanL L xs = true := by
    intro xs
    induction xs with
    | nil => intro _; simp
    | cons x xs ih => intro h; rw [clean_cons, h x List.mem_cons_self, ih fun y hy => h y (List.mem_cons_of_mem _ hy)]; rfl
  refine key _ fun x hx => ?_
  obtain ⟨r, hr, rfl⟩ := List.mem_map.mp hx
  obtain ⟨i, hi⟩ := List.getElem?_of_mem hr
  obtain ⟨_, _, h3, _⟩ := Ex.rws_get hi
  rcases pars_clean L e i r.2.2.1 h3 with h | ⟨j, h⟩
  · simp [nrow, h]
  · simp [nrow, h]
/-- what is still to be numbered -/
def todo (L : List (Ex × D)) : List D := (L.map fun x => D.tup [x.1.d, x.2]).reverse
def nall : Nat → List (Ex × D) → List D
  | _, [] => []
  | n, x :: r => (Ex.rws x.2 n x.1).map nrow ++ nall (n + x.1.size) r
theorem nall_kids (q : D) : ∀ (ks : List Ex) (n : Nat) (r : List (Ex × D)), nall n (ks.map (fun k => (k, q)) ++ r) = (Ex.rwsL q n ks).map nrow ++ nall (n + Ex.sizeL ks) r
  | [], n, r => by simp [Ex.rwsL, Ex.sizeL]
  | k :: ks, n, r => by
    rw [List.map_cons, List.cons_append, nall, nall_kids q ks, Ex.rwsL, Ex.sizeL, List.map_append, List.append_assoc, Nat.add_assoc]
def szs : List (Ex × D) → Nat
  | [] => 0
  | x :: r => x.1.size + szs r
theorem szs_kids (q : D) (r : List (Ex × D)) : ∀ ks : List Ex, szs (ks.map (fun k => (k, q)) ++ r) = Ex.sizeL ks + szs r
  | [] => by simp [Ex.sizeL]
  | k :: ks => by rw [List.map_cons, List.cons_append, szs, szs_kids q r ks, Ex.sizeL, Nat.add_assoc]
theorem len_szs : ∀ L : List (Ex × D), L.length ≤ szs L
  | [] => Nat.le_refl _
  | x :: r => by
    have := len_szs r
    have := Ex.size_pos x.1
    rw [List.length_cons, szs]
    omega
noncomputable abbrev numC : MT := (tCmp cGt (eUn uLen (eV 2)) (eC (.int 0)))
noncomputable abbrev numB : MS := (sSeq (sAsgT [3, 4] (eEff1 fPop (eV 2))) (sSeq (sAsg 5 (eUn uLen (eV 1))) (sSeq (sE (eEff2 isL fAppend (eV 1) (eTup (lCons (eV 3) (lCons (eV 4) (lNil)))))) (sIf (tCmp (cNot inW) (eBin bIx (eV 3) (eC (.int 0))) (eTup (lCons (eC (.str (Str.ofString "num"))) (lCons (eC (.str (Str.ofString "name"))) (lCons (eC (.str (Str.ofString "yes"))) (lCons (eC (.str (Str.ofString "no"))) (lNil))))))) (sE (eEff2 isL fExtend (eV 2) (eSlA (eLc (iE (eSl (eV 3) (some (eC (.int 1))) none)) [6] (gN 6) (tYes) (eTup (lCons (eV 6) (lCons (eV 5) (lNil))))) none none (eUn uNeg (eC (.int 1)))))) (sNil)))))
theorem lfNum : Ex.isLeafW sNum = true := by decide +kernel
theorem lfNam : Ex.isLeafW sNam = true := by decide +kernel
theorem lfYes : Ex.isLeafW sYes = true := by decide +kernel
theorem lfNo : Ex.isLeafW sNo = true := by decide +kernel
theorem num_loop (k : Nat) (X : Sto) (e0 : D) : ∀ (N : Nat) (L : List (Ex × D)) (A : List D) (x3 x4 x5 x6 : Option D) (fuel : Nat), szs L = N → N < fuel → (∀ x ∈ L, x.1.wf = true) → A.length + N ≤ 10000 →
    ∃ y3 y4 y5, loopW (numC (sem fs k)) (numB (sem fs k)) fuel [some e0, some (.loc X.length), some (.loc (X.length + 1)), x3, x4, x5, x6] (X ++ [.lst A, .lst (todo L)]) =
      .nx [some e0, some (.loc X.length), some (.loc (X.length + 1)), y3, y4, y5, x6] (X ++ [.lst (A ++ nall A.length L), .lst []]) := by
  intro N
  induction N using Nat.strongRecOn with
  | ind N ih =>
    intro L A x3 x4 x5 x6 fuel hN hf hw hl
    obtain ⟨fuel, rfl⟩ : ∃ f, fuel = f + 1 := ⟨fuel - 1, by omega⟩
    have t1 : ∀ A T : List D, (X ++ [O.lst A, O.lst T])[X.length + 1]? = some (.lst T) := fun A T => by rw [app_get]; rfl
    have t0 : ∀ A T : List D, (X ++ [O.lst A, O.lst T])[X.length]? = some (.lst A) := fun A T => by rw [app_get0]; rfl
    have u : ∀ A T : List D, uLen (.val (.loc (X.length + 1))) (X ++ [O.lst A, O.lst T]) = some (.val (.int T.length)) := fun A T => uLen_loc (t1 A T)
    have u0 : ∀ A T : List D, uLen (.val (.loc X.length)) (X ++ [O.lst A, O.lst T]) = some (.val (.int A.length)) := fun A T => uLen_loc (t0 A T)
    cases L with
    | nil =>
      refine ⟨x3, x4, x5, ?_⟩
      have h0 : todo [] = [] := rfl
      rw [h0]
      simp [loopW, u, nall]
    | cons x r =>
      obtain ⟨e, q⟩ := x
      rw [szs] at hN
      have hN : e.size + szs r = N := hN
      have ep := Ex.size_pos e
      have hwe : e.wf = true := hw (e, q) List.mem_cons_self
      have hsz := Ex.size_eq e
      have htodo : todo ((e, q) :: r) = todo r ++ [.tup [e.d, q]] := by simp [todo]
      have hlen : (todo r).length ≤ 10000 := by
        have := len_szs r
        simp only [todo, List.length_reverse, List.length_map]
        omega
      have pop := pop_loc (t1 A (todo r ++ [D.tup [e.d, q]]))
      have s1 : ∀ (A T T' : List D), (X ++ [O.lst A, O.lst T]).set (X.length + 1) (.lst T') = X ++ [O.lst A, O.lst T'] := fun A T T' => by rw [app_set]; rfl
      have s0 : ∀ (A A' T : List D), (X ++ [O.lst A, O.lst T]).set X.length (.lst A') = X ++ [O.lst A', O.lst T] := fun A A' T => by rw [app_set0]; rfl
      rw [s1] at pop
      have lkk := Ex.length_le_sizeL e.kids
      have hk2 : todo (e.kids.map (fun k => (k, D.int (A.length : Int))) ++ r) = todo r ++ (e.kids.map fun k => D.tup [k.d, .int (A.length : Int)]).reverse := by
        unfold todo
        rw [List.map_append, List.reverse_append, List.map_map]
        rfl
      have hnx : numB (sem fs k) [some e0, some (.loc X.length), some (.loc (X.length + 1)), x3, x4, x5, x6] (X ++ [.lst A, .lst (todo ((e, q) :: r))]) =
          .nx [some e0, some (.loc X.length), some (.loc (X.length + 1)), some e.d, some q, some (.int A.length), x6] (X ++ [.lst (A ++ [.tup [e.d, q]]), .lst (todo (e.kids.map (fun k => (k, D.int (A.length : Int))) ++ r))]) := by
        rw [htodo, hk2]
        have b1 : (sAsgT [3, 4] (eEff1 fPop (eV 2))) (sem fs k) [some e0, some (.loc X.length), some (.loc (X.length + 1)), x3, x4, x5, x6] (X ++ [.lst A, .lst (todo r ++ [D.tup [e.d, q]])]) = .nx [some e0, some (.loc X.length), some (.loc (X.length + 1)), some e.d, some q, x5, x6] (X ++ [.lst A, .lst (todo r)]) := by
          simp [pop, W.any, W.tq, setAll]
        have b2 : (sAsg 5 (eUn uLen (eV 1))) (sem fs k) [some e0, some (.loc X.length), some (.loc (X.length + 1)), some e.d, some q, x5, x6] (X ++ [.lst A, .lst (todo r)]) = .nx [some e0, some (.loc X.length), some (.loc (X.length + 1)), some e.d, some q, some (.int A.length), x6] (X ++ [.lst A, .lst (todo r)]) := by
          simp [u0]
        have ap := app_loc (d := D.tup [e.d, q]) (t0 A (todo r)) (by exact lt_line (by omega))
        rw [s0] at ap
        have il := isL_loc (t0 A (todo r))
        have b3 : (sE (eEff2 isL fAppend (eV 1) (eTup (lCons (eV 3) (lCons (eV 4) (lNil)))))) (sem fs k) [some e0, some (.loc X.length), some (.loc (X.length + 1)), some e.d, some q, some (.int A.length), x6] (X ++ [.lst A, .lst (todo r)]) = .nx [some e0, some (.loc X.length), some (.loc (X.length + 1)), some e.d, some q, some (.int A.length), x6] (X ++ [.lst (A ++ [.tup [e.d, q]]), .lst (todo r)]) := by
          have l2 : 2 ≤ sizeLine := le_line (by decide)
          simp [il, l2, ap]
        have hin := fun w (S : Sto) => inW_leaf w S
        have l4 : 4 ≤ sizeLine := le_line (by decide)
        have b4 : (sIf (tCmp (cNot inW) (eBin bIx (eV 3) (eC (.int 0))) (eTup (lCons (eC (.str (Str.ofString "num"))) (lCons (eC (.str (Str.ofString "name"))) (lCons (eC (.str (Str.ofString "yes"))) (lCons (eC (.str (Str.ofString "no"))) (lNil))))))) (sE (eEff2 isL fExtend (eV 2) (eSlA (eLc (iE (eSl (eV 3) (some (eC (.int 1))) none)) [6] (gN 6) (tYes) (eTup (lCons (eV 6) (lCons (eV 5) (lNil))))) none none (eUn uNeg (eC (.int 1)))))) (sNil)) (sem fs k) [some e0, some (.loc X.length), some (.loc (X.length + 1)), some e.d, some q, some (.int A.length), x6] (X ++ [.lst (A ++ [.tup [e.d, q]]), .lst (todo r)]) =
            .nx [some e0, some (.loc X.length), some (.loc (X.length + 1)), some e.d, some q, some (.int A.length), x6] (X ++ [.lst (A ++ [.tup [e.d, q]]), .lst (todo r ++ (e.kids.map fun k => D.tup [k.d, .int (A.length : Int)]).reverse)]) := by
          cases e with
          | op w ks =>
            have hwf := hwe
            rw [Ex.wf, Bool.and_eq_true, Bool.and_eq_true, Bool.not_eq_true'] at hwf
            have lks : ks.length ≤ 10000 := by have h : (Ex.op w ks).kids = ks := rfl; rw [h] at lkk hsz; omega
            have ll : ks.length ≤ sizeLine := le_line (by omega)
            have c1 : ∀ S : Sto, compI (gN 6) (tYes (sem fs k)) (bnd (eTup (lCons (eV 6) (lCons (eV 5) (lNil)))) (sem fs k)) [some e0, some (.loc X.length), some (.loc (X.length + 1)), some (Ex.op w ks).d, some q, some (.int A.length), none] (ks.map Ex.d) S = .ok (ks.map fun k => D.tup [k.d, .int (A.length : Int)]) S := fun S =>
              compI_map (enc := Ex.d) (f := fun k => D.tup [k.d, .int (A.length : Int)]) fun y hy => ⟨[some e0, some (.loc X.length), some (.loc (X.length + 1)), some (Ex.op w ks).d, some q, some (.int A.length), some y.d], rfl, rfl, by simp [le_line]⟩
            have il2 := isL_loc (t1 (A ++ [.tup [(Ex.op w ks).d, q]]) (todo r))
            have ex := ext_loc (es := (ks.map fun k => D.tup [k.d, .int (A.length : Int)]).reverse) (t1 (A ++ [.tup [(Ex.op w ks).d, q]]) (todo r)) (by rw [List.length_reverse, List.length_map]; exact le_line (by omega))
            rw [s1] at ex
            have e1 : (Ex.op w ks).d = .tup (.str w :: ks.map Ex.d) := Ex.d_opL w ks
            have sl : (eSlA (eLc (iE (eSl (eV 3) (some (eC (.int 1))) none)) [6] (gN 6) (tYes) (eTup (lCons (eV 6) (lCons (eV 5) (lNil))))) none none (eUn uNeg (eC (.int 1)))) (sem fs k) [some e0, some (.loc X.length), some (.loc (X.length + 1)), some (Ex.op w ks).d, some q, some (.int A.length), x6] (X ++ [.lst (A ++ [.tup [(Ex.op w ks).d, q]]), .lst (todo r)]) = .ok (.tmp (.lst (ks.map fun k => D.tup [k.d, .int (A.length : Int)]).reverse)) (X ++ [.lst (A ++ [.tup [(Ex.op w ks).d, q]]), .lst (todo r)]) := by
              have c1' := c1 (X ++ [.lst (A ++ [.tup [(Ex.op w ks).d, q]]), .lst (todo r)])
              have pm := idxS_rev (ks.map fun k => D.tup [k.d, .int (A.length : Int)])
              rw [List.length_map] at pm
              generalize (X ++ [O.lst (A ++ [D.tup [(Ex.op w ks).d, q]]), O.lst (todo r)]) = S at c1'
              rw [e1] at c1' ⊢
              simp [eSlA, partM, ap_eLc, wipeD, ll, c1', W.tq, W.lq, uNeg, pm]
            have wl : Ex.isLeafW w = false := hwf.1.1
            simp only [ap_sIf, ap_tCmp, ap_eBin, eV_3, ap_eC, then_ok, e1, bIx_tup, atI_0, Option.map_some, o2R_some, ap_eTup, ap_lCons, ap_lNil, ap_bnd, bindW_val, List.length_cons, List.length_nil]
            rw [if_pos (by exact l4)]
            simp only [then_ok, cNot_ap]
            rw [hin, wl]
            simp only [Option.map_some, Bool.not_false, o2B_some, thenS_ok, if_true, ap_sE, ap_eEff2, eV_2, then_ok]
            rw [← e1]
            rw [il2]
            simp only [if_true]
            rw [sl]
            simp only [then_ok, ex, thenS_ok]
            rfl
          | num i => simp [Ex.d, hin, lfNum, l4, Ex.kids]
          | name i => simp [Ex.d, hin, lfNam, l4, Ex.kids]
          | yes => simp [Ex.d, hin, lfYes, l4, Ex.kids]
          | no => simp [Ex.d, hin, lfNo, l4, Ex.kids]
        show sSeq _ _ (sem fs k) _ _ = _
        rw [ap_sSeq, b1, seq_nx, ap_sSeq, b2, seq_nx, ap_sSeq, b3, seq_nx, b4]
      have hsum := szs_kids (.int (A.length : Int)) r e.kids
      obtain ⟨y3, y4, y5, hy⟩ := ih (Ex.sizeL e.kids + szs r) (by omega) (e.kids.map (fun k => (k, D.int (A.length : Int))) ++ r) (A ++ [.tup [e.d, q]]) (some e.d) (some q) (some (.int A.length)) x6 fuel hsum (by omega) (fun x hx => by
        rcases List.mem_append.mp hx with hx | hx
        · obtain ⟨y, hy, rfl⟩ := List.mem_map.mp hx
          exact kids_wf hwe y hy
        · exact hw x (List.mem_cons_of_mem _ hx)) (by simp; omega)
      refine ⟨y3, y4, y5, ?_⟩
      unfold loopW
      have hc : numC (sem fs k) [some e0, some (.loc X.length), some (.loc (X.length + 1)), x3, x4, x5, x6] (X ++ [.lst A, .lst (todo ((e, q) :: r))]) = .ok true (X ++ [.lst A, .lst (todo ((e, q) :: r))]) := by
        have : (0 : Int) < ((todo ((e, q) :: r)).length : Int) := by rw [htodo, List.length_append, List.length_singleton]; omega
        simp only [numC, ap_tCmp, ap_eUn, eV_2, then_ok, u, o2R_some, ap_eC, cGt_int, decide_eq_true this, o2B_some]
      rw [hc]
      simp only [thenS_ok, if_true]
      rw [hnx]
      simp only [hy]
      congr 3
      rw [nall_kids, nall, Ex.rws_eq, List.map_cons, List.length_append, List.length_singleton]
      simp only [nrow, List.append_assoc, List.cons_append, List.nil_append]
      rw [hsz]
      simp only [Nat.add_assoc]
theorem L_numbered (e : Ex) (k : Nat) (S : Sto) (hw : e.wf = true) (hs : e.size ≤ 9000) (hk : 1 ≤ k) : sem fs k 25 [e.d] S = .ok (.tmp (.lst (numb e))) S := by
  obtain ⟨k, rfl⟩ : ∃ j, k = j + 1 := ⟨k - 1, by omega⟩
  obtain ⟨y3, y4, y5, hy⟩ := num_loop k S e.d e.size [(e, .non)] [] none none none none manyN (by simp [szs]) (by rw [manyN_eq]; omega) (fun x hx => by rw [List.mem_singleton] at hx; subst hx; exact hw) (by simp; omega)
  have h1 : todo [(e, D.non)] = [.tup [e.d, .non]] := rfl
  have h2 : ([] : List D) ++ nall ([] : List D).length [(e, .non)] = numb e := by simp [nall, numb]
  rw [h1, h2] at hy
  have l2 : 2 ≤ sizeLine := le_line (by decide)
  have l1 : 1 ≤ sizeLine := le_line (by decide)
  rw [sem_eq (f := ⟨1, 7, m_25⟩) rfl rfl]
  have hwh : ∀ (c : MT) (b : MS) T δ S, sWhile manyN c b T δ S = loopW (c T) (b T) manyN δ S := fun _ _ _ _ _ => rfl
  simp [m_25, setAll, hwh, l1, l2, hy]
  exact gc_loc _ (Nat.le_refl _) (by simp) (by rw [clean_lst, numb_clean])
/-! ### the law's twigs -/
theorem down_items (n : Nat) (hn : n ≤ 10000) {lo hi st : ME} {T : FT} {δ : MM.Env} {S : Sto} (h1 : lo T δ S = .ok (.val (.int ((n : Int) - 1))) S) (h2 : hi T δ S = .ok (.val (.int (-1))) S) (h3 : st T δ S = .ok (.val (.int (-1))) S) :
    iRange3 lo hi st T δ S = .ok (.items ((List.range n).map fun (i : Nat) => D.int ((n : Int) - 1 - (i : Int)))) S := by
  have hsz : Builtin.Range.rangeSize ((n : Int) - 1) (-1) (-1) = n := by
    unfold Builtin.Range.rangeSize
    rw [if_neg (by omega)]
    by_cases h : (n : Int) - 1 > -1
    · rw [if_pos h, show (- -1 : Int) = 1 from rfl, Int.ediv_one]; omega
    · rw [if_neg h]; omega
  have hsm : Builtin.Range.small ((n : Int) - 1) (-1) (-1) = true := by
    have ff : ∀ z : Int, z.natAbs ≤ 100000 → Builtin.Range.rangeFitsLong z = true := by
      intro z h
      unfold Builtin.Range.rangeFitsLong
      simp
      omega
    unfold Builtin.Range.small
    rw [hsz, ff _ (by omega), ff _ (by omega), ff _ (by omega), if_neg (by omega), ff _ (by omega)]
    simp
  unfold iRange3
  simp only [h1, h2, h3, then_ok]
  rw [if_pos ⟨by decide, by decide, hsm⟩, hsz, Int.toNat_natCast]
  congr 2
  unfold spanC
  apply List.map_congr_left
  intro i _
  congr 1
  omega
noncomputable abbrev belB : MS := (sE (eEff2 isL fAppend (eBin bIx (eV 1) (eBin bIx (eBin bIx (eV 0) (eV 2)) (eC (.int 1)))) (eV 2)))
noncomputable abbrev twB : MS := (sSetIx (eV 3) (eV 2) (eOr (eBin (bC eqW) (eUn uLen (eBin bIx (eV 1) (eV 2))) (eC (.int 0))) (eAnd (eBin (bC eqW) (eUn uLen (eBin bIx (eV 1) (eV 2))) (eC (.int 1))) (eBin bIx (eV 3) (eBin bIx (eBin bIx (eV 1) (eV 2)) (eC (.int 0)))))))
def twRow (e : Ex) (i : Nat) : List D := (List.range e.size).map fun x => .bl (decide (e.size - i ≤ x) && Ex.twAt e x)
theorem tw_ix (e : Ex) (S : Sto) (j : Nat) (hj : j < e.size) : ∃ p d, e.parts[j]? = some p ∧ (Ex.pars .non 0 e)[j]? = some d ∧ bIx (.val (.frz (numb e))) (.val (.int (j : Int))) S = some (.val (.tup [p.d, d])) := by
    obtain ⟨p, hp⟩ := Ex.parts_some e hj
    obtain ⟨d, hd⟩ := Ex.pars_some e hj
    refine ⟨p, d, hp, hd, ?_⟩
    rw [bIx_frz, atI_nat (numb_get hp hd)]; rfl
theorem tw_bix (e : Ex) (S S' : Sto) (m : Nat) (hm : m < e.size) : bIx (.val (.frz (kl S.length e.size))) (.val (.int (m : Int))) S' = some (.val (.loc (S.length + m))) := by
    rw [bIx_frz, atI_nat (kl_get _ _ _ hm)]; rfl
theorem tw_get (S : Sto) (K : List (List Nat)) (X : Sto) (m : Nat) (kk : List Nat) (h : K[m]? = some kk) : (S ++ K.map kO ++ X)[S.length + m]? = some (kO kk) := by
    have hm := (List.getElem?_eq_some_iff.mp h).1
    rw [List.append_assoc, app_get, List.getElem?_append_left (by rw [List.length_map]; exact hm), List.getElem?_map, h]; rfl
theorem tw_kids (e : Ex) (k : Nat) (S : Sto) (hs : e.size ≤ 9000) : ∃ δ' S', loopI (gN 2) (belB (sem fs k)) (span 1 (e.size - 1)) [some (.frz (numb e)), some (.frz (kl S.length e.size)), none, none, none] (S ++ (Ex.kidJ e 1).map kO) = .nx δ' S' ∧ (∃ x2, δ' = [some (.frz (numb e)), some (.frz (kl S.length e.size)), x2, none, none]) ∧ S' = S ++ (Ex.kidJ e (1 + (span 1 (e.size - 1)).length)).map kO := by
    have hix := tw_ix e
    have hbix := tw_bix e S
    have hget := tw_get S
    obtain ⟨δ', S', h1, h2⟩ := loopI_inv (g := gN 2) (body := belB (sem fs k)) (ds := span 1 (e.size - 1)) (k := 1) (δ := [some (.frz (numb e)), some (.frz (kl S.length e.size)), none, none, none]) (S := S ++ (Ex.kidJ e 1).map kO)
      (P := fun j δ S' => (∃ x2, δ = [some (.frz (numb e)), some (.frz (kl S.length e.size)), x2, none, none]) ∧ S' = S ++ (Ex.kidJ e j).map kO) ⟨⟨none, rfl⟩, rfl⟩ (fun i d δ S' hd hP => by
        obtain ⟨⟨x2, rfl⟩, rfl⟩ := hP
        have hi : i < e.size - 1 := by have := (List.getElem?_eq_some_iff.mp hd).1; rw [span_len] at this; exact this
        have hd' : d = .int ((1 + i : Nat) : Int) := by
          unfold span at hd
          rw [List.getElem?_map, List.getElem?_range hi] at hd
          have := Option.some.inj hd
          rw [← this]
          congr 1
        subst hd'
        obtain ⟨p, dd, hp, hdd, hx⟩ := hix (S ++ (Ex.kidJ e (1 + i)).map kO) (1 + i) (by omega)
        rcases Ex.par_at e hdd with ⟨z, _⟩ | ⟨m, jx, kk, hm, rfl, hkk, hj⟩
        · omega
        · have hjm := List.mem_of_getElem? hj
          obtain ⟨st, sg⟩ := Ex.kidJ_step e hkk hjm
          have hb := hbix (S ++ (Ex.kidJ e (1 + i)).map kO) m (by omega)
          have hg := hget (Ex.kidJ e (1 + i)) [] m _ sg
          rw [List.append_nil] at hg
          have hlk : kk.length ≤ 9000 := by
            obtain ⟨p2, hp2⟩ := Ex.parts_some e (show m < e.size by omega)
            have h1 := (Ex.kid_at (q := .non) (b := 0) hp2).1
            rw [hkk] at h1
            cases h1
            rw [Ex.starts_len]
            have h2 := Ex.length_le_sizeL p2.kids
            have h3 := Ex.size_eq p2
            have h4 := (Ex.part_ok e p2 (List.mem_of_getElem? hp2)).2.2
            omega
          have hfl : (kk.filter fun x => decide (x < 1 + i)).length ≤ 9000 := Nat.le_trans (List.length_filter_le _ _) hlk
          have hg' : (S ++ (Ex.kidJ e (1 + i)).map kO)[S.length + m]? = some (.lst ((kk.filter fun x => decide (x < 1 + i)).map nI)) := hg
          have ap := app_loc (d := .int ((1 + i : Nat) : Int)) hg' (by rw [List.length_map]; exact lt_line (by omega))
          have il := isL_loc hg'
          have hset : (S ++ (Ex.kidJ e (1 + i)).map kO).set (S.length + m) (.lst ((kk.filter fun x => decide (x < 1 + i)).map nI ++ [.int ((1 + i : Nat) : Int)])) = S ++ (Ex.kidJ e (1 + i + 1)).map kO := by
            rw [app_set, st, List.map_set]
            congr 2
            simp [kO]
          rw [hset] at ap
          refine ⟨_, _, _, rfl, .inl ?_, ⟨⟨some (.int ((1 + i : Nat) : Int)), rfl⟩, rfl⟩⟩
          simp only [belB, ap_sE, ap_eEff2, ap_eBin, List.set_cons_succ, List.set_cons_zero, eV_1, eV_0, eV_2, then_ok, hx, o2R_some, ap_eC, bIx_tup, atI_1, Option.map_some, hb, il, if_true, ap, thenS_ok])
    exact ⟨δ', S', h1, h2.1, h2.2⟩
theorem tw_marks (e : Ex) (k : Nat) (S S2 : Sto) (x2 : Option D) (hs : e.size ≤ 9000) (hS2 : S ++ (Ex.kidN 0 e).map kO = S2) : ∃ δ' S', loopI (gN 2) (twB (sem fs k)) ((List.range e.size).map fun (i : Nat) => D.int ((e.size : Int) - 1 - (i : Int))) [some (.frz (numb e)), some (.frz (kl S.length e.size)), x2, some (.loc S2.length), none] (S2 ++ [.lst (twRow e 0)]) = .nx δ' S' ∧ (∃ x2, δ' = [some (.frz (numb e)), some (.frz (kl S.length e.size)), x2, some (.loc S2.length), none]) ∧ S' = S2 ++ [.lst (twRow e (0 + ((List.range e.size).map fun (i : Nat) => D.int ((e.size : Int) - 1 - (i : Int))).length))] := by
    have hix := tw_ix e
    have hbix := tw_bix e S
    have hget := tw_get S
    obtain ⟨δ', S', h1, h2⟩ := loopI_inv (g := gN 2) (body := twB (sem fs k)) (ds := (List.range e.size).map fun (i : Nat) => D.int ((e.size : Int) - 1 - (i : Int))) (k := 0) (δ := [some (.frz (numb e)), some (.frz (kl S.length e.size)), x2, some (.loc S2.length), none]) (S := S2 ++ [.lst (twRow e 0)])
      (P := fun j δ S' => (∃ x2, δ = [some (.frz (numb e)), some (.frz (kl S.length e.size)), x2, some (.loc S2.length), none]) ∧ S' = S2 ++ [.lst (twRow e j)]) ⟨⟨x2, rfl⟩, rfl⟩ (fun i d δ S' hd hP => by
        obtain ⟨⟨x2, rfl⟩, rfl⟩ := hP
        rw [Nat.zero_add]
        have hi : i < e.size := by have := (List.getElem?_eq_some_iff.mp hd).1; rw [List.length_map, List.length_range] at this; exact this
        obtain ⟨at_, hat⟩ : ∃ a : Nat, a + i + 1 = e.size := ⟨e.size - 1 - i, by omega⟩
        have hd' : d = .int (at_ : Int) := by
          rw [List.getElem?_map, List.getElem?_range hi] at hd
          have h9 : D.int ((e.size : Int) - 1 - (i : Int)) = d := Option.some.inj hd
          rw [← h9]
          have h10 : (e.size : Int) - 1 - (i : Int) = (at_ : Int) := by omega
          rw [h10]
        subst hd'
        obtain ⟨p, hp⟩ := Ex.parts_some e (show at_ < e.size by omega)
        obtain ⟨hkk, hks⟩ := Ex.kid_at (q := .non) (b := 0) hp
        rw [Nat.zero_add] at hkk hks
        have hkl : (Ex.starts (at_ + 1) p.kids).length = p.kids.length := Ex.starts_len _ _
        generalize Ex.starts (at_ + 1) p.kids = kk at hkk hks hkl
        have hb := hbix (S2 ++ [.lst (twRow e i)]) at_ (by omega)
        have hb' : atI (kl S.length e.size) (at_ : Int) = some (.loc (S.length + at_)) := atI_nat (kl_get _ _ _ (by omega))
        have hg : (S2 ++ [O.lst (twRow e i)])[S.length + at_]? = some (.lst (kk.map nI)) := by
          rw [← hS2]
          exact hget (Ex.kidN 0 e) _ at_ kk hkk
        have u := uLen_loc hg
        rw [List.length_map] at u
        have ht0 : (S2 ++ [O.lst (twRow e i)])[S2.length]? = some (.lst (twRow e i)) := by rw [app_get0]; rfl
        have htl : (twRow e i).length = e.size := by simp [twRow]
        have stw := fun v => setW_nat (b := S2.length) (i := at_) v ht0 (by rw [htl]; omega)
        have hset : (S2 ++ [O.lst (twRow e i)]).set S2.length (.lst ((twRow e i).set at_ (.bl (Ex.twAt e at_)))) = S2 ++ [.lst (twRow e (i + 1))] := by
          rw [app_set0]
          congr 2
          show [O.lst ((twRow e i).set at_ (.bl (Ex.twAt e at_)))] = _
          congr 2
          apply List.ext_getElem?
          intro x
          by_cases hx : at_ = x
          · subst hx
            rw [List.getElem?_set_self (by rw [htl]; omega)]
            unfold twRow
            rw [List.getElem?_map, List.getElem?_range (by omega)]
            have : decide (e.size - (i + 1) ≤ at_) = true := decide_eq_true (by omega)
            rw [Option.map_some, this, Bool.true_and]
          · rw [List.getElem?_set_ne hx]
            unfold twRow
            rw [List.getElem?_map, List.getElem?_map]
            by_cases hxs : x < e.size
            · rw [List.getElem?_range hxs, Option.map_some, Option.map_some]
              have : decide (e.size - i ≤ x) = decide (e.size - (i + 1) ≤ x) := by
                rw [Bool.eq_iff_iff]; simp; omega
              rw [this]
            · rw [List.getElem?_eq_none (by simpa using hxs)]; rfl
        refine ⟨_, _, _, rfl, .inl ?_, ⟨⟨some (.int (at_ : Int)), rfl⟩, rfl⟩⟩
        have hval : (eOr (eBin (bC eqW) (eUn uLen (eBin bIx (eV 1) (eV 2))) (eC (.int 0))) (eAnd (eBin (bC eqW) (eUn uLen (eBin bIx (eV 1) (eV 2))) (eC (.int 1))) (eBin bIx (eV 3) (eBin bIx (eBin bIx (eV 1) (eV 2)) (eC (.int 0)))))) (sem fs k) [some (.frz (numb e)), some (.frz (kl S.length e.size)), some (.int (at_ : Int)), some (.loc S2.length), none] (S2 ++ [.lst (twRow e i)]) = .ok (.val (.bl (Ex.twAt e at_))) (S2 ++ [.lst (twRow e i)]) := by
          have htw : Ex.twAt e at_ = (p.kids.isEmpty || (decide (p.kids.length = 1) && Ex.allT p.kids)) := by rw [Ex.twAt_of hp, Ex.twg_kids]
          rw [htw]
          simp only [ap_eOr, ap_eAnd, ap_bnd, ap_eBin, ap_eUn, eV_1, eV_2, then_ok, hb, o2R_some, u, ap_eC, bC_ap, eqW_int, Option.map_some, bindW_val, truth_bl]
          match hpk : p.kids, hkl with
          | [], hkl =>
            have : (kk.length : Int) = 0 := by rw [hkl]; rfl
            simp [this]
          | [q], hkl =>
            obtain ⟨s, rfl⟩ : ∃ s, kk = [s] := List.length_eq_one_iff.mp hkl
            obtain ⟨g1, g2, g3, _⟩ := hks 0 s rfl
            rw [hpk] at g3
            have g3' : e.parts[s]? = some q := by rw [Nat.sub_zero] at g3; exact g3
            have hv : bIx (.val (.loc S2.length)) (.val (.int (s : Int))) (S2 ++ [.lst (twRow e i)]) = some (.val (.bl (Ex.twg q))) := by
              rw [bIx_loc ht0]
              have : (twRow e i)[s]? = some (.bl (Ex.twg q)) := by
                unfold twRow
                rw [List.getElem?_map, List.getElem?_range (by omega), Option.map_some, Ex.twAt_of g3', decide_eq_true (by omega)]; rfl
              rw [atI_nat this]; rfl
            have hi0 : bIx (.val (.loc (S.length + at_))) (.val (.int 0)) (S2 ++ [.lst (twRow e i)]) = some (.val (.int (s : Int))) := by
              rw [bIx_loc hg]; rfl
            simp [hb', hi0, hv, Ex.allT]
          | a :: b :: r, hkl =>
            have h0 : ¬ (kk.length : Int) = 0 := by rw [hkl]; simp; omega
            have h1 : ¬ (kk.length : Int) = 1 := by rw [hkl]; simp; omega
            have hne : kk ≠ [] := fun z => by rw [z] at hkl; simp at hkl
            simp [h0, h1, hne]
        rw [← hset]
        simp only [twB, ap_sSetIx, ap_bnd, List.set_cons_succ, List.set_cons_zero, hval, then_ok, bindW_val, thenS_ok, eV_3, eV_2, stw])
    exact ⟨δ', S', h1, h2.1, h2.2⟩
theorem tw_marks0 (T : FT) (nb : List D) (n : Nat) (b x2 : Option D) (S2 : Sto) (hu : uLen (.val (.frz nb)) S2 = some (.val (.int (n : Int)))) (hn : n ≤ 10000) :
    (sAsg 3 (eBin bMul (eLst (lCons (eC (.bl false)) (lNil))) (eUn uLen (eV 0)))) T [some (.frz nb), b, x2, none, none] S2 = .nx [some (.frz nb), b, x2, some (.loc S2.length), none] (S2 ++ [.lst (List.replicate n (.bl false))]) := by
  have l0 : 1 ≤ sizeLine := le_line (by decide)
  have h1 : (eLst (lCons (eC (.bl false)) (lNil))) T [some (.frz nb), b, x2, none, none] S2 = .ok (.tmp (.lst [.bl false])) S2 := by simp [l0]
  have h2 : (eUn uLen (eV 0)) T [some (.frz nb), b, x2, none, none] S2 = .ok (.val (.int (n : Int))) S2 := by
    rw [ap_eUn, eV_0, then_ok, hu]; rfl
  exact sAsg_tmp (eBin_of h1 h2 (bMul_lrep S2 (.bl false) n (n : Int) rfl hn)) (by simp)
theorem L_twigs (e : Ex) (k : Nat) (S : Sto) (hw : e.wf = true) (hs : e.size ≤ 9000) (hk : 1 ≤ k) : sem fs k 26 [.frz (numb e)] S =
    .ok (.val (.tup [.loc (S.length + e.size), .frz (kl S.length e.size)])) (S ++ (Ex.kidN 0 e).map kO ++ [.lst ((List.range e.size).map fun x => .bl (Ex.twAt e x))]) := by
  obtain ⟨k, rfl⟩ : ∃ j, k = j + 1 := ⟨k - 1, by omega⟩
  have ep := Ex.size_pos e
  have hnl := numb_len e
  have l1 := tw_kids e k S hs
  obtain ⟨δ1, S1, hl1, ⟨x2, rfl⟩, rfl⟩ := l1
  have e1 : 1 + (span 1 (e.size - 1)).length = e.size := by rw [span_len]; omega
  rw [e1, Ex.kidJ_all] at hl1
  -- which are twigs
  generalize hS2 : S ++ (Ex.kidN 0 e).map kO = S2 at hl1
  have hS2l : S2.length = S.length + e.size := by rw [← hS2, List.length_append, List.length_map, Ex.kidN_len]
  have l2 := tw_marks e k S S2 x2 hs hS2
  obtain ⟨δ2, S3, hl2, ⟨x3, rfl⟩, rfl⟩ := l2
  have e2 : 0 + ((List.range e.size).map fun (i : Nat) => D.int ((e.size : Int) - 1 - (i : Int))).length = e.size := by simp
  rw [e2] at hl2
  have e3 : twRow e e.size = (List.range e.size).map fun x => .bl (Ex.twAt e x) := by
    unfold twRow
    apply List.map_congr_left
    intro x _
    simp
  rw [e3] at hl2
  have e4 : twRow e 0 = List.replicate e.size (.bl false) := by
    unfold twRow
    rw [List.eq_replicate_iff]
    refine ⟨by simp, fun x hx => ?_⟩
    obtain ⟨y, hy, rfl⟩ := List.mem_map.mp hx
    have := List.mem_range.mp hy
    have h : ¬ e.size ≤ y := by omega
    simp [h]
  rw [e4] at hl2
  have c1 := compI_new (g := gN 4) (T := sem fs k) (δ := [some (.frz (numb e)), none, none, none, none]) (numb e) S fun x _ => ⟨_, rfl⟩
  rw [hnl] at c1
  have hJ : List.replicate e.size (O.lst []) = (Ex.kidJ e 1).map kO := by rw [Ex.kidJ_one]; simp [kO]
  rw [hJ] at c1
  have ir : ∀ S', iRange (eC (.int 1)) (eUn uLen (eV 0)) (sem fs k) [some (.frz (numb e)), some (.frz (kl S.length e.size)), none, none, none] S' = .ok (.items (span 1 (e.size - 1))) S' := fun S' => by
    have h1 : small62 (e.size : Int) = true := small62_ok (by omega)
    have u0 : uLen (.val (.frz (numb e))) S' = some (.val (.int (e.size : Int))) := by
      unfold uLen
      simp [W.any, W.tq, W.lq, hnl]
    have h2 : ((e.size : Int) - 1).toNat = e.size - 1 := by omega
    have h3 : small62 1 = true := by decide
    unfold iRange
    simp [u0, h1, h2, h3]
  have u0 : ∀ S', uLen (.val (.frz (numb e))) S' = some (.val (.int (e.size : Int))) := fun S' => by
    unfold uLen
    simp [W.any, W.tq, W.lq, hnl]
  have l1' : (numb e).length ≤ sizeLine := by rw [hnl]; exact le_line (by omega)
  have dn := down_items e.size (by omega) (lo := eBin bSub (eUn uLen (eV 0)) (eC (.int 1))) (hi := eUn uNeg (eC (.int 1))) (st := eUn uNeg (eC (.int 1))) (T := sem fs k) (δ := [some (.frz (numb e)), some (.frz (kl S.length e.size)), x2, some (.loc S2.length), none]) (S := S2 ++ [.lst (List.replicate e.size (.bl false))]) (by simp [u0]) (by simp [uNeg]) (by simp [uNeg])
  rw [sem_eq (f := ⟨1, 5, m_26⟩) rfl rfl]
  have l0 : 1 ≤ sizeLine := le_line (by decide)
  have l2' : 2 ≤ sizeLine := le_line (by decide)
  have b1 : (sAsg 1 (eZ (eLc (iE (eV 0)) [4] (gN 4) (tYes) (eLst (lNil))))) (sem fs k) [some (.frz (numb e)), none, none, none, none] S = .nx [some (.frz (numb e)), some (.frz (kl S.length e.size)), none, none, none] (S ++ (Ex.kidJ e 1).map kO) := by
    simp [ap_eLc, l1', wipeD, c1]
  have b2 : (sFor (iRange (eC (.int 1)) (eUn uLen (eV 0))) (gN 2) belB) (sem fs k) [some (.frz (numb e)), some (.frz (kl S.length e.size)), none, none, none] (S ++ (Ex.kidJ e 1).map kO) = .nx [some (.frz (numb e)), some (.frz (kl S.length e.size)), x2, none, none] S2 := by
    rw [ap_sFor, ir]
    simp only [thenS_ok]
    exact hl1
  have b3 := tw_marks0 (sem fs k) (numb e) e.size (some (.frz (kl S.length e.size))) x2 S2 (u0 S2) (by omega)
  have b4 : (sFor (iRange3 (eBin bSub (eUn uLen (eV 0)) (eC (.int 1))) (eUn uNeg (eC (.int 1))) (eUn uNeg (eC (.int 1)))) (gN 2) twB) (sem fs k) [some (.frz (numb e)), some (.frz (kl S.length e.size)), x2, some (.loc S2.length), none] (S2 ++ [.lst (List.replicate e.size (.bl false))]) = .nx [some (.frz (numb e)), some (.frz (kl S.length e.size)), x3, some (.loc S2.length), none] (S2 ++ [.lst ((List.range e.size).map fun x => .bl (Ex.twAt e x))]) := by
    rw [ap_sFor, dn]
    simp only [thenS_ok]
    exact hl2
  have hfin : ∀ X : Sto, gc S (.ok (.val (.tup [.loc (S.length + e.size), .frz (kl S.length e.size)])) X) = .ok (.val (.tup [.loc (S.length + e.size), .frz (kl S.length e.size)])) X := fun X => by
    have hc : (D.tup [.loc (S.length + e.size), .frz (kl S.length e.size)]).clean S.length = false := by
      have h1 : (D.loc (S.length + e.size)).clean S.length = false := by rw [D.clean]; exact decide_eq_false (by omega)
      rw [clean_tup, clean_cons, h1]; rfl
    unfold gc
    simp only [hc, Bool.false_eq_true, if_false]
    split <;> rfl
  have b0 : begin ⟨1, 5, m_26⟩ [.frz (numb e)] = [some (.frz (numb e)), none, none, none, none] := rfl
  rw [b0]
  show gc S (MM.fin (m_26 (sem fs k) _ S)) = _
  simp only [m_26]
  rw [ap_sSeq, b1, seq_nx, ap_sSeq, b2, seq_nx, ap_sSeq, b3, seq_nx, ap_sSeq, b4, seq_nx]
  simp only [ap_sRet, ap_eTup, ap_lCons, ap_lNil, ap_bnd, eV_3, eV_1, then_ok, bindW_val, List.length_cons, List.length_nil]
  rw [if_pos (by exact l2'), hS2l]
  simp only [thenS_ok, fin_rt]
  rw [hfin]
/-! ### the law's facts -/
theorem compL_eq {g : Tg} {t : MM.Env → Sto → R Bool} {elt : MM.Env → Sto → R D} {δ : MM.Env} {S : Sto} {n : Nat} {ds : List D} (hn : S[n]? = some (.lst ds)) (h : ∀ d ∈ ds, ∃ δ1 b y, g d δ = some δ1 ∧ t δ1 S = .ok b S ∧ (b = true → elt δ1 S = .ok y S)) :
    ∀ (fuel i : Nat), fuel + i = ds.length → compL g t elt δ n none fuel i S = compI g t elt δ (ds.drop i) S
  | 0, i, hf => by
    unfold compL
    have : ds[i]? = none := List.getElem?_eq_none (by omega)
    rw [List.drop_eq_nil_of_le (by omega)]
    simp [liveAt, hn, this, compI]
  | fuel + 1, i, hf => by
    have hi : i < ds.length := by omega
    obtain ⟨δ1, b, y, h1, h2, h3⟩ := h ds[i] (List.getElem_mem _)
    have ih := compL_eq hn h fuel (i + 1) (by omega)
    rw [List.drop_eq_getElem_cons hi]
    unfold compL compI
    cases b with
    | true => simp only [liveAt, hn, List.getElem?_eq_getElem hi, Option.map_some, h1, h2, h3 rfl, nox_ok, then_ok, if_true, ih]
    | false => simp [liveAt, hn, List.getElem?_eq_getElem hi, h1, h2, ih]
def factD (e : Ex) : D := .tup [.bl (Ex.twg e), .tup ((Ex.whl 0 e).map nI), .tup ((Ex.frk 0 e).map nI), .int (Ex.stk e)]
theorem factD_clean (L : Nat) (e : Ex) : (factD e).clean L = true := by simp [factD, D.clean]
theorem tw_len0 (xs : List Nat) (f : Nat → Bool) : decide (((xs.filter fun x => !f x).length : Int) = 0) = xs.all f := by
  rw [Bool.eq_iff_iff]
  simp
theorem nodup_len {xs : List Nat} {n : Nat} (h1 : xs.Pairwise (· < ·)) (h2 : ∀ x ∈ xs, x < n) : xs.length ≤ n := by
  induction n generalizing xs with
  | zero =>
    cases xs with
    | nil => simp
    | cons a b => exact absurd (h2 a List.mem_cons_self) (by omega)
  | succ n ih =>
    rcases List.eq_nil_or_concat xs with rfl | ⟨ys, y, rfl⟩
    · simp
    · rw [List.concat_eq_append] at h1 h2 ⊢
      rw [List.pairwise_append] at h1
      have := ih h1.1 fun x hx => by
        have a := h1.2.2 x hx y (by simp)
        have b := h2 y (by simp)
        omega
      simp
      omega
theorem L_facts (e : Ex) (k : Nat) (S : Sto) (hw : e.wf = true) (hs : e.size ≤ 9000) (hk : 2 ≤ k) : sem fs k 27 [e.d] S = .ok (.val (factD e)) S := by
  obtain ⟨k, rfl⟩ : ∃ j, k = j + 1 := ⟨k - 1, by omega⟩
  have ep := Ex.size_pos e
  have hnl := numb_len e
  have l1 := L_numbered e k S hw hs (by omega)
  have l2 := L_twigs e k S hw hs (by omega)
  have g1 : gc S (.ok (.tmp (.lst (numb e))) S) = .ok (.tmp (.lst (numb e))) S := by rw [← l1, gc_sem]
  have g2 := gc_sem (fs := fs) (k := k) (i := 26) (ds := [.frz (numb e)]) (S := S)
  rw [l2] at g2
  have hkid : ∀ (m : Nat) (kk : List Nat) (X : Sto), (Ex.kidN 0 e)[m]? = some kk → (S ++ (Ex.kidN 0 e).map kO ++ X)[S.length + m]? = some (kO kk) := fun m kk X h => tw_get S _ X m kk h
  have hkid := fun m kk h => hkid m kk [.lst ((List.range e.size).map fun x => .bl (Ex.twAt e x))] h
  have htl : (S ++ (Ex.kidN 0 e).map kO ++ [O.lst ((List.range e.size).map fun x => .bl (Ex.twAt e x))])[S.length + e.size]? = some (.lst ((List.range e.size).map fun x => .bl (Ex.twAt e x))) := by
    have : S.length + e.size = (S ++ (Ex.kidN 0 e).map kO).length := by rw [List.length_append, List.length_map, Ex.kidN_len]
    rw [this, app_get0]; rfl
  have hX : ∃ X, S ++ (Ex.kidN 0 e).map kO ++ [O.lst ((List.range e.size).map fun x => .bl (Ex.twAt e x))] = S ++ X := ⟨_, List.append_assoc _ _ _⟩
  generalize hS3 : S ++ (Ex.kidN 0 e).map kO ++ [O.lst ((List.range e.size).map fun x => .bl (Ex.twAt e x))] = S3 at l2 g2 hkid htl hX
  obtain ⟨X, hX⟩ := hX
  have tb : ∀ i : Nat, i < e.size → bIx (.val (.loc (S.length + e.size))) (.val (.int (i : Int))) S3 = some (.val (.bl (Ex.twAt e i))) := fun i hi => by
    rw [bIx_loc htl, atI_nat (v := D.bl (Ex.twAt e i)) (by rw [List.getElem?_map, List.getElem?_range hi]; rfl)]; rfl
  have u1 : ∀ S', uLen (.val (.frz (numb e))) S' = some (.val (.int (e.size : Int))) := fun S' => by
    unfold uLen
    simp [W.any, W.tq, W.lq, hnl]
  have r1 : ∀ δ S', iRange1 (eUn uLen (eV 1)) (sem fs k) (some e.d :: some (.frz (numb e)) :: δ) S' = .ok (.items ((List.range e.size).map nI)) S' := fun δ S' => by
    rw [← span0]
    exact range1_ok (n := e.size) (S' := S') (by simp [u1]) (by omega)
  have lr : ((List.range e.size).map nI).length ≤ sizeLine := by rw [List.length_map, List.length_range]; exact le_line (by omega)
  -- the whole twigs
  have c1 : ∀ y4 y5, compI (gN 6) ((tAnd (tE (eBin bIx (eV 2) (eV 6))) (tOr (tCmp cIsN (eBin bIx (eBin bIx (eV 1) (eV 6)) (eC (.int 1))) (eC .non)) (tNot (tE (eBin bIx (eV 2) (eBin bIx (eBin bIx (eV 1) (eV 6)) (eC (.int 1)))))))) (sem fs k)) (bnd (eV 6) (sem fs k)) [some e.d, some (.frz (numb e)), some (.loc (S.length + e.size)), some (.frz (kl S.length e.size)), y4, y5, none, none] ((List.range e.size).map nI) S3 = .ok ((Ex.whl 0 e).map nI) S3 := by
    intro y4 y5
    have := compI_filter (g := gN 6) (t := (tAnd (tE (eBin bIx (eV 2) (eV 6))) (tOr (tCmp cIsN (eBin bIx (eBin bIx (eV 1) (eV 6)) (eC (.int 1))) (eC .non)) (tNot (tE (eBin bIx (eV 2) (eBin bIx (eBin bIx (eV 1) (eV 6)) (eC (.int 1)))))))) (sem fs k)) (elt := bnd (eV 6) (sem fs k)) (S := S3) (enc := nI) (f := nI) (p := fun i => Ex.twAt e i && match (Ex.pars .non 0 e)[i]? with | some (.int q) => !Ex.twAt e q.toNat | _ => true) (xs := List.range e.size) (δ := [some e.d, some (.frz (numb e)), some (.loc (S.length + e.size)), some (.frz (kl S.length e.size)), y4, y5, none, none]) (fun i hi => ⟨_, rfl, by
      have hi := List.mem_range.mp hi
      obtain ⟨p, d, hp, hd, hx⟩ := tw_ix e S3 i hi
      have t1 := tb i hi
      rw [hd]
      rw [bIx_frz] at hx
      rcases Ex.par_at e hd with ⟨_, rfl⟩ | ⟨m, j, kk, hm, rfl, _, _⟩
      · cases htw : Ex.twAt e i with
        | true => rw [htw] at t1; simp [t1, hx, cIsN, isNone]
        | false => rw [htw] at t1; simp [t1]
      · have t2 := tb m (by omega)
        cases htw : Ex.twAt e i with
        | true => rw [htw] at t1; simp [t1, hx, cIsN, isNone, t2]
        | false => rw [htw] at t1; simp [t1], fun _ => by simp⟩)
    rw [this, Ex.whl_range e _ fun i x d hx hd => ?_]
    rw [Ex.twAt_of hx, hd]
    cases d <;> rfl
  -- the forks
  have c2 : ∀ y4 y5, compI (gN 6) ((tAnd (tCmp cGt (eUn uLen (eBin bIx (eV 3) (eV 6))) (eC (.int 1))) (tCmp eqW (eUn uLen (eLc (iE (eBin bIx (eV 3) (eV 6))) [7] (gN 7) (tNot (tE (eBin bIx (eV 2) (eV 7)))) (eV 7))) (eC (.int 0)))) (sem fs k)) (bnd (eV 6) (sem fs k)) [some e.d, some (.frz (numb e)), some (.loc (S.length + e.size)), some (.frz (kl S.length e.size)), y4, y5, none, none] ((List.range e.size).map nI) S3 = .ok ((Ex.frk 0 e).map nI) S3 := by
    intro y4 y5
    have := compI_filter (g := gN 6) (t := (tAnd (tCmp cGt (eUn uLen (eBin bIx (eV 3) (eV 6))) (eC (.int 1))) (tCmp eqW (eUn uLen (eLc (iE (eBin bIx (eV 3) (eV 6))) [7] (gN 7) (tNot (tE (eBin bIx (eV 2) (eV 7)))) (eV 7))) (eC (.int 0)))) (sem fs k)) (elt := bnd (eV 6) (sem fs k)) (S := S3) (enc := nI) (f := nI) (p := fun i => match (Ex.kidN 0 e)[i]? with | some kk => decide (1 < kk.length) && kk.all (Ex.twAt e) | none => false) (xs := List.range e.size) (δ := [some e.d, some (.frz (numb e)), some (.loc (S.length + e.size)), some (.frz (kl S.length e.size)), y4, y5, none, none]) (fun i hi => ⟨_, rfl, by
      have hi := List.mem_range.mp hi
      obtain ⟨kk, hkk⟩ := Ex.kidN_some e hi
      have hx := tw_bix e S S3 i hi
      rw [bIx_frz] at hx
      have hk3 := hkid i kk hkk
      have hk3 : S3[S.length + i]? = some (.lst (kk.map nI)) := hk3
      have ul : uLen (.val (.loc (S.length + i))) S3 = some (.val (.int kk.length)) := by rw [uLen_loc hk3, List.length_map]
      have ln : lenAt (S.length + i) S3 = kk.length := by rw [lenAt_eq hk3, List.length_map]
      have lk : kk.length ≤ sizeLine := by
        have : kk.length ≤ e.size := by
          have h1 := Ex.kidN_up e 0 kk (List.mem_of_getElem? hkk)
          have h2 : ∀ x ∈ kk, x < e.size := fun x hx => (Ex.kid_mem hkk hx).2.1
          exact nodup_len h1 h2
        exact le_line (by omega)
      have cL : compL (gN 7) ((tNot (tE (eBin bIx (eV 2) (eV 7)))) (sem fs k)) (bnd (eV 7) (sem fs k)) [some e.d, some (.frz (numb e)), some (.loc (S.length + e.size)), some (.frz (kl S.length e.size)), y4, y5, some (nI i), none] (S.length + i) none kk.length 0 S3 = .ok ((kk.filter fun s => !Ex.twAt e s).map nI) S3 := by
        rw [compL_eq hk3 (fun d hd => by
          obtain ⟨s, hs2, rfl⟩ := List.mem_map.mp hd
          have hsl := (Ex.kid_mem hkk hs2).2.1
          exact ⟨[some e.d, some (.frz (numb e)), some (.loc (S.length + e.size)), some (.frz (kl S.length e.size)), y4, y5, some (nI i), some (nI s)], !Ex.twAt e s, nI s, rfl, by simp [tb s hsl], fun _ => by simp⟩) kk.length 0 (by simp), List.drop_zero]
        exact compI_filter (enc := nI) (f := nI) (p := fun s => !Ex.twAt e s) fun s hs2 => by
          have hsl := (Ex.kid_mem hkk hs2).2.1
          exact ⟨[some e.d, some (.frz (numb e)), some (.loc (S.length + e.size)), some (.frz (kl S.length e.size)), y4, y5, some (nI i), some (nI s)], rfl, by simp [tb s hsl], fun _ => by simp⟩
      have iE3 : ∀ δ, iE (eBin bIx (eV 3) (eV 6)) (sem fs k) (some e.d :: some (.frz (numb e)) :: some (.loc (S.length + e.size)) :: some (.frz (kl S.length e.size)) :: y4 :: y5 :: some (nI i) :: δ) S3 = .ok (.live (S.length + i) none) S3 := fun δ => by
        simp [hx, hk3]
      have ux : ∀ ds : List D, uLen (.tmp (.lst ds)) S3 = some (.val (.int ds.length)) := fun ds => by
        unfold uLen
        simp [W.any, W.lq, W.tq]
      rw [hkk]
      by_cases h : 1 < kk.length
      · have h' : (1 : Int) < kk.length := by omega
        simp [hx, hk3, ul, h, h', ap_eLc, ln, lk, wipeD, cL, ux]
        rw [Bool.eq_iff_iff]
        simp
      · have h' : ¬ (1 : Int) < kk.length := by omega
        simp [hx, ul, h, h'], fun _ => by simp⟩)
    rw [this, Ex.frk_range e _ fun i kk hk => ?_]
    rw [hk]
  have e0 := tb 0 ep
  have tw0 : Ex.twAt e 0 = Ex.twg e := Ex.twAt_of (by rw [Ex.parts_eq']; rfl)
  rw [tw0] at e0
  have e0 : bIx (.val (.loc (S.length + e.size))) (.val (.int 0)) S3 = some (.val (.bl (Ex.twg e))) := e0
  have ut : ∀ xs : List Nat, uTuple (.val (.frz (xs.map nI))) S3 = some (.val (.tup (xs.map nI))) := fun xs => by
    unfold uTuple
    simp [W.any, W.lq, W.tq]
  have u2 : ∀ xs : List Nat, uLen (.val (.frz (xs.map nI))) S3 = some (.val (.int xs.length)) := fun xs => by
    unfold uLen
    simp [W.any, W.lq, W.tq]
  have l4 : 4 ≤ sizeLine := le_line (by decide)
  have hst : (if Ex.twg e = true then (0 : Int) else ((Ex.whl 0 e).length : Int) - ((Ex.frk 0 e).length : Int)) = Ex.stk e := by
    cases ht : Ex.twg e with
    | true => rw [Ex.stk_twg e hw ht]; rfl
    | false => rw [← Ex.stk_count e hw 0 ht]; rfl
  rw [sem_eq (f := ⟨1, 8, m_27⟩) rfl rfl]
  have a1 : (sAsg 1 (eZ (eCall 25 (lCons (eV 0) (lNil))))) (sem fs k) [some e.d, none, none, none, none, none, none, none] S = .nx [some e.d, some (.frz (numb e)), none, none, none, none, none, none] S := by
    simp [l1, g1]
  have a2 : (sAsgT [2, 3] (eCall 26 (lCons (eV 1) (lNil)))) (sem fs k) [some e.d, some (.frz (numb e)), none, none, none, none, none, none] S = .nx [some e.d, some (.frz (numb e)), some (.loc (S.length + e.size)), some (.frz (kl S.length e.size)), none, none, none, none] S3 := by
    simp [l2, g2, setAll, W.any, W.tq]
  have a3 : (sAsg 4 (eZ (eLc (iRange1 (eUn uLen (eV 1))) [6] (gN 6) (tAnd (tE (eBin bIx (eV 2) (eV 6))) (tOr (tCmp cIsN (eBin bIx (eBin bIx (eV 1) (eV 6)) (eC (.int 1))) (eC .non)) (tNot (tE (eBin bIx (eV 2) (eBin bIx (eBin bIx (eV 1) (eV 6)) (eC (.int 1)))))))) (eV 6)))) (sem fs k) [some e.d, some (.frz (numb e)), some (.loc (S.length + e.size)), some (.frz (kl S.length e.size)), none, none, none, none] S3 = .nx [some e.d, some (.frz (numb e)), some (.loc (S.length + e.size)), some (.frz (kl S.length e.size)), some (.frz ((Ex.whl 0 e).map nI)), none, none, none] S3 := by
    simp only [ap_sAsg, ap_bnd, ap_eZ, ap_eLc, r1, then_ok, lr, if_true, wipeD, List.set_cons_succ, List.set_cons_zero, c1, frzW_lst, bindW_val, thenS_ok, List.length_cons, List.length_nil]
    rw [if_pos (by decide)]
  have a4 : (sAsg 5 (eZ (eLc (iRange1 (eUn uLen (eV 1))) [6] (gN 6) (tAnd (tCmp cGt (eUn uLen (eBin bIx (eV 3) (eV 6))) (eC (.int 1))) (tCmp eqW (eUn uLen (eLc (iE (eBin bIx (eV 3) (eV 6))) [7] (gN 7) (tNot (tE (eBin bIx (eV 2) (eV 7)))) (eV 7))) (eC (.int 0)))) (eV 6)))) (sem fs k) [some e.d, some (.frz (numb e)), some (.loc (S.length + e.size)), some (.frz (kl S.length e.size)), some (.frz ((Ex.whl 0 e).map nI)), none, none, none] S3 = .nx [some e.d, some (.frz (numb e)), some (.loc (S.length + e.size)), some (.frz (kl S.length e.size)), some (.frz ((Ex.whl 0 e).map nI)), some (.frz ((Ex.frk 0 e).map nI)), none, none] S3 := by
    simp only [ap_sAsg, ap_bnd, ap_eZ, ap_eLc, r1, then_ok, lr, if_true, wipeD, List.set_cons_succ, List.set_cons_zero, c2, frzW_lst, bindW_val, thenS_ok, List.length_cons, List.length_nil]
    rw [if_pos (by decide)]
  have a5 : (sRet (eTup (lCons (eBin bIx (eV 2) (eC (.int 0))) (lCons (eUn uTuple (eV 4)) (lCons (eUn uTuple (eV 5)) (lCons (eIf (tE (eBin bIx (eV 2) (eC (.int 0)))) (eC (.int 0)) (eBin bSub (eUn uLen (eV 4)) (eUn uLen (eV 5)))) (lNil))))))) (sem fs k) [some e.d, some (.frz (numb e)), some (.loc (S.length + e.size)), some (.frz (kl S.length e.size)), some (.frz ((Ex.whl 0 e).map nI)), some (.frz ((Ex.frk 0 e).map nI)), none, none] S3 = .rt (.val (factD e)) S3 := by
    cases ht : Ex.twg e with
    | true =>
      rw [ht] at e0 hst
      simp [e0, ut, l4, factD, ht]
      simpa using hst
    | false =>
      rw [ht] at e0 hst
      simp [e0, ut, u2, l4, factD, ht]
      simpa using hst
  have hb : m_27 (sem fs k) [some e.d, none, none, none, none, none, none, none] S = .rt (.val (factD e)) S3 := by
    unfold m_27
    rw [ap_sSeq, a1, seq_nx, ap_sSeq, a2, seq_nx, ap_sSeq, a3, seq_nx, ap_sSeq, a4, seq_nx, a5]
  show gc S (MM.fin (m_27 (sem fs k) [some e.d, none, none, none, none, none, none, none] S)) = _
  rw [hb]
  simp only [fin_rt]
  rw [hX]
  exact gc_val _ (factD_clean _ _)
/-! ### draws -/
theorem atI_end (xs : List D) (x : D) : atI (xs ++ [x]) (-1) = some x := by
  have h : ixN (xs ++ [x]).length (-1) = some xs.length := by
    unfold ixN
    simp
    omega
  unfold atI
  rw [h]
  simp
theorem shL_inj : ∀ L c m n, (shL.f c m n).clean L = true → c < L := fun L c m n h => by simpa [shL, D.clean] using h
theorem L_snap (k : Nat) (S : Sto) (b c : Nat) (m : Int) (h : Rill shL b c S) (hm : 0 < m) (hm2 : m < 18446744073709551616) (hk : 1 ≤ k) : ∃ r S', sem fs k 21 [.loc b, .int m] S = .ok (.val (.int r)) S' ∧ 0 ≤ r ∧ r < m ∧ Rill shL b c S' ∧ Oth b c S S' := by
  obtain ⟨k, rfl⟩ : ∃ j, k = j + 1 := ⟨k - 1, by omega⟩
  have h0 := h
  obtain ⟨w, n, gs, h1, h2, h3, h4⟩ := h
  have hb := h0.lt.1
  have hc := h0.lt.2
  have h1 : S[b]? = some (.lst [.loc c, .int w, .int n]) := h1
  rw [sem_eq (f := ⟨2, 3, m_21⟩) rfl rfl]
  have ix0 : ∀ S' : Sto, S'[b]? = some (.lst [.loc c, .int w, .int n]) → bIx (.val (.loc b)) (.val (.int 0)) S' = some (.val (.loc c)) := fun S' e => by rw [bIx_loc e]; rfl
  have mx : (if (2 : Int) > m then 2 else m) > 0 ∧ (if (2 : Int) > m then 2 else m) < 18446744073709551616 := by split <;> omega
  have bm : ∀ S, bMax2 (.val (.int m)) (.val (.int 2)) S = some (.val (.int (if (2 : Int) > m then 2 else m))) := fun S => rfl
  generalize (if (2 : Int) > m then 2 else m) = mm at mx bm
  rcases List.eq_nil_or_concat gs with rfl | ⟨g, x, rfl⟩
  · have ix2 : bIx (.val (.loc b)) (.val (.int 2)) S = some (.val (.int n)) := by rw [bIx_loc h1]; rfl
    have tr : (MM.W.val (.loc c)).truth S = some false := by unfold MM.W.truth; simp [W.any, W.lq, W.tq, h2]
    have s1 : ∀ v, setW (.val (.loc b)) (.val (.int 2)) v S = some (S.set b (.lst [.loc c, .int w, v])) := fun v => by simp [setW, h1, ixN]
    have g1 : (S.set b (.lst [.loc c, .int w, .int (n + 1)]))[b]? = some (.lst [.loc c, .int w, .int (n + 1)]) := List.getElem?_set_self hb
    have ix1 : bIx (.val (.loc b)) (.val (.int 1)) (S.set b (.lst [.loc c, .int w, .int (n + 1)])) = some (.val (.int w)) := by rw [bIx_loc g1]; rfl
    have ix22 : bIx (.val (.loc b)) (.val (.int 2)) (S.set b (.lst [.loc c, .int w, .int (n + 1)])) = some (.val (.int (n + 1))) := by rw [bIx_loc g1]; rfl
    have s2 : ∀ v, setW (.val (.loc b)) (.val (.int 1)) v (S.set b (.lst [.loc c, .int w, .int (n + 1)])) = some (S.set b (.lst [.loc c, v, .int (n + 1)])) := fun v => by simp [setW, g1, ixN]
    have ix3 : ∀ v, bIx (.val (.loc b)) (.val (.int 1)) (S.set b (.lst [.loc c, v, .int (n + 1)])) = some (.val v) := fun v => by rw [bIx_loc (List.getElem?_set_self hb)]; rfl
    have r1 : Rill shL b c (S.set b (.lst [.loc c, .int ((w * 29017 + (n + 1) * 5801 + 11) % 998244223), .int (n + 1)])) := ⟨_, _, [], List.getElem?_set_self hb, by rw [List.getElem?_set_ne h4]; exact h2, by simp, h4⟩
    obtain ⟨S2, e2, r2, o2⟩ := gc_draw (d := .int ((w * 29017 + (n + 1) * 5801 + 11) % 998244223 / 41 % m)) h0 r1 (fun i _ h1 h2 => (Oth.set (.inl rfl)).2 i h1 h2) (by simp) (by simp)
    refine ⟨(w * 29017 + (n + 1) * 5801 + 11) % 998244223 / 41 % m, S2, ?_, Int.emod_nonneg _ (by omega), Int.emod_lt_of_pos _ hm, r2, o2⟩
    rw [← e2]
    simp [m_21, ix0 S h1, tr, ix2, s1, ix1, ix22, s2, ix3, bMul_r, bMul_l, hm]
  · rw [List.concat_eq_append] at h2 h3
    rw [List.length_append, List.length_singleton] at h3
    rw [List.map_append, List.map_cons, List.map_nil] at h2
    have tr : (MM.W.val (.loc c)).truth S = some true := by unfold MM.W.truth; simp [W.any, W.lq, W.tq, h2]
    have pop : fPop (.val (.loc c)) S = some (.val (.int x), S.set c (.lst (g.map D.int))) := pop_loc h2
    have ix : bIx (.val (.loc c)) (.val (.int (-1))) S = some (.val (.int x)) := by rw [bIx_loc h2, atI_end]; rfl
    have st : ∀ v, setW (.val (.loc c)) (.val (.int (-1))) v S = some (S.set c (.lst (g.map D.int ++ [v]))) := fun v => by
      have hx : ixN (g.map D.int ++ [D.int x]).length (-1) = some g.length := by
        unfold ixN
        simp
        omega
      unfold setW
      simp only [h2, hx, Option.map_some]
      rw [List.set_append_right _ _ (by simp)]
      simp
    by_cases hx : x < mm
    · have r1 : Rill shL b c (S.set c (.lst (g.map D.int))) := ⟨w, n, g, by rw [List.getElem?_set_ne (Ne.symm h4)]; exact h1, List.getElem?_set_self hc, by omega, h4⟩
      obtain ⟨S2, e2, r2, o2⟩ := gc_draw (d := .int (x % m)) h0 r1 (fun i _ h1 h2 => (Oth.set (.inr rfl)).2 i h1 h2) (by simp) (by simp)
      refine ⟨x % m, S2, ?_, Int.emod_nonneg _ (by omega), Int.emod_lt_of_pos _ hm, r2, o2⟩
      rw [← e2]
      simp [m_21, ix0 S h1, tr, uNeg, ix, bm, hx, pop, hm]
    · have r1 : Rill shL b c (S.set c (.lst (g.map D.int ++ [.int (x / mm)]))) := ⟨w, n, g ++ [x / mm], by rw [List.getElem?_set_ne (Ne.symm h4)]; exact h1, by rw [List.map_append]; exact List.getElem?_set_self hc, by rw [List.length_append, List.length_singleton]; omega, h4⟩
      obtain ⟨S2, e2, r2, o2⟩ := gc_draw (d := .int (x % m)) h0 r1 (fun i _ h1 h2 => (Oth.set (.inr rfl)).2 i h1 h2) (by simp) (by simp)
      refine ⟨x % m, S2, ?_, Int.emod_nonneg _ (by omega), Int.emod_lt_of_pos _ hm, r2, o2⟩
      rw [← e2]
      have bd := bDiv_64 (S := S) x mm mx.1 mx.2
      simp [m_21, ix0 S h1, tr, uNeg, ix, bm, hx, bd, st, hm]
theorem L_branch (k : Nat) (ns : List Int) (hk : 1 ≤ k) : ∃ (m : Int) (gs : List Int), gs.length ≤ 58 ∧ sem fs k 20 [.scr (ns.map D.int)] [] = .ok (.tmp (shL.f 0 m 0)) [.lst (gs.map D.int)] := by
  obtain ⟨k, rfl⟩ : ∃ j, k = j + 1 := ⟨k - 1, by omega⟩
  have hcut : cut (ns.map D.int) none (some (58 : Int)) = (ns.take 58).map D.int := by
    have := cut_to (ns.map D.int) 58
    rw [List.map_take]
    exact this
  obtain ⟨P, hP, hP0⟩ : ∃ P : Int, (∀ S, bShl (.val (.int 1)) (.val (.int 1650)) S = some (.val (.int P))) ∧ 0 < P := by
    refine ⟨1 * 2 ^ 1650, fun S => ?_, by rw [Int.one_mul]; exact Int.pow_pos (by decide)⟩
    unfold bShl
    dsimp only
    rw [if_pos ⟨by decide, by decide, by decide⟩]
    rfl
  have hpow : ∀ S, bPow (.val (.int 10)) (.val (.int 18)) S = some (.val (.int 1000000000000000000)) := fun S => rfl
  have loop : ∀ (xs : List Int) (gs : List Int) (m : Int) (x3 x4 : Option D), gs.length + xs.length ≤ 58 → ∃ (gs' : List Int) (m' : Int) (y3 y4 : Option D), gs'.length ≤ 58 ∧
      loopI (gN 3) ((sSeq (sAsg 4 (eBin bMod (eUn uAbs (eUn uInt (eV 3))) (eBin bShl (eC (.int 1)) (eC (.int 1650))))) (sSeq (sAsg 2 (eBin bMod (eBin bAdd (eBin bAdd (eBin bMul (eV 2) (eC (.int 52009))) (eBin bMod (eUn uInt (eV 4)) (eC (.int 1000609)))) (eC (.int 29))) (eC (.int 998244223)))) (sIf (tCmp cGe (eV 4) (eBin bPow (eC (.int 10)) (eC (.int 18)))) (sE (eIns (eV 1) (eC (.int 0)) (eV 4))) (sNil)))) (sem fs k)) (xs.map D.int) [some (.scr (ns.map D.int)), some (.loc 0), some (.int m), x3, x4] [.lst (gs.map D.int)] =
      .nx [some (.scr (ns.map D.int)), some (.loc 0), some (.int m'), y3, y4] [.lst (gs'.map D.int)] := by
    intro xs
    induction xs with
    | nil => intro gs m x3 x4 hl; exact ⟨gs, m, x3, x4, by simpa using hl, rfl⟩
    | cons x xs ih =>
      intro gs m x3 x4 hl
      rw [List.length_cons] at hl
      obtain ⟨v, hv⟩ : ∃ v : Int, (if x < 0 then -x else x) % P = v := ⟨_, rfl⟩
      obtain ⟨mm, hmm⟩ : ∃ mm : Int, (m * 52009 + v % 1000609 + 29) % 998244223 = mm := ⟨_, rfl⟩
      by_cases hx : (1000000000000000000 : Int) ≤ v
      · obtain ⟨gs', m', y3, y4, i2, i3⟩ := ih (v :: gs) mm (some (.int x)) (some (.int v)) (by simp; omega)
        refine ⟨gs', m', y3, y4, i2, ?_⟩
        have lg : gs.length < sizeLine := lt_line (by omega)
        have ins : (eIns (eV 1) (eC (.int 0)) (eV 4)) (sem fs k) [some (.scr (ns.map D.int)), some (.loc 0), some (.int mm), some (.int x), some (.int v)] [O.lst (gs.map D.int)] = .ok (.val .non) [O.lst ((v :: gs).map D.int)] := by
          have s0 : small62 0 = true := by decide
          have il : isL (.val (.loc 0)) [O.lst (gs.map D.int)] = true := isL_loc rfl
          unfold eIns
          simp [il, lg, s0]
        rw [List.map_cons]
        rw [← i3]
        simp [loopI, gN, bMul_r, hP, hP0, hv, hmm, hpow, hx, ins]
      · obtain ⟨gs', m', y3, y4, i2, i3⟩ := ih gs mm (some (.int x)) (some (.int v)) (by omega)
        refine ⟨gs', m', y3, y4, i2, ?_⟩
        rw [List.map_cons]
        rw [← i3]
        simp [loopI, gN, bMul_r, hP, hP0, hv, hmm, hpow, hx]
  obtain ⟨gs', m', y3, y4, i2, i3⟩ := loop (ns.take 58) [] 21577 none none (by simp; omega)
  refine ⟨m', gs', i2, ?_⟩
  rw [sem_eq (f := ⟨1, 5, m_20⟩) rfl rfl]
  have sc : ∀ S, slW (.val (.scr (ns.map D.int))) none (some 58) S = some (.tmp (.lst (cut (ns.map D.int) none (some 58)))) := fun S => rfl
  rw [List.map_take] at i3
  rw [List.map_take] at hcut
  simp only [List.map_nil] at i3
  simp [m_20, setAll, ap_sFor, sc, hcut, le_line, i3]
  unfold gc
  simp [shL, D.clean]
theorem lfNot : Ex.isLeafW (Str.ofString "not") = false := by decide +kernel
theorem lfNeg : Ex.isLeafW (Str.ofString "neg") = false := by decide +kernel
theorem lfHalf : Ex.isLeafW (Str.ofString "half") = false := by decide +kernel
/-- one leaf under one-operand words -/
def TwE (n : Nat) (e : Ex) : Prop := e.wf = true ∧ Ex.twg e = true ∧ e.size = n ∧ e.depth = n
theorem twE_leaf {e : Ex} (h : e = .yes ∨ e = .no ∨ (∃ s, e = .name s) ∨ ∃ i, e = .num i) : TwE 1 e := by
  rcases h with rfl | rfl | ⟨s, rfl⟩ | ⟨i, rfl⟩ <;> exact ⟨rfl, rfl, rfl, rfl⟩
theorem twE_op {n : Nat} {e : Ex} (w : Str) (hw : Ex.isLeafW w = false) (h : TwE n e) : TwE (n + 1) (.op w [e]) := by
  obtain ⟨h1, h2, h3, h4⟩ := h
  refine ⟨by simp [Ex.wf, Ex.wfL, hw, h1], by simp [Ex.twg, Ex.twgL, h2], by simp [Ex.size, Ex.sizeL, h3, Nat.add_comm], by simp [Ex.depth, Ex.depthL, h4, Nat.add_comm]⟩
theorem L_twig (t : Bool) (k : Nat) (S : Sto) (b c : Nat) (i : Int) (n : Nat) (hi : i = n) (R : Rill shL b c S) (h1 : 1 ≤ n) (h2 : n ≤ 100) (hk : 2 ≤ k) : ∃ e S', sem fs k 23 [.loc b, .bl t, .int i] S = .ok (.val (Ex.d e)) S' ∧ TwE n e ∧ Rill shL b c S' ∧ Oth b c S S' := by
  subst hi
  obtain ⟨k, rfl⟩ : ∃ j, k = j + 1 := ⟨k - 1, by omega⟩
  have l0 : 1 ≤ sizeLine := le_line (by decide)
  have l2 : 2 ≤ sizeLine := le_line (by decide)
  have l3 : 3 ≤ sizeLine := le_line (by decide)
  -- the leaf
  have lf : ∃ e S1, (sIf (tE (eV 1)) (sAsg 3 (eBin bIx (eTup (lCons (eTup (lCons (eC (.str (Str.ofString "yes"))) (lNil))) (lCons (eTup (lCons (eC (.str (Str.ofString "no"))) (lNil))) (lNil)))) (eCall 21 (lCons (eV 0) (lCons (eC (.int 2)) (lNil)))))) (sAsg 3 (eBin bIx (eTup (lCons (eTup (lCons (eC (.str (Str.ofString "name"))) (lCons (eC (.str (Str.ofString "v"))) (lNil)))) (lCons (eTup (lCons (eC (.str (Str.ofString "num"))) (lCons (eC (.int 12)) (lNil)))) (lCons (eTup (lCons (eC (.str (Str.ofString "name"))) (lCons (eC (.str (Str.ofString "twig"))) (lNil)))) (lNil))))) (eCall 21 (lCons (eV 0) (lCons (eC (.int 3)) (lNil))))))) (sem fs k) [some (.loc b), some (.bl t), some (.int n), none, none] S =
      .nx [some (.loc b), some (.bl t), some (.int n), some (Ex.d e), none] S1 ∧ TwE 1 e ∧ Rill shL b c S1 ∧ Oth b c S S1 := by
    cases t with
    | true =>
      obtain ⟨r, S1, e1, a1, b1, R1, O1⟩ := L_snap k S b c 2 R (by omega) (by omega) (by omega)
      obtain ⟨x, hx, hm⟩ := atI_mem (xs := [D.tup [.str (Str.ofString "yes")], .tup [.str (Str.ofString "no")]]) a1 (by simpa using b1)
      obtain ⟨e, rfl, he⟩ : ∃ e : Ex, x = e.d ∧ TwE 1 e := by
        simp only [List.mem_cons, List.not_mem_nil, or_false] at hm
        rcases hm with rfl | rfl
        · exact ⟨.yes, rfl, twE_leaf (.inl rfl)⟩
        · exact ⟨.no, rfl, twE_leaf (.inr (.inl rfl))⟩
      refine ⟨e, S1, ?_, he, R1, O1⟩
      simp [e1, hx, l0, l2, gc_len, O1.1]
    | false =>
      obtain ⟨r, S1, e1, a1, b1, R1, O1⟩ := L_snap k S b c 3 R (by omega) (by omega) (by omega)
      obtain ⟨x, hx, hm⟩ := atI_mem (xs := [D.tup [.str (Str.ofString "name"), .str (Str.ofString "v")], .tup [.str (Str.ofString "num"), .int 12], .tup [.str (Str.ofString "name"), .str (Str.ofString "twig")]]) a1 (by simpa using b1)
      obtain ⟨e, rfl, he⟩ : ∃ e : Ex, x = e.d ∧ TwE 1 e := by
        simp only [List.mem_cons, List.not_mem_nil, or_false] at hm
        rcases hm with rfl | rfl | rfl
        · exact ⟨.name _, rfl, twE_leaf (.inr (.inr (.inl ⟨_, rfl⟩)))⟩
        · exact ⟨.num 12, rfl, twE_leaf (.inr (.inr (.inr ⟨_, rfl⟩)))⟩
        · exact ⟨.name _, rfl, twE_leaf (.inr (.inr (.inl ⟨_, rfl⟩)))⟩
      refine ⟨e, S1, ?_, he, R1, O1⟩
      simp [e1, hx, l2, l3, gc_len, O1.1]
  obtain ⟨e, S1, e1, w1, R1, O1⟩ := lf
  have hloop := loopI_inv (g := gN 4) (body := (sAsg 3 (eIf (tE (eV 1)) (eTup (lCons (eC (.str (Str.ofString "not"))) (lCons (eV 3) (lNil)))) (eTup (lCons (eBin bIx (eTup (lCons (eC (.str (Str.ofString "neg"))) (lCons (eC (.str (Str.ofString "half"))) (lNil)))) (eCall 21 (lCons (eV 0) (lCons (eC (.int 2)) (lNil))))) (lCons (eV 3) (lNil)))))) (sem fs k)) (ds := span 0 (n - 1)) (k := 0)
    (P := fun i δ S' => ∃ e x, δ = [some (.loc b), some (.bl t), some (.int n), some (Ex.d e), x] ∧ TwE (i + 1) e ∧ Rill shL b c S' ∧ Oth b c S S') (δ := [some (.loc b), some (.bl t), some (.int n), some e.d, none]) (S := S1) ⟨e, none, rfl, w1, R1, O1⟩
    (fun i d δ S' hi ⟨e, x, hδ, w, R, O⟩ => by
      subst hδ
      obtain ⟨rfl, hlt⟩ := span_get hi
      cases t with
      | true =>
        refine ⟨_, [some (.loc b), some (.bl true), some (.int n), some (Ex.d (.op (Str.ofString "not") [e])), some (.int i)], S', rfl, .inl ?_, .op (Str.ofString "not") [e], _, rfl, twE_op _ lfNot w, R, O⟩
        simp [l2, Ex.d_op1]
      | false =>
        obtain ⟨r, S3, e3, a3, b3, R3, O3⟩ := L_snap k S' b c 2 R (by omega) (by omega) (by omega)
        obtain ⟨x, hx, hm⟩ := atI_mem (xs := [D.str (Str.ofString "neg"), .str (Str.ofString "half")]) a3 (by simpa using b3)
        obtain ⟨z, rfl, hz⟩ : ∃ z, x = .str z ∧ Ex.isLeafW z = false := by
          simp only [List.mem_cons, List.not_mem_nil, or_false] at hm
          rcases hm with rfl | rfl
          · exact ⟨_, rfl, lfNeg⟩
          · exact ⟨_, rfl, lfHalf⟩
        refine ⟨_, [some (.loc b), some (.bl false), some (.int n), some (Ex.d (.op z [e])), some (.int i)], S3, rfl, .inl ?_, .op z [e], _, rfl, twE_op _ hz w, R3, O.trans O3⟩
        simp [e3, hx, l2, Ex.d_op1, gc_len, O3.1])
  obtain ⟨δ', S', e4, e5, x, rfl, w, R, O⟩ := hloop
  rw [span_len, Nat.zero_add, show n - 1 + 1 = n by omega] at w
  refine ⟨e5, S', ?_, w, R, O⟩
  rw [sem_eq (f := ⟨3, 5, m_23⟩) rfl rfl]
  have r1 : ∀ δ S, iRange1 (eBin bSub (eV 2) (eC (.int 1))) (sem fs k) (some (.loc b) :: some (.bl t) :: some (.int n) :: δ) S = .ok (.items (span 0 (n - 1))) S := fun δ S => range1_ok (n := n - 1) (S' := S) (by simp; omega) (by omega)
  show gc S (MM.fin (m_23 (sem fs k) [some (.loc b), some (.bl t), some (.int n), none, none] S)) = _
  unfold m_23; rw [ap_sSeq, e1, seq_nx, ap_sSeq, sFor_items (r1 _ _), e4]
  simp [gc_len, O.1]
/-! ### the law's sum -/
def smv (e : Ex) : Int := if Ex.twg e = true then -1 else Ex.stk e
theorem smv_max (e : Ex) (hw : e.wf = true) : (if smv e > 1 then smv e else 1) = if Ex.stk e > 1 then Ex.stk e else 1 := by
  unfold smv
  cases ht : Ex.twg e with
  | true => rw [Ex.stk_twg e hw ht]; rfl
  | false => rfl
theorem smv_one (e : Ex) (hw : e.wf = true) : -1 ≤ smv e ∧ (smv e = -1 ↔ Ex.twg e = true) := by
  unfold smv
  cases ht : Ex.twg e with
  | true => simp
  | false =>
    have := Ex.stk_pos e hw ht
    simp only [Bool.false_eq_true, if_false, iff_false]
    omega
theorem smv_stk (e : Ex) (hw : e.wf = true) : (if smv e > 0 then smv e else 0) = Ex.stk e := by
  unfold smv
  cases ht : Ex.twg e with
  | true => rw [Ex.stk_twg e hw ht]; rfl
  | false =>
    have := Ex.stk_pos e hw ht
    simp only [Bool.false_eq_true, if_false]
    rw [if_pos (by omega)]
theorem maxI_smv : ∀ ks : List Ex, ks ≠ [] → Ex.wfL ks = true → ∃ M, maxI (ks.map smv) = some M ∧ -1 ≤ M ∧ (M = -1 ↔ Ex.allT ks = true)
  | [], h, _ => absurd rfl h
  | [k], _, h => by
    rw [Ex.wfL, Bool.and_eq_true] at h
    have := smv_one k h.1
    exact ⟨smv k, rfl, this.1, by rw [this.2]; simp [Ex.allT]⟩
  | k :: k2 :: ks, _, h => by
    rw [Ex.wfL, Bool.and_eq_true] at h
    obtain ⟨M, h1, h2, h3⟩ := maxI_smv (k2 :: ks) (by simp) h.2
    obtain ⟨h4, h5⟩ := smv_one k h.1
    refine ⟨if smv k < M then M else smv k, ?_, by split <;> omega, ?_⟩
    · have : maxI ((k :: k2 :: ks).map smv) = (maxI ((k2 :: ks).map smv)).map fun m => if smv k < m then m else smv k := rfl
      rw [this, h1]; rfl
    · rw [Ex.allT, Bool.and_eq_true, ← h3, ← h5]
      split <;> omega
theorem sum_smv : ∀ ks : List Ex, Ex.wfL ks = true → (ks.map fun x => if smv x > 1 then smv x else 1).sum = Ex.stkS ks
  | [], _ => rfl
  | k :: ks, h => by
    rw [Ex.wfL, Bool.and_eq_true] at h
    rw [List.map_cons, List.sum_cons, sum_smv ks h.2, Ex.stkS, smv_max k h.1]
theorem L_sum : ∀ e : Ex, ∀ (k : Nat) (S : Sto), e.wf = true → e.size ≤ 9000 → e.depth ≤ k → sem fs k 28 [e.d] S = .ok (.val (.int (smv e))) S := by
  have l4 : 4 ≤ sizeLine := le_line (by decide)
  have hin := fun w (S : Sto) => inW_leaf w S
  refine Ex.ind (fun i k S hw hs hk => ?_) (fun i k S hw hs hk => ?_) (fun k S hw hs hk => ?_) (fun k S hw hs hk => ?_) fun w ks ih k S hw hs hk => ?_
  all_goals (have hkp : 1 ≤ k := by (simp only [Ex.depth] at hk; omega)); (obtain ⟨k, rfl⟩ : ∃ j, k = j + 1 := ⟨k - 1, by omega⟩); rw [sem_eq (f := ⟨1, 3, m_28⟩) rfl rfl]
  · simp [m_28, Ex.d, hin, lfNum, l4, uNeg, smv, Ex.twg]
  · simp [m_28, Ex.d, hin, lfNam, l4, uNeg, smv, Ex.twg]
  · simp [m_28, Ex.d, hin, lfYes, l4, uNeg, smv, Ex.twg]
  · simp [m_28, Ex.d, hin, lfNo, l4, uNeg, smv, Ex.twg]
  · have hwf := hw
    rw [Ex.wf, Bool.and_eq_true, Bool.and_eq_true, Bool.not_eq_true'] at hwf
    have wl : Ex.isLeafW w = false := hwf.1.1
    have wk : Ex.wfL ks = true := hwf.2
    have lks : ks.length ≤ 9000 := by
      have := Ex.length_le_sizeL ks
      rw [Ex.size] at hs
      omega
    have ll : ks.length ≤ sizeLine := le_line (by omega)
    have hkd := (Ex.depthL_le (ks := ks) (n := Ex.depthL ks)).mp (Nat.le_refl _)
    have c1 : ∀ (S : Sto) d, compI (gN 2) (tYes (sem fs k)) (bnd (eZ (eCall 28 (lCons (eV 2) (lNil)))) (sem fs k)) [some d, none, none] (ks.map Ex.d) S = .ok (ks.map fun x => D.int (smv x)) S := fun S d =>
      compI_map (enc := Ex.d) (f := fun x => D.int (smv x)) fun y hy => ⟨[some d, none, some y.d], rfl, rfl, by
        have := ih y hy k S (Ex.wfL_mem wk y hy) (by have := Ex.sizeL_mem hy; rw [Ex.size] at hs; omega) (by have := hkd y hy; rw [Ex.depth] at hk; omega)
        simp [this]⟩
    have e1 : (Ex.op w ks).d = .tup (.str w :: ks.map Ex.d) := Ex.d_opL w ks
    have c1' := c1 S (Ex.op w ks).d
    have ul : uLen (.val (.frz (ks.map fun x => D.int (smv x)))) S = some (.val (.int ks.length)) := by
      unfold uLen
      simp [W.any, W.lq, W.tq]
    have p1 : (sIf (tCmp inW (eBin bIx (eV 0) (eC (.int 0))) (eTup (lCons (eC (.str (Str.ofString "num"))) (lCons (eC (.str (Str.ofString "name"))) (lCons (eC (.str (Str.ofString "yes"))) (lCons (eC (.str (Str.ofString "no"))) (lNil))))))) (sRet (eUn uNeg (eC (.int 1)))) (sNil)) (sem fs k) [some (Ex.op w ks).d, none, none] S = .nx [some (Ex.op w ks).d, none, none] S := by
      rw [e1]
      simp [hin, wl, l4]
    have p2 : (sAsg 1 (eZ (eLc (iE (eSl (eV 0) (some (eC (.int 1))) none)) [2] (gN 2) (tYes) (eZ (eCall 28 (lCons (eV 2) (lNil))))))) (sem fs k) [some (Ex.op w ks).d, none, none] S = .nx [some (Ex.op w ks).d, some (.frz (ks.map fun x => D.int (smv x))), none] S := by
      rw [e1] at c1' ⊢
      simp [ap_eLc, wipeD, ll, c1']
    have goal : ∀ (d : D), (sSeq (sIf (tCmp eqW (eUn uLen (eV 1)) (eC (.int 1))) (sRet (eBin bIx (eV 1) (eC (.int 0)))) (sNil)) (sRet (eBin bSub (eUn uSum (eLc (iE (eV 1)) [2] (gN 2) (tYes) (eZ (eBin bMax2 (eC (.int 1)) (eV 2))))) (eUn uInt (eBin (bC eqW) (eUn uMax (eV 1)) (eUn uNeg (eC (.int 1)))))))) (sem fs k) [some d, some (.frz (ks.map fun x => D.int (smv x))), none] S = .rt (.val (.int (smv (.op w ks)))) S := by
      intro d
      match ks, hwf, wk, lks, ll, ul with
      | [], hwf, _, _, _, _ => simp at hwf
      | [x], hwf, wk, lks, ll, ul =>
        have hx : x.wf = true := Ex.wfL_mem wk x List.mem_cons_self
        have : smv (.op w [x]) = smv x := by
          unfold smv
          rw [Ex.twg, Ex.twgL]
          simp only [List.isEmpty_nil, Bool.true_and]
          cases ht : Ex.twg x with
          | true => rfl
          | false =>
            have h3 := Ex.stk_pos x hx ht
            have : ¬ Ex.stk x = 0 := by omega
            rw [Ex.stk, Ex.stkS, Ex.stkS, Ex.stkZ, Ex.stkZ]
            simp only [this, decide_false, Bool.false_and, Bool.false_eq_true, if_false]
            split <;> omega
        rw [this]
        simp [uLen, W.any, W.lq, W.tq]
      | x :: y :: ks, hwf, wk, lks, ll, ul =>
        generalize hz : x :: y :: ks = zs at *
        have hzl : 2 ≤ zs.length := by rw [← hz]; simp
        have htw : Ex.twg (.op w zs) = false := by rw [← hz, Ex.twg, Ex.twgL]; rfl
        have hs1 : smv (.op w zs) = Ex.stkS zs - (if Ex.allT zs = true then 1 else 0) := by
          unfold smv
          rw [htw, Ex.stk, Ex.stkZ_allT zs wk]
          rfl
        obtain ⟨M, m1, m2, m3⟩ := maxI_smv zs (by rw [← hz]; simp) wk
        have ai : allInts (zs.map fun x => D.int (smv x)) = some (zs.map smv) := allInts_map _ zs
        have um : uMax (.val (.frz (zs.map fun x => D.int (smv x)))) S = some (.val (.int M)) := by
          unfold uMax
          simp only [W.lq]
          rw [ai]
          simp only [m1, Option.map_some]
        have c2 : ∀ d, compI (gN 2) (tYes (sem fs k)) (bnd (eZ (eBin bMax2 (eC (.int 1)) (eV 2))) (sem fs k)) [some d, some (.frz (zs.map fun x => D.int (smv x))), none] (zs.map fun x => D.int (smv x)) S = .ok (zs.map fun x => D.int (if smv x > 1 then smv x else 1)) S := fun d =>
          compI_map (enc := fun x => D.int (smv x)) (f := fun x => D.int (if smv x > 1 then smv x else 1)) fun x hx => ⟨[some d, some (.frz (zs.map fun x => D.int (smv x))), some (.int (smv x))], rfl, rfl, rfl⟩
        have us : ∀ S, uSum (.tmp (.lst (zs.map fun x => D.int (if smv x > 1 then smv x else 1)))) S = some (.val (.int (Ex.stkS zs))) := by
          intro S
          unfold uSum
          have h1 : allInts (zs.map fun x => D.int (if smv x > 1 then smv x else 1)) = some (zs.map fun x => if smv x > 1 then smv x else 1) := allInts_map _ zs
          simp only [W.any, W.lq, W.tq]
          rw [h1]
          simp [sum_smv zs wk]
        have n1 : ¬ (zs.length : Int) = 1 := by omega
        have l1 : (zs.map fun x => D.int (smv x)).length ≤ sizeLine := by rw [List.length_map]; exact ll
        rw [hs1]
        have hm : ((if M = -1 then 1 else 0) : Int) = if Ex.allT zs = true then 1 else 0 := by
          by_cases h : M = -1
          · rw [if_pos h, if_pos (m3.mp h)]
          · rw [if_neg h, if_neg (fun z => h (m3.mpr z))]
        have hm2 : uInt (.val (.bl (decide (M = -1)))) S = some (.val (.int (if Ex.allT zs = true then 1 else 0))) := by
          rw [← hm]
          by_cases h : M = -1 <;> simp [h]
        have r1 : (eUn uSum (eLc (iE (eV 1)) [2] (gN 2) (tYes) (eZ (eBin bMax2 (eC (.int 1)) (eV 2))))) (sem fs k) [some d, some (.frz (zs.map fun x => D.int (smv x))), none] S = .ok (.val (.int (Ex.stkS zs))) S := by
          simp only [ap_eUn, ap_eLc, ap_iE, eV_1, then_ok, wipeD, List.set_cons_succ, List.set_cons_zero]
          rw [if_pos l1, c2]
          simp only [then_ok, us, o2R_some]
        have r2 : (eUn uInt (eBin (bC eqW) (eUn uMax (eV 1)) (eUn uNeg (eC (.int 1))))) (sem fs k) [some d, some (.frz (zs.map fun x => D.int (smv x))), none] S = .ok (.val (.int (if Ex.allT zs = true then 1 else 0))) S := by
          simp only [ap_eUn, ap_eBin, eV_1, then_ok, um, o2R_some, ap_eC, uNeg]
          simp [hm2]
        have r0 : (sIf (tCmp eqW (eUn uLen (eV 1)) (eC (.int 1))) (sRet (eBin bIx (eV 1) (eC (.int 0)))) (sNil)) (sem fs k) [some d, some (.frz (zs.map fun x => D.int (smv x))), none] S = .nx [some d, some (.frz (zs.map fun x => D.int (smv x))), none] S := by
          simp [ul, n1]
        rw [ap_sSeq, r0, seq_nx, ap_sRet, ap_eBin, r1]
        simp only [then_ok]
        rw [r2]
        simp
    have hb : m_28 (sem fs k) [some (Ex.op w ks).d, none, none] S = .rt (.val (.int (smv (.op w ks)))) S := by
      unfold m_28
      rw [ap_sSeq, p1, seq_nx, ap_sSeq, p2, seq_nx, goal]
    show gc S (MM.fin (m_28 (sem fs k) [some (Ex.op w ks).d, none, none] S)) = _
    rw [hb]
    exact gc_val0 (by simp)
/-! ### the law's own comparing -/
def IsOk (n : Nat) (d : D) : Prop := ∀ (k : Nat) (S : Sto), n ≤ k → sem fs k 22 [d, d] S = .ok (.val (.bl true)) S
theorem isOk_int (i : Int) : IsOk 1 (.int i) := by
  intro k S hk
  obtain ⟨k, rfl⟩ : ∃ j, k = j + 1 := ⟨k - 1, by omega⟩
  rw [sem_eq (f := ⟨2, 3, m_22⟩) rfl rfl]
  have t1 : (Ty.int == Ty.bool) = false := by decide
  have t2 : (Ty.int == Ty.tuple) = false := by decide
  have t3 : (Ty.bool == Ty.int) = false := by decide
  have t4 : (Ty.tuple == Ty.int) = false := by decide
  simp [m_22, t1, t2, t3, t4]
theorem isOk_bl (b : Bool) : IsOk 1 (.bl b) := by
  intro k S hk
  obtain ⟨k, rfl⟩ : ∃ j, k = j + 1 := ⟨k - 1, by omega⟩
  rw [sem_eq (f := ⟨2, 3, m_22⟩) rfl rfl]
  have e : ∀ S, eqW (.val (.bl b)) (.val (.bl b)) S = some true := fun S => by simp [eqW]
  simp [m_22, e]
theorem isOk_tup {n : Nat} {ds : List D} (h : ∀ d ∈ ds, IsOk n d) (hl : ds.length ≤ 10000) : IsOk (n + 1) (.tup ds) := by
  intro k S hk
  obtain ⟨k, rfl⟩ : ∃ j, k = j + 1 := ⟨k - 1, by omega⟩
  rw [sem_eq (f := ⟨2, 3, m_22⟩) rfl rfl]
  have t1 : (Ty.bool == Ty.tuple) = false := by decide
  have ul : ∀ S, uLen (.val (.tup ds)) S = some (.val (.int ds.length)) := fun S => by
    unfold uLen
    simp [W.any, W.lq, W.tq]
  have r1 : ∀ δ, iRange1 (eUn uLen (eV 1)) (sem fs k) (some (.tup ds) :: some (.tup ds) :: δ) S = .ok (.items ((List.range ds.length).map nI)) S := fun δ => by
    rw [← span0]
    exact range1_ok (n := ds.length) (S' := S) (by simp [ul]) (by omega)
  have lr : ds.length ≤ sizeLine := le_line (by omega)
  have c1 : compI (gN 2) ((tNot (tE (eCall 22 (lCons (eBin bIx (eV 0) (eV 2)) (lCons (eBin bIx (eV 1) (eV 2)) (lNil)))))) (sem fs k)) (bnd (eC (.int 1)) (sem fs k)) [some (.tup ds), some (.tup ds), none] ((List.range ds.length).map nI) S = .ok [] S := by
    have := compI_filter (g := gN 2) (t := (tNot (tE (eCall 22 (lCons (eBin bIx (eV 0) (eV 2)) (lCons (eBin bIx (eV 1) (eV 2)) (lNil)))))) (sem fs k)) (elt := bnd (eC (.int 1)) (sem fs k)) (S := S) (enc := nI) (f := nI) (p := fun _ => false) (xs := List.range ds.length) (δ := [some (.tup ds), some (.tup ds), none]) (fun i hi => ⟨_, rfl, by
      have hi := List.mem_range.mp hi
      have hx := h ds[i] (List.getElem_mem hi) k S (by omega)
      have ha : atI ds (i : Int) = some ds[i] := atI_get hi
      simp [ha, hx], fun z => by simp at z⟩)
    rw [this]
    simp
  have ux : uLen (.tmp (.lst [])) S = some (.val (.int 0)) := rfl
  simp [m_22, t1, ul, ap_eLc, r1, lr, wipeD, c1, ux]
/-! ### trees from the draws -/
@[simp] theorem eV_11 {T : FT} {S : Sto} {d : D} {a b c e f g h i j l m δ} : eV 11 T (a :: b :: c :: e :: f :: g :: h :: i :: j :: l :: m :: some d :: δ) S = .ok (.val d) S := rfl
@[simp] theorem eV_12 {T : FT} {S : Sto} {d : D} {a b c e f g h i j l m n δ} : eV 12 T (a :: b :: c :: e :: f :: g :: h :: i :: j :: l :: m :: n :: some d :: δ) S = .ok (.val d) S := rfl
theorem ex_list (q p : Nat) : ∀ xs : List D, (∀ x ∈ xs, ∃ e : Ex, x = e.d ∧ e.wf = true ∧ e.size ≤ q ∧ e.depth ≤ p) → ∃ es : List Ex, xs = es.map Ex.d ∧ Ex.wfL es = true ∧ Ex.sizeL es ≤ xs.length * q ∧ Ex.depthL es ≤ p
  | [], _ => ⟨[], rfl, rfl, by simp [Ex.sizeL], by simp [Ex.depthL]⟩
  | x :: xs, h => by
    obtain ⟨e, h1, h2, h3, h4⟩ := h x List.mem_cons_self
    obtain ⟨es, g1, g2, g3, g4⟩ := ex_list q p xs fun y hy => h y (List.mem_cons_of_mem _ hy)
    refine ⟨e :: es, by rw [h1, g1]; rfl, by rw [Ex.wfL, h2, g2]; rfl, ?_, ?_⟩
    · rw [Ex.sizeL, List.length_cons, Nat.succ_mul]; omega
    · rw [Ex.depthL]; omega
def TreeOk (deep : Nat) : Prop := ∀ (t : Bool) (room k : Nat) (S : Sto) (b c : Nat) (ri di : Int), ri = room → di = deep → Rill shL b c S → 1 ≤ room → room ≤ 300 → deep + 3 ≤ k → ∃ e S', sem fs k 24 [.loc b, .bl t, .int ri, .int di] S = .ok (.val (Ex.d e)) S' ∧ e.wf = true ∧ e.size ≤ room ∧ e.depth ≤ deep ∧ Rill shL b c S' ∧ Oth b c S S'
theorem wf_op (w : Str) (es : List Ex) (hw : Ex.isLeafW w = false) (h : Ex.wfL es = true) (h0 : es ≠ []) : (Ex.op w es).wf = true := by
  rw [Ex.wf, hw, h]
  cases es with
  | nil => exact absurd rfl h0
  | cons a b => rfl
theorem lfW : Ex.isLeafW (Str.ofString "pick") = false ∧ Ex.isLeafW (Str.ofString "less") = false ∧ Ex.isLeafW (Str.ofString "same") = false ∧ Ex.isLeafW (Str.ofString "and") = false ∧ Ex.isLeafW (Str.ofString "or") = false ∧ Ex.isLeafW (Str.ofString "add") = false ∧ Ex.isLeafW (Str.ofString "mul") = false ∧ Ex.isLeafW (Str.ofString "min") = false ∧ Ex.isLeafW (Str.ofString "max") = false ∧ Ex.isLeafW (Str.ofString "sub") = false := by decide +kernel
theorem min3_pos (a b c : Int) (h1 : 1 ≤ a) (h2 : 1 ≤ b) (h3 : 1 ≤ c) : 1 ≤ min3 a b c ∧ min3 a b c ≤ a ∧ min3 a b c ≤ b ∧ min3 a b c ≤ c := by
  unfold min3
  split <;> split at * <;> omega
/-- the word that the draws choose -/
theorem word_at (t : Bool) (k : Nat) (S : Sto) (b c : Nat) (R : Rill shL b c S) (hk : 1 ≤ k) (y2 y3 y4 y5 y6 y7 y8 y9 y10 y11 y12 : Option D) : ∃ s S', (sAsg 8 (eIf (tE (eV 1)) (eBin bIx (eTup (lCons (eC (.str (Str.ofString "and"))) (lCons (eC (.str (Str.ofString "or"))) (lNil)))) (eCall 21 (lCons (eV 0) (lCons (eC (.int 2)) (lNil))))) (eBin bIx (eTup (lCons (eC (.str (Str.ofString "add"))) (lCons (eC (.str (Str.ofString "mul"))) (lCons (eC (.str (Str.ofString "min"))) (lCons (eC (.str (Str.ofString "max"))) (lNil)))))) (eCall 21 (lCons (eV 0) (lCons (eC (.int 4)) (lNil))))))) (sem fs k) [some (.loc b), some (.bl t), y2, y3, y4, y5, y6, y7, y8, y9, y10, y11, y12] S =
    .nx [some (.loc b), some (.bl t), y2, y3, y4, y5, y6, y7, some (.str s), y9, y10, y11, y12] S' ∧ Ex.isLeafW s = false ∧ Rill shL b c S' ∧ Oth b c S S' := by
  obtain ⟨w1, w2, w3, w4, w5, w6, w7, w8, w9, w10⟩ := lfW
  cases t with
  | true =>
    obtain ⟨r, S1, e1, a1, b1, R1, O1⟩ := L_snap k S b c 2 R (by omega) (by omega) (by omega)
    obtain ⟨x, hx, hm⟩ := atI_mem (xs := [D.str (Str.ofString "and"), .str (Str.ofString "or")]) a1 (by simpa using b1)
    obtain ⟨s, rfl, hs⟩ : ∃ s : Str, x = .str s ∧ Ex.isLeafW s = false := by
      simp only [List.mem_cons, List.not_mem_nil, or_false] at hm
      rcases hm with rfl | rfl
      · exact ⟨_, rfl, w4⟩
      · exact ⟨_, rfl, w5⟩
    exact ⟨s, S1, by simp [e1, hx, le_line, gc_len, O1.1], hs, R1, O1⟩
  | false =>
    obtain ⟨r, S1, e1, a1, b1, R1, O1⟩ := L_snap k S b c 4 R (by omega) (by omega) (by omega)
    obtain ⟨x, hx, hm⟩ := atI_mem (xs := [D.str (Str.ofString "add"), .str (Str.ofString "mul"), .str (Str.ofString "min"), .str (Str.ofString "max")]) a1 (by simpa using b1)
    obtain ⟨s, rfl, hs⟩ : ∃ s : Str, x = .str s ∧ Ex.isLeafW s = false := by
      simp only [List.mem_cons, List.not_mem_nil, or_false] at hm
      rcases hm with rfl | rfl | rfl | rfl
      · exact ⟨_, rfl, w6⟩
      · exact ⟨_, rfl, w7⟩
      · exact ⟨_, rfl, w8⟩
      · exact ⟨_, rfl, w9⟩
    exact ⟨s, S1, by simp [e1, hx, le_line, gc_len, O1.1], hs, R1, O1⟩
noncomputable abbrev treB : MS := (sSeq (sAsg 6 (eIf (tCmp eqW (eV 12) (eBin bSub (eV 9) (eC (.int 1)))) (eBin bSub (eV 11) (eBin bSub (eBin bSub (eV 9) (eC (.int 1))) (eV 12))) (eBin bAdd (eC (.int 1)) (eCall 21 (lCons (eV 0) (lCons (eBin bSub (eV 11) (eBin bSub (eBin bSub (eV 9) (eC (.int 1))) (eV 12))) (lNil))))))) (sSeq (sE (eEff2 isL fAppend (eV 10) (eZ (eCall 24 (lCons (eV 0) (lCons (eV 1) (lCons (eV 6) (lCons (eBin bSub (eV 3) (eC (.int 1))) (lNil))))))))) (sAsg 11 (eBin bSub (eV 11) (eV 6)))))
/-- the operands, one by one -/
theorem tree_loop (deep : Nat) (h2 : 2 ≤ deep) (ih : TreeOk (deep - 1)) (t : Bool) (k : Nat) (hk : deep + 2 ≤ k) (X : Sto) (b c m : Nat) (w : Str) (R : Rill shL b c X) (y2 y4 y5 y7 : Option D) (di : Int) (hdi : di = deep) : ∀ (f i : Nat) (es : List Ex) (S' : Sto) (left : Nat) (y6 y12 : Option D),
    i + f = m → es.length = i → m ≤ 10 → f ≤ left → left ≤ 300 → Ex.wfL es = true → Ex.depthL es ≤ deep - 1 → Rill shL b c (S' ++ [.lst (.str w :: es.map Ex.d)]) → S'.length = X.length → (∀ n : Nat, n < X.length → n ≠ b → n ≠ c → S'[n]? = X[n]?) →
    ∃ (es' : List Ex) (S2 : Sto) (y6' y12' : Option D) (left' : Int), loopI (gN 12) (treB (sem fs k)) ((List.range' i f).map nI) [some (.loc b), some (.bl t), y2, some (.int di), y4, y5, y6, y7, some (.str w), some (.int m), some (.loc X.length), some (.int left), y12] (S' ++ [.lst (.str w :: es.map Ex.d)]) =
      .nx [some (.loc b), some (.bl t), y2, some (.int di), y4, y5, y6', y7, some (.str w), some (.int m), some (.loc X.length), some (.int left'), y12'] (S2 ++ [.lst (.str w :: es'.map Ex.d)]) ∧
      es'.length = m ∧ Ex.wfL es' = true ∧ Ex.depthL es' ≤ deep - 1 ∧ Ex.sizeL es' ≤ Ex.sizeL es + left ∧ Rill shL b c (S2 ++ [.lst (.str w :: es'.map Ex.d)]) ∧ S2.length = X.length ∧ (∀ n : Nat, n < X.length → n ≠ b → n ≠ c → S2[n]? = X[n]?) := by
  intro f
  have hbX := R.lt.1
  have hcX := R.lt.2
  induction f with
  | zero =>
    intro i es S' left y6 y12 h1 h3 hm hfl hl hw hd hR hS hO
    exact ⟨es, S', y6, y12, left, rfl, by omega, hw, hd, by omega, hR, hS, hO⟩
  | succ f ihf =>
    intro i es S' left y6 y12 h1 h3 hm hfl hl hw hd hR hS hO
    subst hdi
    -- the share
    have hlast : ∃ (q : Nat) (S1 : Sto), (eIf (tCmp eqW (eV 12) (eBin bSub (eV 9) (eC (.int 1)))) (eBin bSub (eV 11) (eBin bSub (eBin bSub (eV 9) (eC (.int 1))) (eV 12))) (eBin bAdd (eC (.int 1)) (eCall 21 (lCons (eV 0) (lCons (eBin bSub (eV 11) (eBin bSub (eBin bSub (eV 9) (eC (.int 1))) (eV 12))) (lNil)))))) (sem fs k) [some (.loc b), some (.bl t), y2, some (.int deep), y4, y5, y6, y7, some (.str w), some (.int m), some (.loc X.length), some (.int left), some (nI i)] (S' ++ [.lst (.str w :: es.map Ex.d)]) = .ok (.val (.int q)) S1 ∧ 1 ≤ q ∧ q + f ≤ left ∧ Rill shL b c S1 ∧ Oth b c (S' ++ [.lst (.str w :: es.map Ex.d)]) S1 := by
      by_cases h : f = 0
      · subst h
        refine ⟨left, _, ?_, by omega, by omega, hR, Oth.rfl'⟩
        have hi : (i : Int) = (m : Int) - 1 := by omega
        simp [hi]
      · have hi : ¬ (i : Int) = (m : Int) - 1 := by omega
        obtain ⟨r, S1, e1, a1, b1, R1, O1⟩ := L_snap k _ b c ((left : Int) - ((m : Int) - 1 - (i : Int))) hR (by omega) (by omega) (by omega)
        refine ⟨1 + r.toNat, S1, ?_, by omega, by omega, R1, O1⟩
        have : (1 : Int) + r = ((1 + r.toNat : Nat) : Int) := by omega
        simp [hi, e1, gc_len, O1.1]
        omega
    obtain ⟨q, S1, e1, q1, q2, R1, O1⟩ := hlast
    obtain ⟨e, S2, e2, g1, g2, g3, R2, O2⟩ := ih t q k S1 b c q ((deep : Int) - 1) rfl (by omega) R1 (by omega) (by omega) (by omega)
    have hx : S2.length = X.length + 1 := by rw [O2.1, O1.1, List.length_append, hS]; rfl
    have hlst1 : S1[X.length]? = some (.lst (.str w :: es.map Ex.d)) := by
      rw [O1.2 _ (by omega) (by omega), ← hS, app_get0]; rfl
    have il1 : isL (.val (.loc X.length)) S1 = true := isL_loc hlst1
    have hlst : S2[X.length]? = some (.lst (.str w :: es.map Ex.d)) := by
      rw [O2.2 _ (by omega) (by omega)]; exact hlst1
    obtain ⟨S2', rfl, hS2⟩ : ∃ S2', S2 = S2' ++ [.lst (.str w :: es.map Ex.d)] ∧ S2'.length = X.length := by
      refine ⟨S2.take X.length, ?_, by rw [List.length_take]; omega⟩
      conv => lhs; rw [← List.take_append_drop X.length S2]
      congr 1
      rw [List.drop_eq_getElem_cons (by omega), List.drop_eq_nil_of_le (by omega)]
      rw [List.getElem?_eq_getElem (by omega)] at hlst
      rw [Option.some.inj hlst]
    have hO2 : ∀ n : Nat, n < X.length → n ≠ b → n ≠ c → S2'[n]? = X[n]? := fun n hn h1 h2 => by
      have z := (O2.2 n h1 h2).trans (O1.2 n h1 h2)
      rw [List.getElem?_append_left (by omega), List.getElem?_append_left (by omega)] at z
      rw [z, hO n hn h1 h2]
    have il : isL (.val (.loc X.length)) (S2' ++ [O.lst (.str w :: es.map Ex.d)]) = true := isL_loc hlst
    have ap : fAppend (.val (.loc X.length)) (.val e.d) (S2' ++ [O.lst (.str w :: es.map Ex.d)]) = some (.val .non, S2' ++ [O.lst (.str w :: (es ++ [e]).map Ex.d)]) := by
      rw [app_loc hlst (by simp; exact lt_line (by omega)), ← hS2, app_set0]
      simp
    have hR3 : Rill shL b c (S2' ++ [.lst (.str w :: (es ++ [e]).map Ex.d)]) := by
      have := R2.set (i := X.length) (o := .lst (.str w :: (es ++ [e]).map Ex.d)) (by omega) (by omega)
      rw [← hS2, app_set0] at this
      exact this
    obtain ⟨es', S3, y6', y12', left', hl1, hl2, hl3, hl4, hl5, hl6, hl7, hl8⟩ := ihf (i + 1) (es ++ [e]) S2' (left - q) (some (.int q)) (some (nI i)) (by omega) (by simp [h3]) hm (by omega) (by omega) (by rw [Ex.wfL_app, hw, Ex.wfL, Ex.wfL, g1]; rfl) (by rw [Ex.depthL_app, Ex.depthL, Ex.depthL]; omega) hR3 hS2 hO2
    refine ⟨es', S3, y6', y12', left', ?_, hl2, hl3, hl4, ?_, hl6, hl7, hl8⟩
    · rw [← hl1, List.range'_succ, List.map_cons]
      have hsub : (left : Int) - (q : Int) = ((left - q : Nat) : Int) := by omega
      have st : treB (sem fs k) [some (.loc b), some (.bl t), y2, some (.int deep), y4, y5, y6, y7, some (.str w), some (.int m), some (.loc X.length), some (.int left), some (nI i)] (S' ++ [.lst (.str w :: es.map Ex.d)]) = .nx [some (.loc b), some (.bl t), y2, some (.int deep), y4, y5, some (.int q), y7, some (.str w), some (.int m), some (.loc X.length), some (.int ((left - q : Nat) : Int)), some (nI i)] (S2' ++ [.lst (.str w :: (es ++ [e]).map Ex.d)]) := by
        show sSeq _ _ (sem fs k) _ _ = _
        have g2' : gc S1 (.ok (.val e.d) (S2' ++ [.lst (.str w :: es.map Ex.d)])) = .ok (.val e.d) (S2' ++ [.lst (.str w :: es.map Ex.d)]) := gc_len O2.1 (by simp)
        have p1 : (sAsg 6 (eIf (tCmp eqW (eV 12) (eBin bSub (eV 9) (eC (.int 1)))) (eBin bSub (eV 11) (eBin bSub (eBin bSub (eV 9) (eC (.int 1))) (eV 12))) (eBin bAdd (eC (.int 1)) (eCall 21 (lCons (eV 0) (lCons (eBin bSub (eV 11) (eBin bSub (eBin bSub (eV 9) (eC (.int 1))) (eV 12))) (lNil))))))) (sem fs k) [some (.loc b), some (.bl t), y2, some (.int deep), y4, y5, y6, y7, some (.str w), some (.int m), some (.loc X.length), some (.int left), some (nI i)] (S' ++ [.lst (.str w :: es.map Ex.d)]) = .nx [some (.loc b), some (.bl t), y2, some (.int deep), y4, y5, some (.int q), y7, some (.str w), some (.int m), some (.loc X.length), some (.int left), some (nI i)] S1 := by
          rw [ap_sAsg, ap_bnd, e1]
          simp
        rw [ap_sSeq, p1, seq_nx]
        simp [e2, g2', il1, ap, hsub]
      simp only [loopI, gN]
      rw [if_pos (by simp)]
      simp only [List.set_cons_succ, List.set_cons_zero]
      rw [st]
    · rw [Ex.sizeL_app, Ex.sizeL, Ex.sizeL] at hl5
      omega
theorem tree_step (deep : Nat) (h1 : 1 ≤ deep) (hd : deep ≤ 30) (ih : 2 ≤ deep → TreeOk (deep - 1)) : TreeOk deep := by
  intro t room k S b c ri di hri hdi R hr1 hr2 hk
  subst hri
  subst hdi
  obtain ⟨k, rfl⟩ : ∃ j, k = j + 1 := ⟨k - 1, by omega⟩
  obtain ⟨w1, w2, w3, w4, w5, w6, w7, w8, w9, w10⟩ := lfW
  have l1 : 1 ≤ sizeLine := le_line (by decide)
  have l2 : 2 ≤ sizeLine := le_line (by decide)
  have l3 : 3 ≤ sizeLine := le_line (by decide)
  have l4 : 4 ≤ sizeLine := le_line (by decide)
  rw [sem_eq (f := ⟨4, 13, m_24⟩) rfl rfl]
  obtain ⟨way, S1, e1, a1, b1, R1, O1⟩ := L_snap k S b c 8 R (by omega) (by omega) (by omega)
  by_cases hleaf : (room : Int) < 3 ∨ (deep : Int) < 2 ∨ way = 0
  · have hcs : (room : Int) < 3 ∨ (¬ (room : Int) < 3 ∧ (deep : Int) < 2) ∨ (¬ (room : Int) < 3 ∧ ¬ (deep : Int) < 2 ∧ way = 0) := by omega
    obtain ⟨z1, z2, z3, z4⟩ := min3_pos room deep 6 (by omega) (by omega) (by omega)
    have o3 : ∀ S δ, (eOf3 min3 (eV 2) (eV 3) (eC (.int 6))) (sem fs k) (some (.loc b) :: some (.bl t) :: some (.int room) :: some (.int deep) :: δ) S = .ok (.val (.int (min3 room deep 6))) S := fun S δ => by
      unfold eOf3
      simp
    generalize min3 (room : Int) deep 6 = mm at z1 z2 z3 z4 o3
    obtain ⟨r, S2, e2, a2, b2, R2, O2⟩ := L_snap k S1 b c mm R1 (by omega) (by omega) (by omega)
    obtain ⟨e, S3, e3, ⟨g1, g2, g3, g4⟩, R3, O3⟩ := L_twig t k S2 b c (1 + r) (1 + r.toNat) (by omega) R2 (by omega) (by omega) (by omega)
    refine ⟨e, S3, ?_, g1, by omega, by omega, R3, O1.trans (O2.trans O3)⟩
    rcases hcs with c1 | ⟨c1, c2⟩ | ⟨c1, c2, c3⟩
    · simp [m_24, e1, e2, e3, c1, o3, gc_len, O1.1, O2.1, O3.1]
    · simp [m_24, e1, e2, e3, c1, c2, o3, gc_len, O1.1, O2.1, O3.1]
    · simp [m_24, e1, e2, e3, c1, c2, c3, o3, gc_len, O1.1, O2.1, O3.1]
  · have c1 : ¬ (room : Int) < 3 := by omega
    have c2 : ¬ (deep : Int) < 2 := by omega
    have c3 : ¬ way = 0 := by omega
    have ih := ih (by omega)
    have hdi' : (deep : Int) - 1 = ((deep - 1 : Nat) : Int) := by omega
    by_cases hw1 : way = 1
    · subst hw1
      obtain ⟨e, S3, e3, g3, s3, d3, R3, O3⟩ := ih t (room - 1) k S1 b c ((room : Int) - 1) ((deep : Int) - 1) (by omega) hdi' R1 (by omega) (by omega) (by omega)
      cases t with
      | true =>
        refine ⟨.op (Str.ofString "not") [e], S3, ?_, wf_op _ _ lfNot (by rw [Ex.wfL, Ex.wfL, g3]; rfl) (by simp), by simp [Ex.size, Ex.sizeL]; omega, by simp [Ex.depth, Ex.depthL]; omega, R3, O1.trans O3⟩
        simp [m_24, e1, e3, c1, c2, l2, Ex.d_op1, gc_len, O1.1, O3.1]
      | false =>
        obtain ⟨r, S4, e4, a4, b4, R4, O4⟩ := L_snap k S3 b c 2 R3 (by omega) (by omega) (by omega)
        obtain ⟨x, hx, hm⟩ := atI_mem (xs := [D.str (Str.ofString "half"), .str (Str.ofString "neg")]) a4 (by simpa using b4)
        obtain ⟨s, rfl, hs⟩ : ∃ s : Str, x = .str s ∧ Ex.isLeafW s = false := by
          simp only [List.mem_cons, List.not_mem_nil, or_false] at hm
          rcases hm with rfl | rfl
          · exact ⟨_, rfl, lfHalf⟩
          · exact ⟨_, rfl, lfNeg⟩
        refine ⟨.op s [e], S4, ?_, wf_op _ _ hs (by rw [Ex.wfL, Ex.wfL, g3]; rfl) (by simp), by simp [Ex.size, Ex.sizeL]; omega, by simp [Ex.depth, Ex.depthL]; omega, R4, O1.trans (O3.trans O4)⟩
        simp [m_24, e1, e3, e4, hx, c1, c2, l2, Ex.d_op1, gc_len, O1.1, O3.1, O4.1]
    · by_cases hw2 : way = 2 ∧ t = false ∧ 3 < (room : Int)
      · obtain ⟨rfl, rfl, c4⟩ := hw2
        obtain ⟨e, S3, e3, g3, s3, d3, R3, O3⟩ := ih true ((room - 1) / 3) k S1 b c (((room : Int) - 1) / 3) ((deep : Int) - 1) (by omega) hdi' R1 (by omega) (by omega) (by omega)
        obtain ⟨f, S4, e4, g4, s4, d4, R4, O4⟩ := ih false ((room - 1) / 3) k S3 b c (((room : Int) - 1) / 3) ((deep : Int) - 1) (by omega) hdi' R3 (by omega) (by omega) (by omega)
        obtain ⟨g, S5, e5, g5, s5, d5, R5, O5⟩ := ih false ((room - 1) / 3) k S4 b c (((room : Int) - 1) / 3) ((deep : Int) - 1) (by omega) hdi' R4 (by omega) (by omega) (by omega)
        refine ⟨.op (Str.ofString "pick") [e, f, g], S5, ?_, wf_op _ _ w1 (by rw [Ex.wfL, Ex.wfL, Ex.wfL, Ex.wfL, g3, g4, g5]; rfl) (by simp), by simp [Ex.size, Ex.sizeL]; omega, by simp [Ex.depth, Ex.depthL]; omega, R5, O1.trans (O3.trans (O4.trans O5))⟩
        have b3 := fun S => bDiv_64 (S := S) ((room : Int) - 1) 3 (by omega) (by omega)
        simp [m_24, e1, e3, e4, e5, c1, c2, c4, l4, b3, gc_len, O1.1, O3.1, O4.1, O5.1, Ex.d, Ex.dL]
      · by_cases hw3 : way = 3 ∧ t = true
        · obtain ⟨rfl, rfl⟩ := hw3
          obtain ⟨r7, S7, e7, a7, b7, R7, O7⟩ := L_snap k S1 b c ((room : Int) - 2) R1 (by omega) (by omega) (by omega)
          obtain ⟨r, S3, e3, a3, b3, R3, O3⟩ := L_snap k S7 b c 2 R7 (by omega) (by omega) (by omega)
          obtain ⟨x, hx, hm⟩ := atI_mem (xs := [D.str (Str.ofString "less"), .str (Str.ofString "same")]) a3 (by simpa using b3)
          obtain ⟨s, rfl, hs⟩ : ∃ s : Str, x = .str s ∧ Ex.isLeafW s = false := by
            simp only [List.mem_cons, List.not_mem_nil, or_false] at hm
            rcases hm with rfl | rfl
            · exact ⟨_, rfl, w2⟩
            · exact ⟨_, rfl, w3⟩
          obtain ⟨e, S8, e8, g8, s8, d8, R8, O8⟩ := ih false (1 + r7.toNat) k S3 b c (1 + r7) ((deep : Int) - 1) (by omega) hdi' R3 (by omega) (by omega) (by omega)
          obtain ⟨f, S9, e9, g9, s9, d9, R9, O9⟩ := ih false (room - 1 - (1 + r7.toNat)) k S8 b c ((room : Int) - 1 - (1 + r7)) ((deep : Int) - 1) (by omega) hdi' R8 (by omega) (by omega) (by omega)
          refine ⟨.op s [e, f], S9, ?_, wf_op _ _ hs (by rw [Ex.wfL, Ex.wfL, Ex.wfL, g8, g9]; rfl) (by simp), by simp [Ex.size, Ex.sizeL]; omega, by simp [Ex.depth, Ex.depthL]; omega, R9, O1.trans (O7.trans (O3.trans (O8.trans O9)))⟩
          simp [m_24, e1, e3, e7, e8, e9, c1, c2, l2, l3, hx, gc_len, O1.1, O3.1, O7.1, O8.1, O9.1, Ex.d, Ex.dL]
        · -- words of many operands
          have n2 : ¬ (way = 2 ∧ (t = false ∧ 3 < (room : Int))) := hw2
          have n3 : ¬ (way = 3 ∧ t = true) := hw3
          obtain ⟨s, S2, e2, hs, R2, O2⟩ := word_at t k S1 b c R1 (by omega) (some (.int room)) (some (.int deep)) (some (.int way)) none none none none none none none none
          have hmn : (1 : Int) ≤ (if (room : Int) - 2 < 5 then (room : Int) - 2 else 5) ∧ (if (room : Int) - 2 < 5 then (room : Int) - 2 else 5) ≤ 5 ∧ (if (room : Int) - 2 < 5 then (room : Int) - 2 else 5) ≤ (room : Int) - 2 := by split <;> omega
          have bmin : ∀ S, bMin2 (.val (.int 5)) (.val (.int ((room : Int) - 2))) S = some (.val (.int (if (room : Int) - 2 < 5 then (room : Int) - 2 else 5))) := fun S => rfl
          generalize (if (room : Int) - 2 < 5 then (room : Int) - 2 else 5) = mm at hmn bmin
          obtain ⟨r6, S6, e6, a6, b6, R6, O6⟩ := L_snap k S2 b c mm R2 (by omega) (by omega) (by omega)
          obtain ⟨m, hm⟩ : ∃ m : Nat, 2 + r6 = m := ⟨(2 + r6).toNat, by omega⟩
          have p1 : (sAsg 9 (eBin bAdd (eC (.int 2)) (eCall 21 (lCons (eV 0) (lCons (eZ (eBin bMin2 (eC (.int 5)) (eBin bSub (eV 2) (eC (.int 2))))) (lNil)))))) (sem fs k) [some (.loc b), some (.bl t), some (.int room), some (.int deep), some (.int way), none, none, none, some (.str s), none, none, none, none] S2 = .nx [some (.loc b), some (.bl t), some (.int room), some (.int deep), some (.int way), none, none, none, some (.str s), some (.int m), none, none, none] S6 := by
            simp [bmin, e6, hm, gc_len, O6.1]
          have q0 : (sAsg 4 (eZ (eCall 21 (lCons (eV 0) (lCons (eC (.int 8)) (lNil)))))) (sem fs k) [some (.loc b), some (.bl t), some (.int room), some (.int deep), none, none, none, none, none, none, none, none, none] S = .nx [some (.loc b), some (.bl t), some (.int room), some (.int deep), some (.int way), none, none, none, none, none, none, none, none] S1 := by
            simp [e1, gc_len, O1.1]
          have tail : ∃ e S', (sSeq (sIf (tCmp eqW (eV 4) (eC (.int 4))) (sRet (eBin bAdd (eTup (lCons (eV 8) (lNil))) (eUn uTuple (eLc (iRange1 (eV 9)) [12] (gN 12) (tYes) (eZ (eCall 23 (lCons (eV 0) (lCons (eV 1) (lCons (eBin bAdd (eC (.int 1)) (eCall 21 (lCons (eV 0) (lCons (eZ (eBin bMax2 (eC (.int 1)) (eOf3 min3 (eC (.int 3)) (eBin bDiv (eBin bSub (eV 2) (eC (.int 1))) (eV 9)) (eBin bSub (eV 3) (eC (.int 1)))))) (lNil))))) (lNil)))))))))) (sNil)) (sSeq (sPar [10, 11] (lCons (eLst (lCons (eV 8) (lNil))) (lCons (eBin bSub (eV 2) (eC (.int 1))) (lNil)))) (sSeq (sFor (iRange1 (eV 9)) (gN 12) treB) (sRet (eUn uTuple (eV 10)))))) (sem fs k) [some (.loc b), some (.bl t), some (.int room), some (.int deep), some (.int way), none, none, none, some (.str s), some (.int m), none, none, none] S6 = .rt (.val (Ex.d e)) S' ∧ e.wf = true ∧ e.size ≤ room ∧ e.depth ≤ deep ∧ S.length ≤ S'.length ∧ (∀ n : Nat, n < S.length → n ≠ b → n ≠ c → S'[n]? = S[n]?) ∧ Rill shL b c S' := by
            have hO6 := O1.trans (O2.trans O6)
            by_cases hw4 : way = 4
            · subst hw4
              have hq1 : 1 ≤ (room - 1) / m := (Nat.le_div_iff_mul_le (by omega)).mpr (by omega)
              have hq2 : (room - 1) / m ≤ room - 1 := Nat.div_le_self _ _
              have hq3 : ((room : Int) - 1) / (m : Int) = (((room - 1) / m : Nat) : Int) := by
                rw [show (room : Int) - 1 = ((room - 1 : Nat) : Int) by omega]
                rfl
              obtain ⟨z1, z2, z3, z4⟩ := min3_pos 3 (((room - 1) / m : Nat) : Int) ((deep : Int) - 1) (by omega) (by omega) (by omega)
              have bd := fun S => bDiv_64 (S := S) ((room : Int) - 1) m (by omega) (by omega)
              have o3 : ∀ S δ, (eOf3 min3 (eC (.int 3)) (eBin bDiv (eBin bSub (eV 2) (eC (.int 1))) (eV 9)) (eBin bSub (eV 3) (eC (.int 1)))) (sem fs k) (some (.loc b) :: some (.bl t) :: some (.int room) :: some (.int deep) :: some (.int 4) :: none :: none :: none :: some (.str s) :: some (.int m) :: δ) S = .ok (.val (.int (min3 3 (((room - 1) / m : Nat) : Int) ((deep : Int) - 1)))) S := fun S δ => by
                unfold eOf3
                simp [bd, hq3]
              generalize min3 3 (((room - 1) / m : Nat) : Int) ((deep : Int) - 1) = z at z1 z2 z3 z4 o3
              have bmx : ∀ S, bMax2 (.val (.int 1)) (.val (.int z)) S = some (.val (.int z)) := fun S => by
                have : bMax2 (.val (.int 1)) (.val (.int z)) S = some (.val (.int (if z > 1 then z else 1))) := rfl
                rw [this]
                congr 3
                split <;> omega
              have hcomp := compI_inv (g := gN 12) (t := tYes (sem fs k)) (elt := bnd (eZ (eCall 23 (lCons (eV 0) (lCons (eV 1) (lCons (eBin bAdd (eC (.int 1)) (eCall 21 (lCons (eV 0) (lCons (eZ (eBin bMax2 (eC (.int 1)) (eOf3 min3 (eC (.int 3)) (eBin bDiv (eBin bSub (eV 2) (eC (.int 1))) (eV 9)) (eBin bSub (eV 3) (eC (.int 1)))))) (lNil))))) (lNil)))))) (sem fs k)) (δ := [some (.loc b), some (.bl t), some (.int room), some (.int deep), some (.int 4), none, none, none, some (.str s), some (.int m), none, none, none])
                (P := fun S' => Rill shL b c S' ∧ Oth b c S6 S') (Q := fun d => ∃ e : Ex, d = e.d ∧ e.wf = true ∧ e.size ≤ (room - 1) / m ∧ e.depth ≤ deep - 1) (ds := span 0 m) (S := S6) (fun d S' ⟨R, O⟩ => by
                  obtain ⟨r, S3, e3, a3, b3, R3, O3⟩ := L_snap k S' b c z R (by omega) (by omega) (by omega)
                  obtain ⟨e, S4, e4, ⟨g1, g2, g3, g4⟩, R4, O4⟩ := L_twig t k S3 b c (1 + r) (1 + r.toNat) (by omega) R3 (by omega) (by omega) (by omega)
                  refine ⟨_, e.d, S4, rfl, rfl, ?_, ⟨R4, O.trans (O3.trans O4)⟩, ⟨e, rfl, g1, by omega, by omega⟩⟩
                  simp [o3, bmx, e3, e4, gc_len, O3.1, O4.1]) ⟨R6, Oth.rfl'⟩
              obtain ⟨xs, S7, e7, ⟨R7, O7⟩, hxl, hxq⟩ := hcomp
              rw [span_len] at hxl
              obtain ⟨es, rfl, eg, es1, ed⟩ := ex_list _ _ xs hxq
              rw [List.length_map] at hxl es1
              have i1 : ∀ δ S', iRange1 (eV 9) (sem fs k) (some (.loc b) :: some (.bl t) :: some (.int room) :: some (.int deep) :: some (.int 4) :: none :: none :: none :: some (.str s) :: some (.int m) :: δ) S' = .ok (.items (span 0 m)) S' := fun δ S' => range1_ok (n := m) (S' := S') (by simp) (by omega)
              have lm : m ≤ sizeLine := le_line (by omega)
              have bt := fun S => add_tt S [D.str s] (es.map Ex.d) (by simp; omega)
              have hsz : Ex.sizeL es + 1 ≤ room := by
                have : m * ((room - 1) / m) ≤ room - 1 := Nat.mul_div_le _ _
                rw [hxl] at es1
                omega
              have hO7 := hO6.trans O7
              refine ⟨.op s es, S7, ?_, wf_op _ _ hs eg (by intro z; rw [z] at hxl; simp at hxl; omega), by rw [Ex.size]; omega, by rw [Ex.depth]; omega, by rw [hO7.1]; omega, fun n _ h1 h2 => hO7.2 n h1 h2, R7⟩
              simp [l1, lm, ap_eLc, i1, wipeD, e7, bt, Ex.d, Ex.dL_map]
            · obtain ⟨es', S3, y6', y12', left', hl1, hl2, hl3, hl4, hl5, hl6, hl7, hl8⟩ := tree_loop deep (by omega) ih t k (by omega) S6 b c m s R6 (some (.int room)) (some (.int way)) none none deep rfl m 0 [] S6 (room - 1) none none (by omega) rfl (by omega) (by omega) (by omega) rfl (by simp [Ex.depthL]) (R6.app _) rfl (fun n _ _ _ => rfl)
              rw [← List.range_eq_range', ← span0] at hl1
              have hlr : ((room - 1 : Nat) : Int) = (room : Int) - 1 := by omega
              rw [hlr, List.map_nil] at hl1
              have i1 : ∀ δ S', iRange1 (eV 9) (sem fs k) (some (.loc b) :: some (.bl t) :: some (.int room) :: some (.int deep) :: some (.int way) :: none :: none :: none :: some (.str s) :: some (.int m) :: δ) S' = .ok (.items (span 0 m)) S' := fun δ S' => range1_ok (n := m) (S' := S') (by simp) (by omega)
              have hg : (S3 ++ [O.lst (.str s :: es'.map Ex.d)])[S6.length]? = some (.lst (.str s :: es'.map Ex.d)) := by rw [← hl7, app_get0]; rfl
              have ut : uTuple (.val (.loc S6.length)) (S3 ++ [O.lst (.str s :: es'.map Ex.d)]) = some (.val (.tup (.str s :: es'.map Ex.d))) := by
                unfold uTuple
                simp [W.any, W.lq, W.tq, hg]
              have hlen := hO6.1
              refine ⟨.op s es', S3 ++ [.lst (.str s :: es'.map Ex.d)], ?_, wf_op _ _ hs hl3 (by intro z; rw [z] at hl2; simp at hl2; omega), by rw [Ex.size]; simp [Ex.sizeL] at hl5; omega, by rw [Ex.depth]; omega, by rw [List.length_append, hl7]; omega, fun n hn h1 h2 => ?_, hl6⟩
              · have g1 : ∀ a : MS, (sIf (tCmp eqW (eV 4) (eC (.int 4))) a (sNil)) (sem fs k) [some (.loc b), some (.bl t), some (.int room), some (.int deep), some (.int way), none, none, none, some (.str s), some (.int m), none, none, none] S6 = .nx [some (.loc b), some (.bl t), some (.int room), some (.int deep), some (.int way), none, none, none, some (.str s), some (.int m), none, none, none] S6 := fun a => by
                  simp [hw4]
                have g2 : (sPar [10, 11] (lCons (eLst (lCons (eV 8) (lNil))) (lCons (eBin bSub (eV 2) (eC (.int 1))) (lNil)))) (sem fs k) [some (.loc b), some (.bl t), some (.int room), some (.int deep), some (.int way), none, none, none, some (.str s), some (.int m), none, none, none] S6 = .nx [some (.loc b), some (.bl t), some (.int room), some (.int deep), some (.int way), none, none, none, some (.str s), some (.int m), some (.loc S6.length), some (.int ((room : Int) - 1)), none] (S6 ++ [.lst [.str s]]) := by
                  simp [setAll, l1]
                rw [ap_sSeq, g1, seq_nx, ap_sSeq, g2, seq_nx, ap_sSeq, sFor_items (i1 _ _), hl1, seq_nx]
                simp [ut, Ex.d_opL]
              · rw [List.getElem?_append_left (by omega), hl8 n (by omega) h1 h2, hO6.2 n h1 h2]
          obtain ⟨e, S', t1, t2, t3, t4, t7, t8, t9⟩ := tail
          obtain ⟨S3, u1, u2, u3⟩ := gc_draw (d := e.d) R t9 t8 t7 (by simp)
          refine ⟨e, S3, ?_, t2, t3, t4, u2, u3⟩
          rw [← u1]
          have hb : m_24 (sem fs k) [some (.loc b), some (.bl t), some (.int room), some (.int deep), none, none, none, none, none, none, none, none, none] S = .rt (.val (Ex.d e)) S' := by
            unfold m_24
            rw [ap_sSeq, q0, seq_nx]
            have g1 : ∀ S (a : MS), (sIf (tOr (tCmp cLt (eV 2) (eC (.int 3))) (tOr (tCmp cLt (eV 3) (eC (.int 2))) (tCmp eqW (eV 4) (eC (.int 0))))) a (sNil)) (sem fs k) [some (.loc b), some (.bl t), some (.int room), some (.int deep), some (.int way), none, none, none, none, none, none, none, none] S = .nx [some (.loc b), some (.bl t), some (.int room), some (.int deep), some (.int way), none, none, none, none, none, none, none, none] S := fun S a => by
              simp [c1, c2, c3]
            have g2 : ∀ S (a : MS), (sIf (tCmp eqW (eV 4) (eC (.int 1))) a (sNil)) (sem fs k) [some (.loc b), some (.bl t), some (.int room), some (.int deep), some (.int way), none, none, none, none, none, none, none, none] S = .nx [some (.loc b), some (.bl t), some (.int room), some (.int deep), some (.int way), none, none, none, none, none, none, none, none] S := fun S a => by
              simp [hw1]
            have g3 : ∀ S (a : MS), (sIf (tAnd (tCmp eqW (eV 4) (eC (.int 2))) (tAnd (tNot (tE (eV 1))) (tCmp cGt (eV 2) (eC (.int 3))))) a (sNil)) (sem fs k) [some (.loc b), some (.bl t), some (.int room), some (.int deep), some (.int way), none, none, none, none, none, none, none, none] S = .nx [some (.loc b), some (.bl t), some (.int room), some (.int deep), some (.int way), none, none, none, none, none, none, none, none] S := fun S a => by
              by_cases z1 : way = 2
              · cases t with
                | true => simp [z1]
                | false =>
                  have z2 : ¬ 3 < (room : Int) := fun z => n2 ⟨z1, rfl, z⟩
                  simp [z1, z2]
              · simp [z1]
            have g4 : ∀ S (a : MS), (sIf (tAnd (tCmp eqW (eV 4) (eC (.int 3))) (tE (eV 1))) a (sNil)) (sem fs k) [some (.loc b), some (.bl t), some (.int room), some (.int deep), some (.int way), none, none, none, none, none, none, none, none] S = .nx [some (.loc b), some (.bl t), some (.int room), some (.int deep), some (.int way), none, none, none, none, none, none, none, none] S := fun S a => by
              by_cases z1 : way = 3
              · cases t with
                | true => exact absurd ⟨z1, rfl⟩ n3
                | false => simp [z1]
              · simp [z1]
            rw [ap_sSeq, g1, seq_nx, ap_sSeq, g2, seq_nx, ap_sSeq, g3, seq_nx, ap_sSeq, g4, seq_nx, ap_sSeq, e2, seq_nx, ap_sSeq, p1, seq_nx]
            exact t1
          show gc S (MM.fin (m_24 (sem fs k) [some (.loc b), some (.bl t), some (.int room), some (.int deep), none, none, none, none, none, none, none, none, none] S)) = _
          rw [hb]
          rfl
theorem tree_all : ∀ deep : Nat, 1 ≤ deep → deep ≤ 30 → TreeOk deep
  | deep, h1, h2 => tree_step deep h1 h2 fun h => tree_all (deep - 1) (by omega) (by omega)
/-! ### what the law asks of one expression -/
theorem encL_ints : ∀ xs : List Nat, encL (xs.map nI) = some (xs.map fun (n : Nat) => PyData.int (n : Int))
  | [] => rfl
  | x :: xs => by rw [List.map_cons, encL, D.enc, encL_ints xs]; rfl
theorem lay_ints : ∀ xs : List Nat, PyData.canLayAll0 (xs.map fun (n : Nat) => PyData.int (n : Int)) = true
  | [] => rfl
  | x :: xs => by rw [List.map_cons, PyData.canLayAll0, lay_ints xs]; rfl
theorem deep_ints : ∀ xs : List Nat, PyData.depthAll (xs.map fun (n : Nat) => PyData.int (n : Int)) = 0
  | [] => rfl
  | x :: xs => by rw [List.map_cons, PyData.depthAll, deep_ints xs]; rfl
theorem eqv_ints : ∀ xs : List Nat, PyData.eqvAll (xs.map fun (n : Nat) => PyData.int (n : Int)) (xs.map fun (n : Nat) => PyData.int (n : Int)) = true
  | [] => rfl
  | x :: xs => by rw [List.map_cons, PyData.eqvAll, eqv_ints xs, PyData.eqv]; simp
theorem eqW_fact (e : Ex) (S : Sto) : eqW (.val (factD e)) (.val (factD e)) S = some true := by
  have h : (MM.W.val (factD e)).enc S = some (.tuple [.bool (Ex.twg e), .tuple ((Ex.whl 0 e).map fun (n : Nat) => PyData.int (n : Int)), .tuple ((Ex.frk 0 e).map fun (n : Nat) => PyData.int (n : Int)), .int (Ex.stk e)]) := by
    show D.enc (.tup [_, _, _, _]) = _
    simp only [D.enc, encL, encL_ints]
  have sh : SeqAt.shaped (.tuple [.bool (Ex.twg e), .tuple ((Ex.whl 0 e).map fun (n : Nat) => PyData.int (n : Int)), .tuple ((Ex.frk 0 e).map fun (n : Nat) => PyData.int (n : Int)), .int (Ex.stk e)]) = true := by
    unfold SeqAt.shaped
    simp [PyData.canLay0, PyData.canLayAll0, lay_ints, PyData.depth, PyData.depthAll, deep_ints]
  have : eqW (.val (factD e)) (.val (factD e)) S = match (MM.W.val (factD e)).enc S, (MM.W.val (factD e)).enc S with
    | some d, some e => if SeqAt.shaped d = true ∧ SeqAt.shaped e = true then some (PyData.eqv d e) else none
    | _, _ => none := rfl
  rw [this, h]
  simp only
  rw [if_pos ⟨sh, sh⟩]
  simp [PyData.eqv, PyData.eqvAll, eqv_ints]
theorem isOk_up {n m : Nat} {d : D} (h : IsOk n d) (hm : n ≤ m) : IsOk m d := fun k S hk => h k S (by omega)
theorem isOk_ints (xs : List Nat) (hl : xs.length ≤ 10000) : IsOk 2 (.tup (xs.map nI)) :=
  isOk_tup (fun d hd => by
    obtain ⟨n, _, rfl⟩ := List.mem_map.mp hd
    exact isOk_int _) (by rw [List.length_map]; exact hl)
theorem whl_len (e : Ex) : (Ex.whl 0 e).length ≤ e.size := by
  rw [← Ex.whl_range e (fun i => match e.parts[i]?, (Ex.pars .non 0 e)[i]? with | some x, some (.int q) => Ex.twg x && !Ex.twAt e q.toNat | some x, _ => Ex.twg x | none, _ => false) (fun i x d hx hd => by rw [hx, hd]; cases d <;> simp)]
  exact Nat.le_trans (List.length_filter_le _ _) (by rw [List.length_range]; exact Nat.le_refl _)
theorem frk_len (e : Ex) : (Ex.frk 0 e).length ≤ e.size := by
  rw [← Ex.frk_range e (fun i => match (Ex.kidN 0 e)[i]? with | some kk => decide (1 < kk.length) && kk.all (Ex.twAt e) | none => false) (fun i kk h => by rw [h])]
  exact Nat.le_trans (List.length_filter_le _ _) (by rw [List.length_range]; exact Nat.le_refl _)
def askD (e : Ex) : D := .tup [.bl (Ex.twg e), .tup ((Ex.whl 0 e).map nI), .tup ((Ex.frk 0 e).map nI), .int (Ex.stk e), .int (Ex.stk e + 1)]
theorem isOk_ask (e : Ex) (hs : e.size ≤ 9000) : IsOk 3 (askD e) := by
  have h1 := whl_len e
  have h2 := frk_len e
  refine isOk_tup (fun d hd => ?_) (by simp)
  simp only [List.mem_cons, List.not_mem_nil, or_false] at hd
  rcases hd with rfl | rfl | rfl | rfl | rfl
  · exact isOk_up (isOk_bl _) (by omega)
  · exact isOk_ints _ (by omega)
  · exact isOk_ints _ (by omega)
  · exact isOk_up (isOk_int _) (by omega)
  · exact isOk_up (isOk_int _) (by omega)
theorem L_asked (e : Ex) (k : Nat) (S : Sto) (b c : Nat) (R : Rill shL b c S) (hw : e.wf = true) (hs : e.size ≤ 9000) (hk : e.depth + 8 ≤ k) : ∃ S', sem fs k 29 [.loc b, e.d] S = .ok (.val (.bl true)) S' ∧ Rill shL b c S' ∧ Oth b c S S' := by
  obtain ⟨k, rfl⟩ : ∃ j, k = j + 1 := ⟨k - 1, by omega⟩
  have ep := Ex.size_pos e
  have dp : 1 ≤ e.depth := by cases e <;> simp [Ex.depth]
  have hbS := R.lt.1
  have hcS := R.lt.2
  have hnl := numb_len e
  have e1 := L_facts e k S hw hs (by omega)
  have e2 := L_sum e k S hw hs (by omega)
  have c1 := L_is_twig e k S hw (by omega)
  have c2 := L_whole_twigs e k S hw (by omega) (by omega)
  have c3 := L_forks_of e k S hw (by omega) (by omega)
  have c4 := L_stick_number e k S hw (by omega) (by omega)
  have c5 := L_need_of e k S hw (by omega) (by omega)
  have e3 := isOk_ask e hs k S (by omega)
  have e4 := L_numbered e k S hw hs (by omega)
  have e5 := L_twigs e k S hw hs (by omega)
  have g4 : gc S (.ok (.tmp (.lst (numb e))) S) = .ok (.tmp (.lst (numb e))) S := by rw [← e4, gc_sem]
  have g5 := gc_sem (fs := fs) (k := k) (i := 26) (ds := [.frz (numb e)]) (S := S)
  rw [e5] at g5
  have htl : (S ++ (Ex.kidN 0 e).map kO ++ [O.lst ((List.range e.size).map fun x => .bl (Ex.twAt e x))])[S.length + e.size]? = some (.lst ((List.range e.size).map fun x => .bl (Ex.twAt e x))) := by
    have : S.length + e.size = (S ++ (Ex.kidN 0 e).map kO).length := by rw [List.length_append, List.length_map, Ex.kidN_len]
    rw [this, app_get0]; rfl
  have hX : ∃ X, S ++ (Ex.kidN 0 e).map kO ++ [O.lst ((List.range e.size).map fun x => .bl (Ex.twAt e x))] = S ++ X := ⟨_, List.append_assoc _ _ _⟩
  generalize hS3 : S ++ (Ex.kidN 0 e).map kO ++ [O.lst ((List.range e.size).map fun x => .bl (Ex.twAt e x))] = S3 at e5 g5 htl hX
  obtain ⟨X, hX⟩ := hX
  have R3 : Rill shL b c S3 := by rw [hX]; exact R.app X
  have bmx : bMax2 (.val (.int 0)) (.val (.int (smv e))) S = some (.val (.int (Ex.stk e))) := by
    have : bMax2 (.val (.int 0)) (.val (.int (smv e))) S = some (.val (.int (if smv e > 0 then smv e else 0))) := rfl
    rw [this, smv_stk e hw]
  have l5 : 5 ≤ sizeLine := le_line (by decide)
  have hloop := loopI_inv (g := gN 10) (body := (sSeq (sAsg 11 (eZ (eCall 21 (lCons (eV 0) (lCons (eUn uLen (eV 7)) (lNil)))))) (sIf (tNot (tE (eCall 22 (lCons (eZ (eCallK 16 0 1 [0] (lNil) (lCons (eBin bIx (eBin bIx (eV 7) (eV 11)) (eC (.int 0))) (lNil)))) (lCons (eBin bIx (eV 8) (eV 11)) (lNil)))))) (sRet (eC (.bl false))) (sNil))) (sem fs k)) (ds := span 0 3) (k := 0)
    (P := fun i δ S' => (∃ x10 x11, δ = [some (.loc b), some e.d, some (.bl (Ex.twg e)), some (.tup ((Ex.whl 0 e).map nI)), some (.tup ((Ex.frk 0 e).map nI)), some (.int (Ex.stk e)), some (askD e), some (.frz (numb e)), some (.loc (S.length + e.size)), some (.frz (kl S.length e.size)), x10, x11]) ∧ Rill shL b c S' ∧ Oth b c S3 S') (δ := [some (.loc b), some e.d, some (.bl (Ex.twg e)), some (.tup ((Ex.whl 0 e).map nI)), some (.tup ((Ex.frk 0 e).map nI)), some (.int (Ex.stk e)), some (askD e), some (.frz (numb e)), some (.loc (S.length + e.size)), some (.frz (kl S.length e.size)), none, none]) (S := S3) ⟨⟨none, none, rfl⟩, R3, Oth.rfl'⟩
    (fun i d δ S' hi ⟨⟨x10, x11, hδ⟩, R', O⟩ => by
      subst hδ
      obtain ⟨rfl, hlt⟩ := span_get hi
      obtain ⟨r, S4, f1, a1, b1, R4, O4⟩ := L_snap k S' b c e.size R' (by omega) (by omega) (by omega)
      obtain ⟨q, rfl⟩ : ∃ q : Nat, r = q := ⟨r.toNat, by omega⟩
      obtain ⟨p, dd, hp, hdd, hx⟩ := tw_ix e S4 q (by omega)
      rw [bIx_frz] at hx
      have hpo := Ex.part_ok e p (List.mem_of_getElem? hp)
      have f2 := L_is_twig p k S4 (hpo.1 hw) (by omega)
      have f3 := isOk_bl (Ex.twg p) k S4 (by omega)
      have ht4 : S4[S.length + e.size]? = some (.lst ((List.range e.size).map fun x => .bl (Ex.twAt e x))) := by
        rw [O4.2 _ (by omega) (by omega), O.2 _ (by omega) (by omega)]; exact htl
      have tb : bIx (.val (.loc (S.length + e.size))) (.val (.int (q : Int))) S4 = some (.val (.bl (Ex.twg p))) := by
        rw [bIx_loc ht4, atI_nat (v := D.bl (Ex.twAt e q)) (by rw [List.getElem?_map, List.getElem?_range (by omega)]; rfl), Ex.twAt_of hp]; rfl
      have u0 : ∀ S', uLen (.val (.frz (numb e))) S' = some (.val (.int (e.size : Int))) := fun S' => by
        unfold uLen
        simp [W.any, W.tq, W.lq, hnl]
      refine ⟨_, [some (.loc b), some e.d, some (.bl (Ex.twg e)), some (.tup ((Ex.whl 0 e).map nI)), some (.tup ((Ex.frk 0 e).map nI)), some (.int (Ex.stk e)), some (askD e), some (.frz (numb e)), some (.loc (S.length + e.size)), some (.frz (kl S.length e.size)), some (.int i), some (.int q)], S4, rfl, .inl ?_, ⟨_, _, rfl⟩, R4, O.trans O4⟩
      simp [u0, f1, gc_len, O4.1, hx, f2, f3, tb, permL])
  obtain ⟨δ', S', h1, ⟨x10, x11, rfl⟩, R', O'⟩ := hloop
  have hS' : ∀ n : Nat, n < S.length → n ≠ b → n ≠ c → S'[n]? = S[n]? := fun n hn z1 z2 => by
    rw [O'.2 n z1 z2, hX, List.getElem?_append_left hn]
  have hSl : S.length ≤ S'.length := by rw [O'.1, hX, List.length_append]; omega
  obtain ⟨S5, u1, u2, u3⟩ := gc_draw (d := .bl true) R R' hS' hSl (by simp)
  refine ⟨S5, ?_, u2, u3⟩
  rw [← u1, sem_eq (f := ⟨2, 12, m_29⟩) rfl rfl]
  have p1 : (sAsgT [2, 3, 4, 5] (eCall 27 (lCons (eV 1) (lNil)))) (sem fs k) [some (.loc b), some e.d, none, none, none, none, none, none, none, none, none, none] S = .nx [some (.loc b), some e.d, some (.bl (Ex.twg e)), some (.tup ((Ex.whl 0 e).map nI)), some (.tup ((Ex.frk 0 e).map nI)), some (.int (Ex.stk e)), none, none, none, none, none, none] S := by
    have gf : gc S (.ok (.val (factD e)) S) = .ok (.val (factD e)) S := by rw [← e1, gc_sem]
    unfold factD at e1 gf
    simp [e1, gf, setAll, W.any, W.tq]
  have p2 : ∀ a : MS, (sIf (tCmp (cNot eqW) (eV 5) (eBin bMax2 (eC (.int 0)) (eCall 28 (lCons (eV 1) (lNil))))) a (sNil)) (sem fs k) [some (.loc b), some e.d, some (.bl (Ex.twg e)), some (.tup ((Ex.whl 0 e).map nI)), some (.tup ((Ex.frk 0 e).map nI)), some (.int (Ex.stk e)), none, none, none, none, none, none] S = .nx [some (.loc b), some e.d, some (.bl (Ex.twg e)), some (.tup ((Ex.whl 0 e).map nI)), some (.tup ((Ex.frk 0 e).map nI)), some (.int (Ex.stk e)), none, none, none, none, none, none] S := fun a => by
    simp [e2, bmx]
  have p3 : (sAsg 6 (eTup (lCons (eZ (eCall 16 (lCons (eV 1) (lNil)))) (lCons (eZ (eCall 17 (lCons (eV 1) (lNil)))) (lCons (eZ (eCall 18 (lCons (eV 1) (lNil)))) (lCons (eZ (eCall 15 (lCons (eV 1) (lNil)))) (lCons (eZ (eCall 19 (lCons (eV 1) (lNil)))) (lNil)))))))) (sem fs k) [some (.loc b), some e.d, some (.bl (Ex.twg e)), some (.tup ((Ex.whl 0 e).map nI)), some (.tup ((Ex.frk 0 e).map nI)), some (.int (Ex.stk e)), none, none, none, none, none, none] S = .nx [some (.loc b), some e.d, some (.bl (Ex.twg e)), some (.tup ((Ex.whl 0 e).map nI)), some (.tup ((Ex.frk 0 e).map nI)), some (.int (Ex.stk e)), some (askD e), none, none, none, none, none] S := by
    simp [c1, c2, c3, c4, c5, l5, askD]
  have p4 : ∀ a : MS, (sIf (tNot (tE (eCall 22 (lCons (eV 6) (lCons (eTup (lCons (eV 2) (lCons (eV 3) (lCons (eV 4) (lCons (eV 5) (lCons (eBin bAdd (eV 5) (eC (.int 1))) (lNil))))))) (lNil)))))) a (sNil)) (sem fs k) [some (.loc b), some e.d, some (.bl (Ex.twg e)), some (.tup ((Ex.whl 0 e).map nI)), some (.tup ((Ex.frk 0 e).map nI)), some (.int (Ex.stk e)), some (askD e), none, none, none, none, none] S = .nx [some (.loc b), some e.d, some (.bl (Ex.twg e)), some (.tup ((Ex.whl 0 e).map nI)), some (.tup ((Ex.frk 0 e).map nI)), some (.int (Ex.stk e)), some (askD e), none, none, none, none, none] S := fun a => by
    unfold askD at e3
    simp [l5, askD, e3]
  have p5 : (sAsg 7 (eZ (eCall 25 (lCons (eV 1) (lNil))))) (sem fs k) [some (.loc b), some e.d, some (.bl (Ex.twg e)), some (.tup ((Ex.whl 0 e).map nI)), some (.tup ((Ex.frk 0 e).map nI)), some (.int (Ex.stk e)), some (askD e), none, none, none, none, none] S = .nx [some (.loc b), some e.d, some (.bl (Ex.twg e)), some (.tup ((Ex.whl 0 e).map nI)), some (.tup ((Ex.frk 0 e).map nI)), some (.int (Ex.stk e)), some (askD e), some (.frz (numb e)), none, none, none, none] S := by
    simp [e4, g4]
  have p6 : (sAsgT [8, 9] (eCall 26 (lCons (eV 7) (lNil)))) (sem fs k) [some (.loc b), some e.d, some (.bl (Ex.twg e)), some (.tup ((Ex.whl 0 e).map nI)), some (.tup ((Ex.frk 0 e).map nI)), some (.int (Ex.stk e)), some (askD e), some (.frz (numb e)), none, none, none, none] S = .nx [some (.loc b), some e.d, some (.bl (Ex.twg e)), some (.tup ((Ex.whl 0 e).map nI)), some (.tup ((Ex.frk 0 e).map nI)), some (.int (Ex.stk e)), some (askD e), some (.frz (numb e)), some (.loc (S.length + e.size)), some (.frz (kl S.length e.size)), none, none] S3 := by
    simp [e5, g5, setAll, W.any, W.tq]
  have i3 : ∀ δ S', iRange1 (eC (.int 3)) (sem fs k) δ S' = .ok (.items (span 0 3)) S' := fun δ S' => range1_ok (n := 3) (S' := S') (by simp) (by omega)
  have hb : m_29 (sem fs k) [some (.loc b), some e.d, none, none, none, none, none, none, none, none, none, none] S = .rt (.val (.bl true)) S' := by
    unfold m_29
    rw [ap_sSeq, p1, seq_nx, ap_sSeq, p2, seq_nx, ap_sSeq, p3, seq_nx, ap_sSeq, p4, seq_nx, ap_sSeq, p5, seq_nx, ap_sSeq, p6, seq_nx, ap_sSeq, sFor_items (i3 _ _), h1, seq_nx]
    simp
  show gc S (MM.fin (m_29 (sem fs k) [some (.loc b), some e.d, none, none, none, none, none, none, none, none, none, none] S)) = _
  rw [hb]
  rfl
/-! ### the given rows -/
def rowE : Ex := .op (Str.ofString "add") [.op (Str.ofString "add") [.op (Str.ofString "add") [.name (Str.ofString "a"), .name (Str.ofString "b")], .name (Str.ofString "c")], .name (Str.ofString "d")]
def testE : Ex := .op (Str.ofString "pick") [.op (Str.ofString "less") [.name (Str.ofString "a"), .num 3], .op (Str.ofString "neg") [.name (Str.ofString "b")], .op (Str.ofString "mul") [.num 2, .name (Str.ofString "c")]]
def sixE (t : Ex) : Ex := .op (Str.ofString "max") [t, t, t, t, t, t]
def es1 (t : Ex) : List Ex := [rowE, testE, t, sixE t, .op (Str.ofString "neg") [.op (Str.ofString "half") [sixE t]]]
def es2 (t : Ex) : List Ex := [.op (Str.ofString "mul") [sixE t, t], .op (Str.ofString "sub") [t, t], .op (Str.ofString "not") [.op (Str.ofString "same") [t, .num 0]], .op (Str.ofString "add") [.op (Str.ofString "sub") [t, t], .op (Str.ofString "sub") [t, t]]]
def es3 (t : Ex) : List Ex := [.op (Str.ofString "pick") [.yes, t, .num 1], .op (Str.ofString "pick") [.op (Str.ofString "not") [.no], .op (Str.ofString "add") [t, t, t], .num 1], .num 0]
def rowD' (e : Ex) : D := .tup [e.d, factD e]
abbrev spanD (a n : Nat) (m : Nat) : List D := (List.range m).map fun (i : Nat) => D.int ((a : Int) + (n : Int) * (i : Int))
section
variable {t : Ex} {n : Nat} (h : TwE n t)
include h
theorem fa_t : factD t = .tup [.bl true, .tup [.int 0], .tup [], .int 0] := by
  unfold factD
  rw [h.2.1, Ex.whl_twg t 0 h.2.1, Ex.frk_twg t h.2.1, Ex.stk_twg t h.1 h.2.1]
  rfl
theorem fa_six : factD (sixE t) = .tup [.bl false, .tup (spanD 1 n 6), .tup [.int 0], .int 5] := by
  obtain ⟨h1, h2, h3, h4⟩ := h
  have hr : List.range 6 = [0, 1, 2, 3, 4, 5] := rfl
  simp [factD, sixE, Ex.twg, Ex.twgL, Ex.whl, Ex.whlL, Ex.frk, Ex.frkL, Ex.allT, Ex.stk, Ex.stkS, Ex.stkZ, h2, h3, Ex.whl_twg t _ h2, Ex.frk_twg t h2, Ex.stk_twg t h1 h2, spanD, hr]
  omega
theorem fa_neg : factD (.op (Str.ofString "neg") [.op (Str.ofString "half") [sixE t]]) = .tup [.bl false, .tup (spanD 3 n 6), .tup [.int 2], .int 5] := by
  obtain ⟨h1, h2, h3, h4⟩ := h
  have hr : List.range 6 = [0, 1, 2, 3, 4, 5] := rfl
  simp [factD, sixE, Ex.twg, Ex.twgL, Ex.whl, Ex.whlL, Ex.frk, Ex.frkL, Ex.allT, Ex.stk, Ex.stkS, Ex.stkZ, h2, h3, Ex.whl_twg t _ h2, Ex.frk_twg t h2, Ex.stk_twg t h1 h2, spanD, hr]
  omega
theorem fa_mul : factD (.op (Str.ofString "mul") [sixE t, t]) = .tup [.bl false, .tup (spanD 2 n 7), .tup [.int 1], .int 6] := by
  obtain ⟨h1, h2, h3, h4⟩ := h
  have hr : List.range 7 = [0, 1, 2, 3, 4, 5, 6] := rfl
  simp [factD, sixE, Ex.twg, Ex.twgL, Ex.whl, Ex.whlL, Ex.frk, Ex.frkL, Ex.allT, Ex.stk, Ex.stkS, Ex.stkZ, Ex.size, Ex.sizeL, h2, h3, Ex.whl_twg t _ h2, Ex.frk_twg t h2, Ex.stk_twg t h1 h2, spanD, hr]
  omega
theorem fa_sub : factD (.op (Str.ofString "sub") [t, t]) = .tup [.bl false, .tup [.int 1, .int (1 + (n : Int))], .tup [.int 0], .int 1] := by
  obtain ⟨h1, h2, h3, h4⟩ := h
  simp [factD, Ex.twg, Ex.twgL, Ex.whl, Ex.whlL, Ex.frk, Ex.frkL, Ex.allT, Ex.stk, Ex.stkS, Ex.stkZ, Ex.size, Ex.sizeL, h2, h3, Ex.whl_twg t _ h2, Ex.frk_twg t h2, Ex.stk_twg t h1 h2]
theorem fa_not : factD (.op (Str.ofString "not") [.op (Str.ofString "same") [t, .num 0]]) = .tup [.bl false, .tup [.int 2, .int (2 + (n : Int))], .tup [.int 1], .int 1] := by
  obtain ⟨h1, h2, h3, h4⟩ := h
  simp [factD, Ex.twg, Ex.twgL, Ex.whl, Ex.whlL, Ex.frk, Ex.frkL, Ex.allT, Ex.stk, Ex.stkS, Ex.stkZ, Ex.size, Ex.sizeL, h2, h3, Ex.whl_twg t _ h2, Ex.frk_twg t h2, Ex.stk_twg t h1 h2]
theorem fa_add : factD (.op (Str.ofString "add") [.op (Str.ofString "sub") [t, t], .op (Str.ofString "sub") [t, t]]) = .tup [.bl false, .tup [.int 2, .int (2 + (n : Int)), .int (3 + 2 * (n : Int)), .int (3 + 3 * (n : Int))], .tup [.int 1, .int (2 + 2 * (n : Int))], .int 2] := by
  obtain ⟨h1, h2, h3, h4⟩ := h
  simp [factD, Ex.twg, Ex.twgL, Ex.whl, Ex.whlL, Ex.frk, Ex.frkL, Ex.allT, Ex.stk, Ex.stkS, Ex.stkZ, Ex.size, Ex.sizeL, h2, h3, Ex.whl_twg t _ h2, Ex.frk_twg t h2, Ex.stk_twg t h1 h2]
  omega
theorem fa_pick : factD (.op (Str.ofString "pick") [.yes, t, .num 1]) = .tup [.bl false, .tup [.int 1, .int 2, .int (2 + (n : Int))], .tup [.int 0], .int 2] := by
  obtain ⟨h1, h2, h3, h4⟩ := h
  simp [factD, Ex.twg, Ex.twgL, Ex.whl, Ex.whlL, Ex.frk, Ex.frkL, Ex.allT, Ex.stk, Ex.stkS, Ex.stkZ, Ex.size, Ex.sizeL, h2, h3, Ex.whl_twg t _ h2, Ex.frk_twg t h2, Ex.stk_twg t h1 h2]
theorem fa_pick2 : factD (.op (Str.ofString "pick") [.op (Str.ofString "not") [.no], .op (Str.ofString "add") [t, t, t], .num 1]) = .tup [.bl false, .tup [.int 1, .int 4, .int (4 + (n : Int)), .int (4 + 2 * (n : Int)), .int (4 + 3 * (n : Int))], .tup [.int 3], .int 4] := by
  obtain ⟨h1, h2, h3, h4⟩ := h
  simp [factD, Ex.twg, Ex.twgL, Ex.whl, Ex.whlL, Ex.frk, Ex.frkL, Ex.allT, Ex.stk, Ex.stkS, Ex.stkZ, Ex.size, Ex.sizeL, h2, h3, Ex.whl_twg t _ h2, Ex.frk_twg t h2, Ex.stk_twg t h1 h2]
  omega
theorem es_ok (hn : n ≤ 6) : ∀ e ∈ es1 t ++ es2 t ++ es3 t, e.wf = true ∧ e.size ≤ 100 ∧ e.depth ≤ 20 := by
  obtain ⟨h1, h2, h3, h4⟩ := h
  have lw : ∀ s : String, Ex.isLeafW (Str.ofString s) = false → True := fun _ _ => trivial
  obtain ⟨w1, w2, w3, w4, w5, w6, w7, w8, w9, w10⟩ := lfW
  have w11 := lfNot
  have w12 := lfNeg
  have w13 := lfHalf
  intro e he
  simp only [es1, es2, es3, List.cons_append, List.nil_append, List.mem_cons, List.not_mem_nil, or_false] at he
  rcases he with rfl | rfl | rfl | rfl | rfl | rfl | rfl | rfl | rfl | rfl | rfl | rfl <;>
    simp [rowE, testE, sixE, Ex.wf, Ex.wfL, Ex.size, Ex.sizeL, Ex.depth, Ex.depthL, w1, w2, w3, w4, w5, w6, w7, w8, w9, w10, w11, w12, w13, h1, h3, h4] <;> omega
end
theorem fa_row : factD rowE = .tup [.bl false, .tup [.int 3, .int 4, .int 5, .int 6], .tup [.int 2], .int 3] := rfl
theorem fa_test : factD testE = .tup [.bl false, .tup [.int 2, .int 3, .int 4, .int 7, .int 8], .tup [.int 1, .int 6], .int 3] := rfl
theorem fa_zero : factD (.num 0) = .tup [.bl true, .tup [.int 0], .tup [], .int 0] := rfl

theorem hand_loop (k : Nat) (b c : Nat) (x1 x2 x3 x4 x5 x6 x9 : Option D) (hk : 40 ≤ k) : ∀ (es : List Ex) (S : Sto) (x7 x8 : Option D), (∀ e ∈ es, e.wf = true ∧ e.size ≤ 100 ∧ e.depth ≤ 20) → Rill shL b c S → ∃ y7 y8 S', loopI (gT [7, 8]) ((sIf (tOr (tCmp (cNot eqW) (eCall 27 (lCons (eV 7) (lNil))) (eV 8)) (tNot (tE (eCall 29 (lCons (eV 0) (lCons (eV 7) (lNil))))))) (sRet (eC (.bl false))) (sNil)) (sem fs k)) (es.map rowD') [some (.loc b), x1, x2, x3, x4, x5, x6, x7, x8, x9] S = .nx [some (.loc b), x1, x2, x3, x4, x5, x6, y7, y8, x9] S' ∧ Rill shL b c S' ∧ Oth b c S S'
  | [], S, x7, x8, _, R => ⟨x7, x8, S, rfl, R, Oth.rfl'⟩
  | e :: es, S, x7, x8, h, R => by
    obtain ⟨h1, h2, h3⟩ := h e List.mem_cons_self
    have e1 := L_facts e k S h1 (by omega) (by omega)
    obtain ⟨S1, e2, R1, O1⟩ := L_asked e k S b c R h1 (by omega) (by omega)
    have e3 := eqW_fact e S
    obtain ⟨y7, y8, S2, hy, R2, O2⟩ := hand_loop k b c x1 x2 x3 x4 x5 x6 x9 hk es S1 (some e.d) (some (factD e)) (fun x hx => h x (List.mem_cons_of_mem _ hx)) R1
    refine ⟨y7, y8, S2, ?_, R2, O1.trans O2⟩
    have gf : gc S (.ok (.val (factD e)) S) = .ok (.val (factD e)) S := by rw [← e1, gc_sem]
    rw [List.map_cons, ← hy]
    simp [loopI, gT, setAll, rowD', W.any, W.tq, e1, gf, e3, e2, gc_len, O1.1]

theorem L_hand (k : Nat) (S : Sto) (b c : Nat) (R : Rill shL b c S) (hk : 50 ≤ k) : ∃ S', sem fs k 30 [.loc b] S = .ok (.val (.bl true)) S' ∧ Rill shL b c S' ∧ Oth b c S S' := by
  obtain ⟨k, rfl⟩ : ∃ j, k = j + 1 := ⟨k - 1, by omega⟩
  obtain ⟨r, S1, e1, a1, b1, R1, O1⟩ := L_snap k S b c 6 R (by omega) (by omega) (by omega)
  obtain ⟨n, hn⟩ : ∃ n : Nat, 1 + r = n := ⟨(1 + r).toNat, by omega⟩
  obtain ⟨t, S2, e2, T, R2, O2⟩ := L_twig false k S1 b c n n rfl R1 (by omega) (by omega) (by omega)
  have hn6 : n ≤ 6 := by omega
  clear hn6
  have hn6 : n ≤ 6 := by omega
  have hok := es_ok T hn6
  obtain ⟨y7, y8, S3, e3, R3, O3⟩ := hand_loop k b c (some rowE.d) (some testE.d) (some (.int n)) (some t.d) (some (sixE t).d) (some (.frz ((es1 t ++ es2 t ++ es3 t).map rowD'))) none (by omega) (es1 t ++ es2 t ++ es3 t) S2 none none hok R2
  have l1 : 1 ≤ sizeLine := le_line (by decide)
  have l2 : 2 ≤ sizeLine := le_line (by decide)
  have l3 : 3 ≤ sizeLine := le_line (by decide)
  have l4 : 4 ≤ sizeLine := le_line (by decide)
  have l5 : 5 ≤ sizeLine := le_line (by decide)
  have l6 : 6 ≤ sizeLine := le_line (by decide)
  have l7 : 7 ≤ sizeLine := le_line (by decide)
  have bn : ∀ (i : Int) (S : Sto), bMul (.val (.int n)) (.val (.int i)) S = some (.val (.int ((n : Int) * i))) := fun i S => bMul_l _ _ (by omega)
  have b2 : ∀ S, bMul (.val (.int 2)) (.val (.int n)) S = some (.val (.int (2 * (n : Int)))) := fun S => bMul_l _ _ (by omega)
  have b3 : ∀ S, bMul (.val (.int 3)) (.val (.int n)) S = some (.val (.int (3 * (n : Int)))) := fun S => bMul_l _ _ (by omega)
  have m6 : ∀ d S, bMul (.val (.tup [d])) (.val (.int 6)) S = some (.val (.tup [d, d, d, d, d, d])) := fun d S => mul_one S d 6 6 rfl (by omega) (by omega)
  have cm : ∀ (a m : Nat) (hm : m ≤ 10) (x0 x1 x2 x4 x5 x6 x7 x8 : Option D), compI (gN 9) (tYes (sem fs k)) (bnd (eBin bAdd (eC (.int (a : Int))) (eBin bMul (eV 3) (eV 9))) (sem fs k)) [x0, x1, x2, some (.int n), x4, x5, x6, x7, x8, none] (span 0 m) S2 = .ok (spanD a n m) S2 := fun a m hm x0 x1 x2 x4 x5 x6 x7 x8 => by
    rw [span0]
    exact compI_map (enc := nI) (f := fun (i : Nat) => D.int ((a : Int) + (n : Int) * (i : Int))) fun i hi => ⟨[x0, x1, x2, some (.int n), x4, x5, x6, x7, x8, some (nI i)], rfl, rfl, by simp [bn]⟩
  have i6 : ∀ δ S', iRange1 (eC (.int 6)) (sem fs k) δ S' = .ok (.items (span 0 6)) S' := fun δ S' => range1_ok (n := 6) (S' := S') (by simp) (by omega)
  have i7 : ∀ δ S', iRange1 (eC (.int 7)) (sem fs k) δ S' = .ok (.items (span 0 7)) S' := fun δ S' => range1_ok (n := 7) (S' := S') (by simp) (by omega)
  have ct : ∀ (m : Nat) (lst : List D) (x6 x7 x8 : Option D) (a : Nat) (ca : Int) (hm : m ≤ 10) (ha : ca = a) (it : MI) (hi : ∀ δ S', it (sem fs k) δ S' = .ok (.items (span 0 m)) S'), (eUn uTuple (eLc it [9] (gN 9) (tYes) (eBin bAdd (eC (.int ca)) (eBin bMul (eV 3) (eV 9))))) (sem fs k) [some (.loc b), some rowE.d, some testE.d, some (.int n), some t.d, some (sixE t).d, x6, x7, x8, none] S2 = .ok (.val (.tup (spanD a n m))) S2 := fun m lst x6 x7 x8 a ca hm ha it hi => by
    subst ha
    have lm : (span 0 m).length ≤ sizeLine := le_line (by rw [span_len]; omega)
    have ut : ∀ ds : List D, uTuple (.tmp (.lst ds)) S2 = some (.val (.tup ds)) := fun ds => by
      unfold uTuple
      simp [W.any, W.lq, W.tq]
    simp only [ap_eUn, ap_eLc, hi, then_ok, lm, if_true, wipeD, List.set_cons_succ, List.set_cons_zero]
    rw [cm a m hm]
    simp only [then_ok, ut, o2R_some]
  have t1 := fun x6 x7 x8 => ct 6 [] x6 x7 x8 1 1 (by omega) rfl _ i6
  have t3 := fun x6 x7 x8 => ct 6 [] x6 x7 x8 3 3 (by omega) rfl _ i6
  have t2 := fun x6 x7 x8 => ct 7 [] x6 x7 x8 2 2 (by omega) rfl _ i7

  have p1 : (sAsg 1 (eTup (lCons (eC (.str (Str.ofString "add"))) (lCons (eTup (lCons (eC (.str (Str.ofString "add"))) (lCons (eTup (lCons (eC (.str (Str.ofString "add"))) (lCons (eTup (lCons (eC (.str (Str.ofString "name"))) (lCons (eC (.str (Str.ofString "a"))) (lNil)))) (lCons (eTup (lCons (eC (.str (Str.ofString "name"))) (lCons (eC (.str (Str.ofString "b"))) (lNil)))) (lNil))))) (lCons (eTup (lCons (eC (.str (Str.ofString "name"))) (lCons (eC (.str (Str.ofString "c"))) (lNil)))) (lNil))))) (lCons (eTup (lCons (eC (.str (Str.ofString "name"))) (lCons (eC (.str (Str.ofString "d"))) (lNil)))) (lNil)))))) (sem fs k) [some (.loc b), none, none, none, none, none, none, none, none, none] S = .nx [some (.loc b), some rowE.d, none, none, none, none, none, none, none, none] S := by
    simp [rowE, Ex.d, Ex.dL, l2, l3]

  have p2 : (sAsg 2 (eTup (lCons (eC (.str (Str.ofString "pick"))) (lCons (eTup (lCons (eC (.str (Str.ofString "less"))) (lCons (eTup (lCons (eC (.str (Str.ofString "name"))) (lCons (eC (.str (Str.ofString "a"))) (lNil)))) (lCons (eTup (lCons (eC (.str (Str.ofString "num"))) (lCons (eC (.int 3)) (lNil)))) (lNil))))) (lCons (eTup (lCons (eC (.str (Str.ofString "neg"))) (lCons (eTup (lCons (eC (.str (Str.ofString "name"))) (lCons (eC (.str (Str.ofString "b"))) (lNil)))) (lNil)))) (lCons (eTup (lCons (eC (.str (Str.ofString "mul"))) (lCons (eTup (lCons (eC (.str (Str.ofString "num"))) (lCons (eC (.int 2)) (lNil)))) (lCons (eTup (lCons (eC (.str (Str.ofString "name"))) (lCons (eC (.str (Str.ofString "c"))) (lNil)))) (lNil))))) (lNil))))))) (sem fs k) [some (.loc b), some rowE.d, none, none, none, none, none, none, none, none] S = .nx [some (.loc b), some rowE.d, some testE.d, none, none, none, none, none, none, none] S := by
    simp [testE, Ex.d, Ex.dL, l2, l3, l4]

  have p3 : (sAsg 3 (eBin bAdd (eC (.int 1)) (eCall 21 (lCons (eV 0) (lCons (eC (.int 6)) (lNil)))))) (sem fs k) [some (.loc b), some rowE.d, some testE.d, none, none, none, none, none, none, none] S = .nx [some (.loc b), some rowE.d, some testE.d, some (.int n), none, none, none, none, none, none] S1 := by
    simp [e1, hn, gc_len, O1.1]

  have p4 : (sAsg 4 (eZ (eCall 23 (lCons (eV 0) (lCons (eC (.bl false)) (lCons (eV 3) (lNil))))))) (sem fs k) [some (.loc b), some rowE.d, some testE.d, some (.int n), none, none, none, none, none, none] S1 = .nx [some (.loc b), some rowE.d, some testE.d, some (.int n), some t.d, none, none, none, none, none] S2 := by
    simp [e2, gc_len, O2.1]

  have p5 : (sAsg 5 (eBin bAdd (eTup (lCons (eC (.str (Str.ofString "max"))) (lNil))) (eBin bMul (eTup (lCons (eV 4) (lNil))) (eC (.int 6))))) (sem fs k) [some (.loc b), some rowE.d, some testE.d, some (.int n), some t.d, none, none, none, none, none] S2 = .nx [some (.loc b), some rowE.d, some testE.d, some (.int n), some t.d, some (sixE t).d, none, none, none, none] S2 := by
    simp [l1, m6, sixE, Ex.d, Ex.dL, add_tt]

  have q1 : (es1 t).map rowD' = [.tup [rowE.d, .tup [.bl false, .tup [.int 3, .int 4, .int 5, .int 6], .tup [.int 2], .int 3]], .tup [testE.d, .tup [.bl false, .tup [.int 2, .int 3, .int 4, .int 7, .int 8], .tup [.int 1, .int 6], .int 3]], .tup [t.d, .tup [.bl true, .tup [.int 0], .tup [], .int 0]], .tup [(sixE t).d, .tup [.bl false, .tup (spanD 1 n 6), .tup [.int 0], .int 5]], .tup [.tup [.str (Str.ofString "neg"), .tup [.str (Str.ofString "half"), (sixE t).d]], .tup [.bl false, .tup (spanD 3 n 6), .tup [.int 2], .int 5]]] := by
    simp only [es1, List.map_cons, List.map_nil, rowD', fa_row, fa_test, fa_t T, fa_six T, fa_neg T, Ex.d, Ex.dL]

  have q2 : (es2 t).map rowD' = [.tup [.tup [.str (Str.ofString "mul"), (sixE t).d, t.d], .tup [.bl false, .tup (spanD 2 n 7), .tup [.int 1], .int 6]], .tup [.tup [.str (Str.ofString "sub"), t.d, t.d], .tup [.bl false, .tup [.int 1, .int (1 + (n : Int))], .tup [.int 0], .int 1]], .tup [.tup [.str (Str.ofString "not"), .tup [.str (Str.ofString "same"), t.d, .tup [.str (Str.ofString "num"), .int 0]]], .tup [.bl false, .tup [.int 2, .int (2 + (n : Int))], .tup [.int 1], .int 1]], .tup [.tup [.str (Str.ofString "add"), .tup [.str (Str.ofString "sub"), t.d, t.d], .tup [.str (Str.ofString "sub"), t.d, t.d]], .tup [.bl false, .tup [.int 2, .int (2 + (n : Int)), .int (3 + 2 * (n : Int)), .int (3 + 3 * (n : Int))], .tup [.int 1, .int (2 + 2 * (n : Int))], .int 2]]] := by
    simp only [es2, List.map_cons, List.map_nil, rowD', fa_mul T, fa_sub T, fa_not T, fa_add T, Ex.d, Ex.dL]

  have q3 : (es3 t).map rowD' = [.tup [.tup [.str (Str.ofString "pick"), .tup [.str (Str.ofString "yes")], t.d, .tup [.str (Str.ofString "num"), .int 1]], .tup [.bl false, .tup [.int 1, .int 2, .int (2 + (n : Int))], .tup [.int 0], .int 2]], .tup [.tup [.str (Str.ofString "pick"), .tup [.str (Str.ofString "not"), .tup [.str (Str.ofString "no")]], .tup [.str (Str.ofString "add"), t.d, t.d, t.d], .tup [.str (Str.ofString "num"), .int 1]], .tup [.bl false, .tup [.int 1, .int 4, .int (4 + (n : Int)), .int (4 + 2 * (n : Int)), .int (4 + 3 * (n : Int))], .tup [.int 3], .int 4]], .tup [.tup [.str (Str.ofString "num"), .int 0], .tup [.bl true, .tup [.int 0], .tup [], .int 0]]] := by
    simp only [es3, List.map_cons, List.map_nil, rowD', fa_pick T, fa_pick2 T, fa_zero, Ex.d, Ex.dL]

  have p6 : (sAsg 6 (eZ (eLst (lCons (eTup (lCons (eV 1) (lCons (eTup (lCons (eC (.bl false)) (lCons (eTup (lCons (eC (.int 3)) (lCons (eC (.int 4)) (lCons (eC (.int 5)) (lCons (eC (.int 6)) (lNil)))))) (lCons (eTup (lCons (eC (.int 2)) (lNil))) (lCons (eC (.int 3)) (lNil)))))) (lNil)))) (lCons (eTup (lCons (eV 2) (lCons (eTup (lCons (eC (.bl false)) (lCons (eTup (lCons (eC (.int 2)) (lCons (eC (.int 3)) (lCons (eC (.int 4)) (lCons (eC (.int 7)) (lCons (eC (.int 8)) (lNil))))))) (lCons (eTup (lCons (eC (.int 1)) (lCons (eC (.int 6)) (lNil)))) (lCons (eC (.int 3)) (lNil)))))) (lNil)))) (lCons (eTup (lCons (eV 4) (lCons (eTup (lCons (eC (.bl true)) (lCons (eTup (lCons (eC (.int 0)) (lNil))) (lCons (eTup (lNil)) (lCons (eC (.int 0)) (lNil)))))) (lNil)))) (lCons (eTup (lCons (eV 5) (lCons (eTup (lCons (eC (.bl false)) (lCons (eUn uTuple (eLc (iRange1 (eC (.int 6))) [9] (gN 9) (tYes) (eBin bAdd (eC (.int 1)) (eBin bMul (eV 3) (eV 9))))) (lCons (eTup (lCons (eC (.int 0)) (lNil))) (lCons (eC (.int 5)) (lNil)))))) (lNil)))) (lCons (eTup (lCons (eTup (lCons (eC (.str (Str.ofString "neg"))) (lCons (eTup (lCons (eC (.str (Str.ofString "half"))) (lCons (eV 5) (lNil)))) (lNil)))) (lCons (eTup (lCons (eC (.bl false)) (lCons (eUn uTuple (eLc (iRange1 (eC (.int 6))) [9] (gN 9) (tYes) (eBin bAdd (eC (.int 3)) (eBin bMul (eV 3) (eV 9))))) (lCons (eTup (lCons (eC (.int 2)) (lNil))) (lCons (eC (.int 5)) (lNil)))))) (lNil)))) (lNil))))))))) (sem fs k) [some (.loc b), some rowE.d, some testE.d, some (.int n), some t.d, some (sixE t).d, none, none, none, none] S2 = .nx [some (.loc b), some rowE.d, some testE.d, some (.int n), some t.d, some (sixE t).d, some (.frz ((es1 t).map rowD')), none, none, none] S2 := by
    rw [q1]
    simp [-ap_eUn, t1, t3, l1, l2, l3, l4, l5]

  have p7 : (sAsg 6 (eZ (eBin bAdd (eV 6) (eLst (lCons (eTup (lCons (eTup (lCons (eC (.str (Str.ofString "mul"))) (lCons (eV 5) (lCons (eV 4) (lNil))))) (lCons (eTup (lCons (eC (.bl false)) (lCons (eUn uTuple (eLc (iRange1 (eC (.int 7))) [9] (gN 9) (tYes) (eBin bAdd (eC (.int 2)) (eBin bMul (eV 3) (eV 9))))) (lCons (eTup (lCons (eC (.int 1)) (lNil))) (lCons (eC (.int 6)) (lNil)))))) (lNil)))) (lCons (eTup (lCons (eTup (lCons (eC (.str (Str.ofString "sub"))) (lCons (eV 4) (lCons (eV 4) (lNil))))) (lCons (eTup (lCons (eC (.bl false)) (lCons (eTup (lCons (eC (.int 1)) (lCons (eBin bAdd (eC (.int 1)) (eV 3)) (lNil)))) (lCons (eTup (lCons (eC (.int 0)) (lNil))) (lCons (eC (.int 1)) (lNil)))))) (lNil)))) (lCons (eTup (lCons (eTup (lCons (eC (.str (Str.ofString "not"))) (lCons (eTup (lCons (eC (.str (Str.ofString "same"))) (lCons (eV 4) (lCons (eTup (lCons (eC (.str (Str.ofString "num"))) (lCons (eC (.int 0)) (lNil)))) (lNil))))) (lNil)))) (lCons (eTup (lCons (eC (.bl false)) (lCons (eTup (lCons (eC (.int 2)) (lCons (eBin bAdd (eC (.int 2)) (eV 3)) (lNil)))) (lCons (eTup (lCons (eC (.int 1)) (lNil))) (lCons (eC (.int 1)) (lNil)))))) (lNil)))) (lCons (eTup (lCons (eTup (lCons (eC (.str (Str.ofString "add"))) (lCons (eTup (lCons (eC (.str (Str.ofString "sub"))) (lCons (eV 4) (lCons (eV 4) (lNil))))) (lCons (eTup (lCons (eC (.str (Str.ofString "sub"))) (lCons (eV 4) (lCons (eV 4) (lNil))))) (lNil))))) (lCons (eTup (lCons (eC (.bl false)) (lCons (eTup (lCons (eC (.int 2)) (lCons (eBin bAdd (eC (.int 2)) (eV 3)) (lCons (eBin bAdd (eC (.int 3)) (eBin bMul (eC (.int 2)) (eV 3))) (lCons (eBin bAdd (eC (.int 3)) (eBin bMul (eC (.int 3)) (eV 3))) (lNil)))))) (lCons (eTup (lCons (eC (.int 1)) (lCons (eBin bAdd (eC (.int 2)) (eBin bMul (eC (.int 2)) (eV 3))) (lNil)))) (lCons (eC (.int 2)) (lNil)))))) (lNil)))) (lNil))))))))) (sem fs k) [some (.loc b), some rowE.d, some testE.d, some (.int n), some t.d, some (sixE t).d, some (.frz ((es1 t).map rowD')), none, none, none] S2 = .nx [some (.loc b), some rowE.d, some testE.d, some (.int n), some t.d, some (sixE t).d, some (.frz ((es1 t ++ es2 t).map rowD')), none, none, none] S2 := by
    have aa := fun S => add_ft S ((es1 t).map rowD') ((es2 t).map rowD') (by simp [es1, es2])
    rw [List.map_append]
    rw [q2] at aa ⊢
    simp [-ap_eUn, t2, l1, l2, l3, l4, l5, b2, b3, aa]

  have p8 : (sAsg 6 (eZ (eBin bAdd (eV 6) (eLst (lCons (eTup (lCons (eTup (lCons (eC (.str (Str.ofString "pick"))) (lCons (eTup (lCons (eC (.str (Str.ofString "yes"))) (lNil))) (lCons (eV 4) (lCons (eTup (lCons (eC (.str (Str.ofString "num"))) (lCons (eC (.int 1)) (lNil)))) (lNil)))))) (lCons (eTup (lCons (eC (.bl false)) (lCons (eTup (lCons (eC (.int 1)) (lCons (eC (.int 2)) (lCons (eBin bAdd (eC (.int 2)) (eV 3)) (lNil))))) (lCons (eTup (lCons (eC (.int 0)) (lNil))) (lCons (eC (.int 2)) (lNil)))))) (lNil)))) (lCons (eTup (lCons (eTup (lCons (eC (.str (Str.ofString "pick"))) (lCons (eTup (lCons (eC (.str (Str.ofString "not"))) (lCons (eTup (lCons (eC (.str (Str.ofString "no"))) (lNil))) (lNil)))) (lCons (eTup (lCons (eC (.str (Str.ofString "add"))) (lCons (eV 4) (lCons (eV 4) (lCons (eV 4) (lNil)))))) (lCons (eTup (lCons (eC (.str (Str.ofString "num"))) (lCons (eC (.int 1)) (lNil)))) (lNil)))))) (lCons (eTup (lCons (eC (.bl false)) (lCons (eTup (lCons (eC (.int 1)) (lCons (eC (.int 4)) (lCons (eBin bAdd (eC (.int 4)) (eV 3)) (lCons (eBin bAdd (eC (.int 4)) (eBin bMul (eC (.int 2)) (eV 3))) (lCons (eBin bAdd (eC (.int 4)) (eBin bMul (eC (.int 3)) (eV 3))) (lNil))))))) (lCons (eTup (lCons (eC (.int 3)) (lNil))) (lCons (eC (.int 4)) (lNil)))))) (lNil)))) (lCons (eTup (lCons (eTup (lCons (eC (.str (Str.ofString "num"))) (lCons (eC (.int 0)) (lNil)))) (lCons (eTup (lCons (eC (.bl true)) (lCons (eTup (lCons (eC (.int 0)) (lNil))) (lCons (eTup (lNil)) (lCons (eC (.int 0)) (lNil)))))) (lNil)))) (lNil)))))))) (sem fs k) [some (.loc b), some rowE.d, some testE.d, some (.int n), some t.d, some (sixE t).d, some (.frz ((es1 t ++ es2 t).map rowD')), none, none, none] S2 = .nx [some (.loc b), some rowE.d, some testE.d, some (.int n), some t.d, some (sixE t).d, some (.frz ((es1 t ++ es2 t ++ es3 t).map rowD')), none, none, none] S2 := by
    have aa := fun S => add_ft S ((es1 t ++ es2 t).map rowD') ((es3 t).map rowD') (by simp [es1, es2, es3])
    rw [List.map_append (l₁ := es1 t ++ es2 t)]
    rw [q3] at aa ⊢
    generalize (es1 t ++ es2 t).map rowD' = zs at aa ⊢
    simp [-ap_eUn, l1, l2, l3, l4, l5, b2, b3, aa]

  have hro : rowE.wf = true ∧ rowE.size ≤ 20 ∧ rowE.depth ≤ 9 := by decide +kernel
  have hte : testE.wf = true ∧ testE.size ≤ 20 ∧ testE.depth ≤ 9 := by decide +kernel
  have c1 : sem fs k 17 [rowE.d] S3 = .ok (.val (.tup [.int 3, .int 4, .int 5, .int 6])) S3 := L_whole_twigs rowE k S3 hro.1 (by omega) (by omega)
  have c2 : sem fs k 18 [testE.d] S3 = .ok (.val (.tup [.int 1, .int 6])) S3 := L_forks_of testE k S3 hte.1 (by omega) (by omega)
  have c3 : sem fs k 15 [rowE.d] S3 = .ok (.val (.int 3)) S3 := L_stick_number rowE k S3 hro.1 (by omega) (by omega)
  have c4 : sem fs k 19 [testE.d] S3 = .ok (.val (.int 4)) S3 := L_need_of testE k S3 hte.1 (by omega) (by omega)
  have c5 : sem fs k 22 [.tup [.tup [.int 3, .int 4, .int 5, .int 6], .tup [.int 1, .int 6], .int 3, .int 4], .tup [.tup [.int 3, .int 4, .int 5, .int 6], .tup [.int 1, .int 6], .int 3, .int 4]] S3 = .ok (.val (.bl true)) S3 := by
    refine isOk_tup (n := 2) (fun d hd => ?_) (by simp) k S3 (by omega)
    simp only [List.mem_cons, List.not_mem_nil, or_false] at hd
    rcases hd with rfl | rfl | rfl | rfl
    · exact isOk_ints [3, 4, 5, 6] (by simp)
    · exact isOk_ints [1, 6] (by simp)
    · exact isOk_up (isOk_int _) (by omega)
    · exact isOk_up (isOk_int _) (by omega)

  have p9 : (sRet (eCall 22 (lCons (eTup (lCons (eZ (eCallK 17 0 1 [0] (lNil) (lCons (eV 1) (lNil)))) (lCons (eZ (eCallK 18 0 1 [0] (lNil) (lCons (eV 2) (lNil)))) (lCons (eZ (eCallK 15 0 1 [0] (lNil) (lCons (eV 1) (lNil)))) (lCons (eZ (eCallK 19 0 1 [0] (lNil) (lCons (eV 2) (lNil)))) (lNil)))))) (lCons (eTup (lCons (eTup (lCons (eC (.int 3)) (lCons (eC (.int 4)) (lCons (eC (.int 5)) (lCons (eC (.int 6)) (lNil)))))) (lCons (eTup (lCons (eC (.int 1)) (lCons (eC (.int 6)) (lNil)))) (lCons (eC (.int 3)) (lCons (eC (.int 4)) (lNil)))))) (lNil))))) (sem fs k) [some (.loc b), some rowE.d, some testE.d, some (.int n), some t.d, some (sixE t).d, some (.frz ((es1 t ++ es2 t ++ es3 t).map rowD')), y7, y8, none] S3 = .rt (.val (.bl true)) S3 := by
    simp [permL, c1, c2, c3, c4, c5, l2, l4]

  have hO := O1.trans (O2.trans O3)
  obtain ⟨S5, u1, u2, u3⟩ := gc_draw (d := .bl true) R R3 (fun n _ h1 h2 => hO.2 n h1 h2) (by rw [hO.1]; omega) (by simp)
  refine ⟨S5, ?_, u2, u3⟩
  rw [← u1, sem_eq (f := ⟨1, 10, m_30⟩) rfl rfl]
  have lf : ((es1 t ++ es2 t ++ es3 t).map rowD').length ≤ sizeLine := le_line (by simp [es1, es2, es3])
  have i9 : (iE (eV 6)) (sem fs k) [some (.loc b), some rowE.d, some testE.d, some (.int n), some t.d, some (sixE t).d, some (.frz ((es1 t ++ es2 t ++ es3 t).map rowD')), none, none, none] S2 = .ok (.items ((es1 t ++ es2 t ++ es3 t).map rowD')) S2 := by
    simp
  have hb : m_30 (sem fs k) [some (.loc b), none, none, none, none, none, none, none, none, none] S = .rt (.val (.bl true)) S3 := by
    unfold m_30
    rw [ap_sSeq, p1, seq_nx, ap_sSeq, p2, seq_nx, ap_sSeq, p3, seq_nx, ap_sSeq, p4, seq_nx, ap_sSeq, p5, seq_nx, ap_sSeq, p6, seq_nx, ap_sSeq, p7, seq_nx, ap_sSeq, p8, seq_nx, ap_sSeq, sFor_items i9, e3, seq_nx, p9]
  show gc S (MM.fin (m_30 (sem fs k) [some (.loc b), none, none, none, none, none, none, none, none, none] S)) = _
  rw [hb]
  rfl

/-! ### the law -/
def leafE : Ex := .name (Str.ofString "x")
def deepE : Nat → Ex
  | 0 => .name (Str.ofString "y")
  | n + 1 => .op (Str.ofString "sub") [deepE n, leafE]
def minE : Ex := .op (Str.ofString "min") (List.replicate 6 leafE)
def mulE : Ex := .op (Str.ofString "mul") (List.replicate 5 minE)
def thickE : Ex := .op (Str.ofString "add") (List.replicate 5 mulE ++ [.op (Str.ofString "neg") [.op (Str.ofString "half") [leafE]]])
theorem deep_ok : (deepE 29).wf = true ∧ (deepE 29).size ≤ 200 ∧ (deepE 29).depth ≤ 30 := by decide +kernel
theorem thick_ok : thickE.wf = true ∧ thickE.size ≤ 200 ∧ thickE.depth ≤ 30 := by decide +kernel

theorem lap_turn (k : Nat) (hk : 70 ≤ k) (b c : Nat) (x0 x3 x4 x5 x6 : Option D) (lap : D) (S : Sto) (R : Rill shL b c S) : ∃ y3 S', (sSeq (sAsg 3 (eZ (eCall 24 (lCons (eV 1) (lCons (eBin (bC eqW) (eCall 21 (lCons (eV 1) (lCons (eC (.int 3)) (lNil)))) (eC (.int 0))) (lCons (eBin bIx (eTup (lCons (eC (.int 2)) (lCons (eC (.int 7)) (lCons (eC (.int 15)) (lCons (eC (.int 30)) (lCons (eC (.int 60)) (lNil))))))) (eCall 21 (lCons (eV 1) (lCons (eC (.int 5)) (lNil))))) (lCons (eC (.int 10)) (lNil)))))))) (sIf (tNot (tE (eCall 29 (lCons (eV 1) (lCons (eV 3) (lNil)))))) (sRet (eC (.bl false))) (sNil))) (sem fs k) [x0, some (.loc b), some lap, x3, x4, x5, x6] S = .nx [x0, some (.loc b), some lap, y3, x4, x5, x6] S' ∧ Rill shL b c S' := by
  obtain ⟨q, S1, e1, a1, b1, R1, O1⟩ := L_snap k S b c 3 R (by omega) (by omega) (by omega)
  obtain ⟨r, S2, e2, a2, b2, R2, O2⟩ := L_snap k S1 b c 5 R1 (by omega) (by omega) (by omega)
  obtain ⟨x, hx, hm⟩ := atI_mem (xs := [D.int 2, .int 7, .int 15, .int 30, .int 60]) a2 (by simpa using b2)
  obtain ⟨m, rfl, m1, m2⟩ : ∃ m : Nat, x = .int m ∧ 1 ≤ m ∧ m ≤ 60 := by
    simp only [List.mem_cons, List.not_mem_nil, or_false] at hm
    rcases hm with rfl | rfl | rfl | rfl | rfl
    · exact ⟨2, rfl, by omega, by omega⟩
    · exact ⟨7, rfl, by omega, by omega⟩
    · exact ⟨15, rfl, by omega, by omega⟩
    · exact ⟨30, rfl, by omega, by omega⟩
    · exact ⟨60, rfl, by omega, by omega⟩
  obtain ⟨e, S3, e3, g1, g2, g3, R3, O3⟩ := tree_all 10 (by omega) (by omega) (decide (q = 0)) m k S2 b c m 10 rfl rfl R2 m1 (by omega) (by omega)
  obtain ⟨S4, e4, R4, O4⟩ := L_asked e k S3 b c R3 g1 (by omega) (by omega)
  have l5 : 5 ≤ sizeLine := le_line (by decide)
  refine ⟨some e.d, S4, ?_, R4⟩
  simp [l5, e1, e2, hx, e3, e4, gc_len, O1.1, O2.1, O3.1, O4.1]

theorem keeps : Keeps (sem fs depth 31) := by
  intro ns hns
  obtain ⟨k, hk, hk2⟩ : ∃ k, depth = k + 1 ∧ 75 ≤ k := ⟨depth - 1, by decide, by decide⟩
  obtain ⟨m, gs, hg, e0⟩ := L_branch k ns (by omega)
  have g0 : gc [] (R.ok (.tmp (shL.f 0 m 0)) [.lst (gs.map D.int)]) = R.ok (.tmp (shL.f 0 m 0)) [.lst (gs.map D.int)] := by rw [← e0, gc_sem]
  have R0 : Rill shL 1 0 [.lst (gs.map D.int), shL.f 0 m 0] := ⟨m, 0, gs, rfl, rfl, by omega, by omega⟩
  generalize hS0 : [O.lst (gs.map D.int), shL.f 0 m 0] = S0 at R0
  obtain ⟨S1, e1, R1, O1⟩ := L_hand k S0 1 0 R0 (by omega)
  have p1 : (sAsg 1 (eCall 20 (lCons (eV 0) (lNil)))) (sem fs k) [some (.scr (ns.map D.int)), none, none, none, none, none, none] [] = .nx [some (.scr (ns.map D.int)), some (.loc 1), none, none, none, none, none] S0 := by
    simp [e0, g0, ← hS0]
  have p2 : (sIf (tNot (tE (eCall 30 (lCons (eV 1) (lNil))))) (sRet (eC (.bl false))) (sNil)) (sem fs k) [some (.scr (ns.map D.int)), some (.loc 1), none, none, none, none, none] S0 = .nx [some (.scr (ns.map D.int)), some (.loc 1), none, none, none, none, none] S1 := by
    simp [e1, gc_len, O1.1]
  have hloop := loopI_inv (g := gN 2) (body := (sSeq (sAsg 3 (eZ (eCall 24 (lCons (eV 1) (lCons (eBin (bC eqW) (eCall 21 (lCons (eV 1) (lCons (eC (.int 3)) (lNil)))) (eC (.int 0))) (lCons (eBin bIx (eTup (lCons (eC (.int 2)) (lCons (eC (.int 7)) (lCons (eC (.int 15)) (lCons (eC (.int 30)) (lCons (eC (.int 60)) (lNil))))))) (eCall 21 (lCons (eV 1) (lCons (eC (.int 5)) (lNil))))) (lCons (eC (.int 10)) (lNil)))))))) (sIf (tNot (tE (eCall 29 (lCons (eV 1) (lCons (eV 3) (lNil)))))) (sRet (eC (.bl false))) (sNil))) (sem fs k)) (ds := span 0 5) (k := 0)
    (P := fun i δ S' => (∃ x2 x3, δ = [some (.scr (ns.map D.int)), some (.loc 1), x2, x3, none, none, none]) ∧ Rill shL 1 0 S') (δ := [some (.scr (ns.map D.int)), some (.loc 1), none, none, none, none, none]) (S := S1) ⟨⟨none, none, rfl⟩, R1⟩
    (fun i d δ S' hi ⟨⟨x2, x3, hδ⟩, R⟩ => by
      subst hδ
      obtain ⟨y3, S2, h1, h2⟩ := lap_turn k (by omega) 1 0 (some (.scr (ns.map D.int))) x3 none none none d S' R
      exact ⟨_, _, S2, rfl, .inl h1, ⟨_, _, rfl⟩, h2⟩)
  obtain ⟨δ', S2, h2, ⟨x2, x3, rfl⟩, R2⟩ := hloop
  have i5 : ∀ δ S', iRange1 (eC (.int 5)) (sem fs k) δ S' = .ok (.items (span 0 5)) S' := fun δ S' => range1_ok (n := 5) (S' := S') (by simp) (by omega)
  have i29 : ∀ δ S', iRange1 (eC (.int 29)) (sem fs k) δ S' = .ok (.items (span 0 29)) S' := fun δ S' => range1_ok (n := 29) (S' := S') (by simp) (by omega)
  obtain ⟨q, S3, e3, a3, b3, R3, O3⟩ := L_snap k S2 1 0 13 R2 (by omega) (by omega) (by omega)
  have fin : ∀ S : Sto, ∃ S', gc [] (R.ok (W.val (D.bl true)) S) = R.ok (W.val (D.bl true)) S' := fun S => ⟨_, gc_kept (S := []) ⟨Nat.zero_le _, fun n hn => absurd hn (Nat.not_lt_zero n)⟩ (by simp)⟩
  have hb : ∃ S', m_31 (sem fs k) [some (.scr (ns.map D.int)), none, none, none, none, none, none] [] = .rt (.val (.bl true)) S' := by
    unfold m_31
    rw [ap_sSeq, p1, seq_nx, ap_sSeq, p2, seq_nx, ap_sSeq, sFor_items (i5 _ _), h2, seq_nx]
    by_cases hq : q = 9
    · subst hq
      have l1 : 1 ≤ sizeLine := le_line (by decide)
      have l2 : 2 ≤ sizeLine := le_line (by decide)
      have l3 : 3 ≤ sizeLine := le_line (by decide)
      have p4 : (sIf (tCmp (cNot eqW) (eCall 21 (lCons (eV 1) (lCons (eC (.int 13)) (lNil)))) (eC (.int 9))) (sRet (eC (.bl true))) (sNil)) (sem fs k) [some (.scr (ns.map D.int)), some (.loc 1), x2, x3, none, none, none] S2 = .nx [some (.scr (ns.map D.int)), some (.loc 1), x2, x3, none, none, none] S3 := by
        simp [e3, gc_len, O3.1]
      have p5 : (sAsgT [4, 5] (eTup (lCons (eTup (lCons (eC (.str (Str.ofString "name"))) (lCons (eC (.str (Str.ofString "x"))) (lNil)))) (lCons (eTup (lCons (eC (.str (Str.ofString "name"))) (lCons (eC (.str (Str.ofString "y"))) (lNil)))) (lNil))))) (sem fs k) [some (.scr (ns.map D.int)), some (.loc 1), x2, x3, none, none, none] S3 = .nx [some (.scr (ns.map D.int)), some (.loc 1), x2, x3, some leafE.d, some (deepE 0).d, none] S3 := by
        simp [setAll, W.any, W.tq, l2, leafE, deepE, Ex.d]
      have lp := loopI_inv (g := gN 2) (body := (sAsg 5 (eTup (lCons (eC (.str (Str.ofString "sub"))) (lCons (eV 5) (lCons (eV 4) (lNil)))))) (sem fs k)) (ds := span 0 29) (k := 0)
        (P := fun i δ S' => (∃ x2, δ = [some (.scr (ns.map D.int)), some (.loc 1), x2, x3, some leafE.d, some (deepE i).d, none]) ∧ S' = S3) (δ := [some (.scr (ns.map D.int)), some (.loc 1), x2, x3, some leafE.d, some (deepE 0).d, none]) (S := S3) ⟨⟨x2, rfl⟩, rfl⟩
        (fun i d δ S' hi ⟨⟨x2, hδ⟩, hS⟩ => by
          subst hδ
          subst hS
          refine ⟨_, _, S', rfl, .inl ?_, ⟨some d, rfl⟩, rfl⟩
          simp [l3, deepE, Ex.d, Ex.dL])
      obtain ⟨δ', S3', h6, ⟨y2, rfl⟩, hS3⟩ := lp
      rw [span_len, Nat.zero_add, hS3] at h6
      have m6 : ∀ d S, bMul (.val (.tup [d])) (.val (.int 6)) S = some (.val (.tup (rpd 6 d))) := fun d S => mul_one S d 6 6 rfl (by omega) (by omega)
      have m5 : ∀ d S, bMul (.val (.tup [d])) (.val (.int 5)) S = some (.val (.tup (rpd 5 d))) := fun d S => mul_one S d 5 5 rfl (by omega) (by omega)
      have s6 : D.tup (.str (Str.ofString "min") :: rpd 6 leafE.d) = minE.d := by rw [rpd_map]; exact (Ex.d_opL _ _).symm
      have s7 : D.tup (.str (Str.ofString "mul") :: rpd 5 minE.d) = mulE.d := by rw [rpd_map]; exact (Ex.d_opL _ _).symm
      have s8 : D.tup (.str (Str.ofString "add") :: (rpd 5 mulE.d ++ [.tup [.str (Str.ofString "neg"), .tup [.str (Str.ofString "half"), leafE.d]]])) = thickE.d := by
        have : rpd 5 mulE.d ++ [.tup [.str (Str.ofString "neg"), .tup [.str (Str.ofString "half"), leafE.d]]] = (List.replicate 5 mulE ++ [Ex.op (Str.ofString "neg") [Ex.op (Str.ofString "half") [leafE]]]).map Ex.d := by
          rw [rpd_map, List.map_append, List.map_cons, List.map_nil, Ex.d_op1, Ex.d_op1]
        rw [this]
        exact (Ex.d_opL _ _).symm
      have lr : ∀ n d, (rpd n d).length = n := fun n d => List.length_replicate
      have p7 : (sAsg 6 (eBin bAdd (eBin bAdd (eTup (lCons (eC (.str (Str.ofString "add"))) (lNil))) (eBin bMul (eTup (lCons (eBin bAdd (eTup (lCons (eC (.str (Str.ofString "mul"))) (lNil))) (eBin bMul (eTup (lCons (eBin bAdd (eTup (lCons (eC (.str (Str.ofString "min"))) (lNil))) (eBin bMul (eTup (lCons (eV 4) (lNil))) (eC (.int 6)))) (lNil))) (eC (.int 5)))) (lNil))) (eC (.int 5)))) (eTup (lCons (eTup (lCons (eC (.str (Str.ofString "neg"))) (lCons (eTup (lCons (eC (.str (Str.ofString "half"))) (lCons (eV 4) (lNil)))) (lNil)))) (lNil))))) (sem fs k) [some (.scr (ns.map D.int)), some (.loc 1), y2, x3, some leafE.d, some (deepE 29).d, none] S3 = .nx [some (.scr (ns.map D.int)), some (.loc 1), y2, x3, some leafE.d, some (deepE 29).d, some thickE.d] S3 := by
        have bt : ∀ (s : Str) (n : Nat) (d : D) S, n ≤ 10 → bAdd (.val (.tup [.str s])) (.val (.tup (rpd n d))) S = some (.val (.tup (.str s :: rpd n d))) := fun s n d S hn => add_tt S [.str s] (rpd n d) (by rw [lr]; simp; omega)
        have bu : ∀ (s : Str) (n : Nat) (d x : D) S, n ≤ 10 → bAdd (.val (.tup (.str s :: rpd n d))) (.val (.tup [x])) S = some (.val (.tup (.str s :: (rpd n d ++ [x])))) := fun s n d x S hn => add_tt S (.str s :: rpd n d) [x] (by rw [List.length_cons, lr]; simp; omega)
        simp [l1, l2, m6, m5, bt, bu, s6, s7, s8]
      obtain ⟨S4, e4, R4, O4⟩ := L_asked (deepE 29) k S3 1 0 R3 deep_ok.1 (by have := deep_ok.2.1; omega) (by have := deep_ok.2.2; omega)
      obtain ⟨S5, e5, R5, O5⟩ := L_asked thickE k S4 1 0 R4 thick_ok.1 (by have := thick_ok.2.1; omega) (by have := thick_ok.2.2; omega)
      obtain ⟨e, S6, e6, t1, t2, t3, R6, O6⟩ := tree_all 30 (by omega) (by omega) false 200 k S5 1 0 200 30 rfl rfl R5 (by omega) (by omega) (by omega)
      obtain ⟨S7, e7, R7, O7⟩ := L_asked e k S6 1 0 R6 t1 (by omega) (by omega)
      refine ⟨S7, ?_⟩
      rw [ap_sSeq, p4, seq_nx, ap_sSeq, p5, seq_nx, ap_sSeq, sFor_items (i29 _ _), h6, seq_nx, ap_sSeq, p7, seq_nx]
      simp [e4, e5, e6, e7, gc_len, O4.1, O5.1, O6.1, O7.1]
    · refine ⟨S3, ?_⟩
      rw [ap_sSeq]
      have p4 : (sIf (tCmp (cNot eqW) (eCall 21 (lCons (eV 1) (lCons (eC (.int 13)) (lNil)))) (eC (.int 9))) (sRet (eC (.bl true))) (sNil)) (sem fs k) [some (.scr (ns.map D.int)), some (.loc 1), x2, x3, none, none, none] S2 = .rt (.val (.bl true)) S3 := by
        simp [e3, gc_len, O3.1, hq]
      rw [p4]
      rfl
  obtain ⟨S', hb⟩ := hb
  obtain ⟨S'', hf⟩ := fin S'
  refine ⟨S'', ?_⟩
  rw [hk, sem_eq (f := ⟨1, 7, m_31⟩) rfl rfl]
  show gc [] (MM.fin (m_31 (sem fs k) [some (.scr (ns.map D.int)), none, none, none, none, none, none] [])) = _
  rw [hb]
  exact hf
theorem s_00 : SimB I [(Str.ofString "k")] (defScope (topS 0)) (defBody (topS 0)) m_00 := (simb_one (sims_while manyN (simt_E sim_bl) (simb_one sims_pass)))
theorem s_01 : SimB I [(Str.ofString "expression")] (defScope (topS 3)) (defBody (topS 3)) m_01 := (simb_one (sims_ret (sim_cmp ok_in (sim_ix (sim_V 0) sim_int) (sim_G 0))))
theorem s_02 : SimB I [(Str.ofString "expression")] (defScope (topS 4)) (defBody (topS 4)) m_02 := (simb_one (sims_ret (sim_if (simt_E (sim_call 1 rfl rfl rfl (siml_cons (sim_V 0) siml_nil))) (sim_tup siml_nil) (sim_sl (sim_V 0) (simo_some sim_int) simo_none))))
theorem s_03 : SimB I [(Str.ofString "self"), (Str.ofString "expression")] (defScope (inClass (topS 6) 0)) (defBody (inClass (topS 6) 0)) m_03 := (simb_cons (sims_fld (sim_V 0) (sim_lst siml_nil)) (simb_cons (sims_fld (sim_V 0) (sim_lst siml_nil)) (simb_cons (sims_fld (sim_V 0) (sim_lst siml_nil)) (simb_cons (sims_fld (sim_V 0) (sim_lst siml_nil)) (simb_one (sims_expr (sim_meth [(0, 4)] (sim_V 0) (siml_cons (sim_V 1) (siml_cons sim_non (siml_cons sim_int siml_nil))))))))))
theorem s_04 : SimB I [(Str.ofString "self"), (Str.ofString "expression"), (Str.ofString "parent"), (Str.ofString "level"), (Str.ofString "part"), (Str.ofString "operand")] (defScope (inClass (topS 6) 1)) (defBody (inClass (topS 6) 1)) m_04 := (simb_cons (sims_set 4 (sim_b1 0 ok_len (sim_fld (sim_V 0)))) (simb_cons (sims_expr (sim_m1 PySem.F.plainAttrs_list PySem.F.slot_list_append PySem.F.type_list_append ty_L ok_append (sim_fld (sim_V 0)) (sim_V 1))) (simb_cons (sims_expr (sim_m1 PySem.F.plainAttrs_list PySem.F.slot_list_append PySem.F.type_list_append ty_L ok_append (sim_fld (sim_V 0)) (sim_lst siml_nil))) (simb_cons (sims_expr (sim_m1 PySem.F.plainAttrs_list PySem.F.slot_list_append PySem.F.type_list_append ty_L ok_append (sim_fld (sim_V 0)) (sim_V 2))) (simb_cons (sims_expr (sim_m1 PySem.F.plainAttrs_list PySem.F.slot_list_append PySem.F.type_list_append ty_L ok_append (sim_fld (sim_V 0)) (sim_V 3))) (simb_cons (sims_for (simi_E (sim_call 2 rfl rfl rfl (siml_cons (sim_V 1) siml_nil))) (simg_N 5) (simb_one (sims_expr (sim_m1 PySem.F.plainAttrs_list PySem.F.slot_list_append PySem.F.type_list_append ty_L ok_append (sim_ix (sim_fld (sim_V 0)) (sim_V 4)) (sim_Z (sim_meth [(0, 4)] (sim_V 0) (siml_cons (sim_V 5) (siml_cons (sim_V 4) (siml_cons (sim_bin ok_add (sim_V 3) sim_int) siml_nil))))))))) (simb_one (sims_ret (sim_V 4)))))))))
theorem s_05 : SimB I [(Str.ofString "self")] (defScope (inClass (topS 6) 2)) (defBody (inClass (topS 6) 2)) m_05 := (simb_one (sims_ret (sim_b1 0 ok_len (sim_fld (sim_V 0)))))
theorem s_06 : SimB I [(Str.ofString "self"), (Str.ofString "part")] (defScope (inClass (topS 6) 3)) (defBody (inClass (topS 6) 3)) m_06 := (simb_one (sims_ret (sim_ix (sim_fld (sim_V 0)) (sim_V 1))))
theorem s_07 : SimB I [(Str.ofString "self"), (Str.ofString "part")] (defScope (inClass (topS 6) 4)) (defBody (inClass (topS 6) 4)) m_07 := (simb_one (sims_ret (sim_ix (sim_fld (sim_V 0)) (sim_V 1))))
theorem s_08 : SimB I [(Str.ofString "self"), (Str.ofString "part")] (defScope (inClass (topS 6) 5)) (defBody (inClass (topS 6) 5)) m_08 := (simb_one (sims_ret (sim_ix (sim_fld (sim_V 0)) (sim_V 1))))
theorem s_09 : SimB I [(Str.ofString "self"), (Str.ofString "part")] (defScope (inClass (topS 6) 6)) (defBody (inClass (topS 6) 6)) m_09 := (simb_one (sims_ret (sim_ix (sim_fld (sim_V 0)) (sim_V 1))))
theorem s_10 : SimB I [(Str.ofString "self"), (Str.ofString "part")] (defScope (inClass (topS 6) 7)) (defBody (inClass (topS 6) 7)) m_10 := (simb_one (sims_expr (sim_call 0 rfl rfl rfl (siml_cons sim_int siml_nil))))
theorem s_11 : SimB I [(Str.ofString "self"), (Str.ofString "part"), (Str.ofString "end")] (defScope (inClass (topS 6) 8)) (defBody (inClass (topS 6) 8)) m_11 := (simb_cons (sims_set 2 (sim_bin ok_add (sim_V 1) sim_int)) (simb_cons (sims_while manyN (simt_W (simw_and (simt_cmp ok_lt (sim_V 2) (sim_b1 0 ok_len (sim_fld (sim_V 0)))) (simw_and1 (simt_cmp ok_gt (sim_ix (sim_fld (sim_V 0)) (sim_V 2)) (sim_ix (sim_fld (sim_V 0)) (sim_V 1)))))) (simb_one (sims_set 2 (sim_bin ok_add (sim_V 2) sim_int)))) (simb_one (sims_ret (sim_tupR2 1 2 (sim_bin ok_add (sim_V 1) sim_int) (sim_V 2))))))
theorem s_12 : SimB I [(Str.ofString "self"), (Str.ofString "part")] (defScope (inClass (topS 6) 9)) (defBody (inClass (topS 6) 9)) m_12 := (simb_one (sims_ret (sim_bin ok_add (sim_b1 0 ok_len (sim_meth [(0, 11)] (sim_V 0) (siml_cons (sim_V 1) siml_nil))) sim_int)))
theorem s_13 : SimB I [(Str.ofString "self")] (defScope (inClass (topS 6) 10)) (defBody (inClass (topS 6) 10)) m_13 := (simb_one (sims_expr (sim_call 0 rfl rfl rfl (siml_cons sim_int siml_nil))))
theorem s_14 : SimB I [(Str.ofString "sticks"), (Str.ofString "stick"), (Str.ofString ".gen")] (defScope (topS 8)) (defBody (topS 8)) m_14 := (simb_one (sims_ret (sim_bin ok_sub (sim_b1 4 ok_sum (sim_lc (own := [((Str.ofString "stick"), 1)]) (simi_E (sim_V 0)) (simg_N0 1) simts_nil (sim_Z (sim_max2 3 sim_int (sim_V 1))))) (sim_t1 6 ok_int (sim_all 5 (own := [((Str.ofString "stick"), 1)]) (simi_E (sim_V 0)) (simg_N0 1) simts_nil (sim_cmp ok_eq (sim_V 1) sim_int))))))
theorem s_15 : SimB I [(Str.ofString "expression"), (Str.ofString "sticks"), (Str.ofString "operand")] (defScope (topS 9)) (defBody (topS 9)) m_15 := (simb_cons (sims_setLcZ 1 (own := [((Str.ofString "operand"), 2)]) (simi_E (sim_call 2 rfl rfl rfl (siml_cons (sim_V 0) siml_nil))) (simg_N0 2) simts_nil (sim_Z (sim_call 15 rfl rfl rfl (siml_cons (sim_V 2) siml_nil)))) (simb_one (sims_ret (sim_if (simt_E (sim_V 1)) (sim_call 14 rfl rfl rfl (siml_cons (sim_V 1) siml_nil)) sim_int))))
theorem s_16 : SimB I [(Str.ofString "expression"), (Str.ofString "operands")] (defScope (topS 10)) (defBody (topS 10)) m_16 := (simb_cons (sims_set 1 (sim_Z (sim_call 2 rfl rfl rfl (siml_cons (sim_V 0) siml_nil)))) (simb_one (sims_ret (sim_or (sim_cmp ok_eq (sim_b1 0 ok_len (sim_V 1)) sim_int) (sim_one (sim_and (sim_cmp ok_eq (sim_b1 0 ok_len (sim_V 1)) sim_int) (sim_one (sim_call 16 rfl rfl rfl (siml_cons (sim_ix (sim_V 1) sim_int) siml_nil)))))))))
theorem s_17 : SimB I [(Str.ofString "expression"), (Str.ofString "tree"), (Str.ofString "twigs"), (Str.ofString "part")] (defScope (topS 11)) (defBody (topS 11)) m_17 := (simb_cons (sims_set 1 (sim_Z (sim_new 0 rfl rfl rfl rfl (siml_cons (sim_V 0) siml_nil)))) (simb_cons (sims_setH 2 (sim_Z (sim_lc (own := [((Str.ofString "part"), 3)]) (simi_range1 2 (sim_meth0 [(0, 5)] (sim_V 1))) (simg_N0 3) (simts_one (simt_E (sim_call 16 rfl rfl rfl (siml_cons (sim_Z (sim_meth [(0, 6)] (sim_V 1) (siml_cons (sim_V 3) siml_nil))) siml_nil)))) (sim_V 3)))) (simb_one (sims_ret (sim_t1 1 ok_tuple (sim_lc (own := [((Str.ofString "part"), 3)]) (simi_E (sim_V 2)) (simg_N0 3) (simts_one (simt_cmp ok_notIn (sim_meth [(0, 8)] (sim_V 1) (siml_cons (sim_V 3) siml_nil)) (sim_V 2))) (sim_V 3)))))))
theorem s_18 : SimB I [(Str.ofString "expression"), (Str.ofString "tree"), (Str.ofString "told"), (Str.ofString "part"), (Str.ofString "kids"), (Str.ofString "kid"), (Str.ofString ".gen")] (defScope (topS 12)) (defBody (topS 12)) m_18 := (simb_cons (sims_set 1 (sim_Z (sim_new 0 rfl rfl rfl rfl (siml_cons (sim_V 0) siml_nil)))) (simb_cons (sims_set 2 (sim_lst siml_nil)) (simb_cons (sims_for (simi_range1 2 (sim_meth0 [(0, 5)] (sim_V 1))) (simg_N 3) (simb_cons (sims_set 4 (sim_Z (sim_meth [(0, 7)] (sim_V 1) (siml_cons (sim_V 3) siml_nil)))) (simb_one (sims_if (simt_W (simw_and (simt_cmp ok_gt (sim_b1 0 ok_len (sim_V 4)) sim_int) (simw_and1 (simt_E (sim_all 5 (own := [((Str.ofString "kid"), 5)]) (simi_E (sim_V 4)) (simg_N0 5) simts_nil (sim_call 16 rfl rfl rfl (siml_cons (sim_Z (sim_meth [(0, 6)] (sim_V 1) (siml_cons (sim_V 5) siml_nil))) siml_nil))))))) (simb_one (sims_expr (sim_m1 PySem.F.plainAttrs_list PySem.F.slot_list_append PySem.F.type_list_append ty_L ok_append (sim_V 2) (sim_V 3)))) simb_nil)))) (simb_one (sims_ret (sim_t1 1 ok_tuple (sim_V 2)))))))
theorem s_19 : SimB I [(Str.ofString "expression")] (defScope (topS 13)) (defBody (topS 13)) m_19 := (simb_one (sims_ret (sim_bin ok_add (sim_call 15 rfl rfl rfl (siml_cons (sim_V 0) siml_nil)) sim_int)))
theorem s_20 : SimB I [(Str.ofString "script"), (Str.ofString "bark"), (Str.ofString "sap"), (Str.ofString "cell"), (Str.ofString "size")] (defScope (topS 15)) (defBody (topS 15)) m_20 := (simb_cons (sims_par2 1 2 (siml_cons (sim_lst siml_nil) (siml_cons sim_int siml_nil))) (simb_cons (sims_for (simi_E (sim_sl (sim_V 0) simo_none (simo_some sim_int))) (simg_N 3) (simb_cons (sims_set 4 (sim_bin ok_mod (sim_b1 7 ok_abs (sim_t1 6 ok_int (sim_V 3))) (sim_bin ok_shl sim_int sim_int))) (simb_cons (sims_set 2 (sim_bin ok_mod (sim_bin ok_add (sim_bin ok_add (sim_bin ok_mul (sim_V 2) sim_int) (sim_bin ok_mod (sim_t1 6 ok_int (sim_V 4)) sim_int)) sim_int) sim_int)) (simb_one (sims_if (simt_cmp ok_ge (sim_V 4) (sim_bin ok_pow sim_int sim_int)) (simb_one (sims_expr (sim_ins (sim_V 1) sim_int (sim_V 4)))) simb_nil))))) (simb_one (sims_ret (sim_lst (siml_cons (sim_V 1) (siml_cons (sim_V 2) (siml_cons sim_int siml_nil))))))))
theorem s_21 : SimB I [(Str.ofString "branch"), (Str.ofString "many"), (Str.ofString "size")] (defScope (topS 16)) (defBody (topS 16)) m_21 := (simb_cons (sims_if (simt_E (sim_ix (sim_V 0) sim_int)) (simb_cons (sims_set 2 (sim_t1 6 ok_int (sim_ix (sim_ix (sim_V 0) sim_int) (sim_neg sim_int)))) (simb_cons (sims_if (simt_cmp ok_lt (sim_V 2) (sim_max2 3 (sim_V 1) sim_int)) (simb_one (sims_expr (sim_m0 PySem.F.plainAttrs_list PySem.F.slot_list_pop PySem.F.type_list_pop ty_L ok_pop chk_pop (sim_ix (sim_V 0) sim_int)))) (simb_one (sims_setIx (sim_ix (sim_V 0) sim_int) (sim_neg sim_int) (sim_bin ok_div (sim_V 2) (sim_max2 3 (sim_V 1) sim_int))))) (simb_one (sims_ret (sim_bin ok_mod (sim_V 2) (sim_V 1)))))) simb_nil) (simb_cons (sims_setIx (sim_V 0) sim_int (sim_bin ok_add (sim_ix (sim_V 0) sim_int) sim_int)) (simb_cons (sims_setIx (sim_V 0) sim_int (sim_bin ok_mod (sim_bin ok_add (sim_bin ok_add (sim_bin ok_mul (sim_t1 6 ok_int (sim_ix (sim_V 0) sim_int)) sim_int) (sim_bin ok_mul (sim_ix (sim_V 0) sim_int) sim_int)) sim_int) sim_int)) (simb_one (sims_ret (sim_bin ok_mod (sim_bin ok_div (sim_t1 6 ok_int (sim_ix (sim_V 0) sim_int)) sim_int) (sim_V 1)))))))
theorem s_22 : SimB I [(Str.ofString "told"), (Str.ofString "due"), (Str.ofString "at")] (defScope (topS 17)) (defBody (topS 17)) m_22 := (simb_cons (sims_if (simt_W (simw_or (simt_E (sim_isi 8 9 .bool (sim_V 1))) (simw_or1 (simt_E (sim_isi 8 9 .bool (sim_V 0)))))) (simb_one (sims_ret (sim_and (sim_isi 8 9 .bool (sim_V 1)) (sim_and (sim_isi 8 9 .bool (sim_V 0)) (sim_one (sim_cmp ok_eq (sim_V 0) (sim_V 1))))))) simb_nil) (simb_cons (sims_if (simt_E (sim_isi 8 1 .tuple (sim_V 1))) (simb_one (sims_ret (sim_and (sim_isi 8 1 .tuple (sim_V 0)) (sim_and (sim_cmp ok_eq (sim_b1 0 ok_len (sim_V 0)) (sim_b1 0 ok_len (sim_V 1))) (sim_one (sim_cmp ok_eq (sim_b1 0 ok_len (sim_lc (own := [((Str.ofString "at"), 2)]) (simi_range1 2 (sim_b1 0 ok_len (sim_V 1))) (simg_N0 2) (simts_one (simt_not (simt_E (sim_call 22 rfl rfl rfl (siml_cons (sim_ix (sim_V 0) (sim_V 2)) (siml_cons (sim_ix (sim_V 1) (sim_V 2)) siml_nil)))))) sim_int)) sim_int)))))) simb_nil) (simb_one (sims_ret (sim_and (sim_isi 8 6 .int (sim_V 0)) (sim_one (sim_cmp ok_eq (sim_V 0) (sim_V 1))))))))
theorem s_23 : SimB I [(Str.ofString "branch"), (Str.ofString "truth"), (Str.ofString "many"), (Str.ofString "told"), (Str.ofString "lap")] (defScope (topS 18)) (defBody (topS 18)) m_23 := (simb_cons (sims_if (simt_E (sim_V 1)) (simb_one (sims_set 3 (sim_ix (sim_tup (siml_cons (sim_tup (siml_cons sim_str siml_nil)) (siml_cons (sim_tup (siml_cons sim_str siml_nil)) siml_nil))) (sim_call 21 rfl rfl rfl (siml_cons (sim_V 0) (siml_cons sim_int siml_nil)))))) (simb_one (sims_set 3 (sim_ix (sim_tup (siml_cons (sim_tup (siml_cons sim_str (siml_cons sim_str siml_nil))) (siml_cons (sim_tup (siml_cons sim_str (siml_cons sim_int siml_nil))) (siml_cons (sim_tup (siml_cons sim_str (siml_cons sim_str siml_nil))) siml_nil)))) (sim_call 21 rfl rfl rfl (siml_cons (sim_V 0) (siml_cons sim_int siml_nil))))))) (simb_cons (sims_for (simi_range1 2 (sim_bin ok_sub (sim_V 2) sim_int)) (simg_N 4) (simb_one (sims_set 3 (sim_if (simt_E (sim_V 1)) (sim_tup (siml_cons sim_str (siml_cons (sim_V 3) siml_nil))) (sim_tup (siml_cons (sim_ix (sim_tup (siml_cons sim_str (siml_cons sim_str siml_nil))) (sim_call 21 rfl rfl rfl (siml_cons (sim_V 0) (siml_cons sim_int siml_nil)))) (siml_cons (sim_V 3) siml_nil))))))) (simb_one (sims_ret (sim_V 3)))))
theorem s_24 : SimB I [(Str.ofString "branch"), (Str.ofString "truth"), (Str.ofString "room"), (Str.ofString "deep"), (Str.ofString "way"), (Str.ofString "inner"), (Str.ofString "share"), (Str.ofString "first"), (Str.ofString "word"), (Str.ofString "many"), (Str.ofString "told"), (Str.ofString "left"), (Str.ofString "at")] (defScope (topS 19)) (defBody (topS 19)) m_24 := (simb_cons (sims_set 4 (sim_Z (sim_call 21 rfl rfl rfl (siml_cons (sim_V 0) (siml_cons sim_int siml_nil))))) (simb_cons (sims_if (simt_W (simw_or (simt_cmp ok_lt (sim_V 2) sim_int) (simw_or (simt_cmp ok_lt (sim_V 3) sim_int) (simw_or1 (simt_cmp ok_eq (sim_V 4) sim_int))))) (simb_one (sims_ret (sim_call 23 rfl rfl rfl (siml_cons (sim_V 0) (siml_cons (sim_V 1) (siml_cons (sim_bin ok_add sim_int (sim_call 21 rfl rfl rfl (siml_cons (sim_V 0) (siml_cons (sim_Z (sim_min3 10 (sim_V 2) (sim_V 3) sim_int)) siml_nil)))) siml_nil)))))) simb_nil) (simb_cons (sims_if (simt_cmp ok_eq (sim_V 4) sim_int) (simb_cons (sims_set 5 (sim_Z (sim_call 24 rfl rfl rfl (siml_cons (sim_V 0) (siml_cons (sim_V 1) (siml_cons (sim_bin ok_sub (sim_V 2) sim_int) (siml_cons (sim_bin ok_sub (sim_V 3) sim_int) siml_nil))))))) (simb_one (sims_ret (sim_if (simt_E (sim_V 1)) (sim_tup (siml_cons sim_str (siml_cons (sim_V 5) siml_nil))) (sim_tup (siml_cons (sim_ix (sim_tup (siml_cons sim_str (siml_cons sim_str siml_nil))) (sim_call 21 rfl rfl rfl (siml_cons (sim_V 0) (siml_cons sim_int siml_nil)))) (siml_cons (sim_V 5) siml_nil))))))) simb_nil) (simb_cons (sims_if (simt_W (simw_and (simt_cmp ok_eq (sim_V 4) sim_int) (simw_and (simt_not (simt_E (sim_V 1))) (simw_and1 (simt_cmp ok_gt (sim_V 2) sim_int))))) (simb_cons (sims_set 6 (sim_bin ok_div (sim_bin ok_sub (sim_V 2) sim_int) sim_int)) (simb_one (sims_ret (sim_tup (siml_cons sim_str (siml_cons (sim_Z (sim_call 24 rfl rfl rfl (siml_cons (sim_V 0) (siml_cons sim_bl (siml_cons (sim_V 6) (siml_cons (sim_bin ok_sub (sim_V 3) sim_int) siml_nil)))))) (siml_cons (sim_Z (sim_call 24 rfl rfl rfl (siml_cons (sim_V 0) (siml_cons sim_bl (siml_cons (sim_V 6) (siml_cons (sim_bin ok_sub (sim_V 3) sim_int) siml_nil)))))) (siml_cons (sim_Z (sim_call 24 rfl rfl rfl (siml_cons (sim_V 0) (siml_cons sim_bl (siml_cons (sim_V 6) (siml_cons (sim_bin ok_sub (sim_V 3) sim_int) siml_nil)))))) siml_nil)))))))) simb_nil) (simb_cons (sims_if (simt_W (simw_and (simt_cmp ok_eq (sim_V 4) sim_int) (simw_and1 (simt_E (sim_V 1))))) (simb_cons (sims_set 7 (sim_bin ok_add sim_int (sim_call 21 rfl rfl rfl (siml_cons (sim_V 0) (siml_cons (sim_bin ok_sub (sim_V 2) sim_int) siml_nil))))) (simb_one (sims_ret (sim_tup (siml_cons (sim_ix (sim_tup (siml_cons sim_str (siml_cons sim_str siml_nil))) (sim_call 21 rfl rfl rfl (siml_cons (sim_V 0) (siml_cons sim_int siml_nil)))) (siml_cons (sim_Z (sim_call 24 rfl rfl rfl (siml_cons (sim_V 0) (siml_cons sim_bl (siml_cons (sim_V 7) (siml_cons (sim_bin ok_sub (sim_V 3) sim_int) siml_nil)))))) (siml_cons (sim_Z (sim_call 24 rfl rfl rfl (siml_cons (sim_V 0) (siml_cons sim_bl (siml_cons (sim_bin ok_sub (sim_bin ok_sub (sim_V 2) sim_int) (sim_V 7)) (siml_cons (sim_bin ok_sub (sim_V 3) sim_int) siml_nil)))))) siml_nil))))))) simb_nil) (simb_cons (sims_set 8 (sim_if (simt_E (sim_V 1)) (sim_ix (sim_tup (siml_cons sim_str (siml_cons sim_str siml_nil))) (sim_call 21 rfl rfl rfl (siml_cons (sim_V 0) (siml_cons sim_int siml_nil)))) (sim_ix (sim_tup (siml_cons sim_str (siml_cons sim_str (siml_cons sim_str (siml_cons sim_str siml_nil))))) (sim_call 21 rfl rfl rfl (siml_cons (sim_V 0) (siml_cons sim_int siml_nil)))))) (simb_cons (sims_set 9 (sim_bin ok_add sim_int (sim_call 21 rfl rfl rfl (siml_cons (sim_V 0) (siml_cons (sim_Z (sim_min2 10 sim_int (sim_bin ok_sub (sim_V 2) sim_int))) siml_nil))))) (simb_cons (sims_if (simt_cmp ok_eq (sim_V 4) sim_int) (simb_one (sims_ret (sim_bin ok_add (sim_tup (siml_cons (sim_V 8) siml_nil)) (sim_t1 1 ok_tuple (sim_lc (own := [((Str.ofString "at"), 12)]) (simi_range1 2 (sim_V 9)) (simg_N0 12) simts_nil (sim_Z (sim_call 23 rfl rfl rfl (siml_cons (sim_V 0) (siml_cons (sim_V 1) (siml_cons (sim_bin ok_add sim_int (sim_call 21 rfl rfl rfl (siml_cons (sim_V 0) (siml_cons (sim_Z (sim_max2 3 sim_int (sim_min3 10 sim_int (sim_bin ok_div (sim_bin ok_sub (sim_V 2) sim_int) (sim_V 9)) (sim_bin ok_sub (sim_V 3) sim_int)))) siml_nil)))) siml_nil)))))))))) simb_nil) (simb_cons (sims_par2 10 11 (siml_cons (sim_lst (siml_cons (sim_V 8) siml_nil)) (siml_cons (sim_bin ok_sub (sim_V 2) sim_int) siml_nil))) (simb_cons (sims_for (simi_range1 2 (sim_V 9)) (simg_N 12) (simb_cons (sims_set 6 (sim_if (simt_cmp ok_eq (sim_V 12) (sim_bin ok_sub (sim_V 9) sim_int)) (sim_bin ok_sub (sim_V 11) (sim_bin ok_sub (sim_bin ok_sub (sim_V 9) sim_int) (sim_V 12))) (sim_bin ok_add sim_int (sim_call 21 rfl rfl rfl (siml_cons (sim_V 0) (siml_cons (sim_bin ok_sub (sim_V 11) (sim_bin ok_sub (sim_bin ok_sub (sim_V 9) sim_int) (sim_V 12))) siml_nil)))))) (simb_cons (sims_expr (sim_m1 PySem.F.plainAttrs_list PySem.F.slot_list_append PySem.F.type_list_append ty_L ok_append (sim_V 10) (sim_Z (sim_call 24 rfl rfl rfl (siml_cons (sim_V 0) (siml_cons (sim_V 1) (siml_cons (sim_V 6) (siml_cons (sim_bin ok_sub (sim_V 3) sim_int) siml_nil)))))))) (simb_one (sims_set 11 (sim_bin ok_sub (sim_V 11) (sim_V 6))))))) (simb_one (sims_ret (sim_t1 1 ok_tuple (sim_V 10))))))))))))))
theorem s_25 : SimB I [(Str.ofString "expression"), (Str.ofString "told"), (Str.ofString "todo"), (Str.ofString "one"), (Str.ofString "above"), (Str.ofString "here"), (Str.ofString "operand")] (defScope (topS 20)) (defBody (topS 20)) m_25 := (simb_cons (sims_par2 1 2 (siml_cons (sim_lst siml_nil) (siml_cons (sim_lst (siml_cons (sim_tup (siml_cons (sim_V 0) (siml_cons sim_non siml_nil))) siml_nil)) siml_nil))) (simb_cons (sims_while manyN (simt_cmp ok_gt (sim_b1 0 ok_len (sim_V 2)) sim_int) (simb_cons (sims_setT (sim_m0 PySem.F.plainAttrs_list PySem.F.slot_list_pop PySem.F.type_list_pop ty_L ok_pop chk_pop (sim_V 2)) (simgs_cons (simg_N 3) (simgs_cons (simg_N 4) simgs_nil))) (simb_cons (sims_set 5 (sim_b1 0 ok_len (sim_V 1))) (simb_cons (sims_expr (sim_m1 PySem.F.plainAttrs_list PySem.F.slot_list_append PySem.F.type_list_append ty_L ok_append (sim_V 1) (sim_tup (siml_cons (sim_V 3) (siml_cons (sim_V 4) siml_nil))))) (simb_one (sims_if (simt_cmp ok_notIn (sim_ix (sim_V 3) sim_int) (sim_tup (siml_cons sim_str (siml_cons sim_str (siml_cons sim_str (siml_cons sim_str siml_nil)))))) (simb_one (sims_expr (sim_m1 PySem.F.plainAttrs_list PySem.F.slot_list_extend PySem.F.type_list_extend ty_L ok_extend (sim_V 2) (sim_slA (sim_lc (own := [((Str.ofString "operand"), 6)]) (simi_E (sim_sl (sim_V 3) (simo_some sim_int) simo_none)) (simg_N0 6) simts_nil (sim_tup (siml_cons (sim_V 6) (siml_cons (sim_V 5) siml_nil)))) simo_none simo_none (sim_neg sim_int))))) simb_nil)))))) (simb_one (sims_ret (sim_V 1)))))
theorem s_26 : SimB I [(Str.ofString "parts"), (Str.ofString "below"), (Str.ofString "at"), (Str.ofString "told"), (Str.ofString "part")] (defScope (topS 21)) (defBody (topS 21)) m_26 := (simb_cons (sims_setLcZ 1 (own := [((Str.ofString "part"), 4)]) (simi_E (sim_V 0)) (simg_N0 4) simts_nil (sim_lst siml_nil)) (simb_cons (sims_for (simi_range2 2 sim_int (sim_b1 0 ok_len (sim_V 0))) (simg_N 2) (simb_one (sims_expr (sim_m1 PySem.F.plainAttrs_list PySem.F.slot_list_append PySem.F.type_list_append ty_L ok_append (sim_ix (sim_V 1) (sim_ix (sim_ix (sim_V 0) (sim_V 2)) sim_int)) (sim_V 2))))) (simb_cons (sims_set 3 (sim_bin ok_mul (sim_lst (siml_cons sim_bl siml_nil)) (sim_b1 0 ok_len (sim_V 0)))) (simb_cons (sims_for (simi_range3 2 (sim_bin ok_sub (sim_b1 0 ok_len (sim_V 0)) sim_int) (sim_neg sim_int) (sim_neg sim_int)) (simg_N 2) (simb_one (sims_setIx (sim_V 3) (sim_V 2) (sim_or (sim_cmp ok_eq (sim_b1 0 ok_len (sim_ix (sim_V 1) (sim_V 2))) sim_int) (sim_one (sim_and (sim_cmp ok_eq (sim_b1 0 ok_len (sim_ix (sim_V 1) (sim_V 2))) sim_int) (sim_one (sim_ix (sim_V 3) (sim_ix (sim_ix (sim_V 1) (sim_V 2)) sim_int))))))))) (simb_one (sims_ret (sim_tup (siml_cons (sim_V 3) (siml_cons (sim_V 1) siml_nil)))))))))
theorem s_27 : SimB I [(Str.ofString "expression"), (Str.ofString "parts"), (Str.ofString "twigs"), (Str.ofString "below"), (Str.ofString "whole"), (Str.ofString "forks"), (Str.ofString "at"), (Str.ofString "one")] (defScope (topS 22)) (defBody (topS 22)) m_27 := (simb_cons (sims_set 1 (sim_Z (sim_call 25 rfl rfl rfl (siml_cons (sim_V 0) siml_nil)))) (simb_cons (sims_setT (sim_call 26 rfl rfl rfl (siml_cons (sim_V 1) siml_nil)) (simgs_cons (simg_N 2) (simgs_cons (simg_N 3) simgs_nil))) (simb_cons (sims_setLcZ 4 (own := [((Str.ofString "at"), 6)]) (simi_range1 2 (sim_b1 0 ok_len (sim_V 1))) (simg_N0 6) (simts_one (simt_W (simw_and (simt_E (sim_ix (sim_V 2) (sim_V 6))) (simw_and1 (simt_W (simw_or (simt_cmp ok_isN (sim_ix (sim_ix (sim_V 1) (sim_V 6)) sim_int) sim_non) (simw_or1 (simt_not (simt_E (sim_ix (sim_V 2) (sim_ix (sim_ix (sim_V 1) (sim_V 6)) sim_int))))))))))) (sim_V 6)) (simb_cons (sims_setLcZ 5 (own := [((Str.ofString "at"), 6)]) (simi_range1 2 (sim_b1 0 ok_len (sim_V 1))) (simg_N0 6) (simts_one (simt_W (simw_and (simt_cmp ok_gt (sim_b1 0 ok_len (sim_ix (sim_V 3) (sim_V 6))) sim_int) (simw_and1 (simt_cmp ok_eq (sim_b1 0 ok_len (sim_lc (own := [((Str.ofString "one"), 7)]) (simi_E (sim_ix (sim_V 3) (sim_V 6))) (simg_N0 7) (simts_one (simt_not (simt_E (sim_ix (sim_V 2) (sim_V 7))))) (sim_V 7))) sim_int))))) (sim_V 6)) (simb_one (sims_ret (sim_tup (siml_cons (sim_ix (sim_V 2) sim_int) (siml_cons (sim_t1 1 ok_tuple (sim_V 4)) (siml_cons (sim_t1 1 ok_tuple (sim_V 5)) (siml_cons (sim_if (simt_E (sim_ix (sim_V 2) sim_int)) sim_int (sim_bin ok_sub (sim_b1 0 ok_len (sim_V 4)) (sim_b1 0 ok_len (sim_V 5)))) siml_nil)))))))))))
theorem s_28 : SimB I [(Str.ofString "expression"), (Str.ofString "sticks"), (Str.ofString "one")] (defScope (topS 23)) (defBody (topS 23)) m_28 := (simb_cons (sims_if (simt_cmp ok_in (sim_ix (sim_V 0) sim_int) (sim_tup (siml_cons sim_str (siml_cons sim_str (siml_cons sim_str (siml_cons sim_str siml_nil)))))) (simb_one (sims_ret (sim_neg sim_int))) simb_nil) (simb_cons (sims_setLcZ 1 (own := [((Str.ofString "one"), 2)]) (simi_E (sim_sl (sim_V 0) (simo_some sim_int) simo_none)) (simg_N0 2) simts_nil (sim_Z (sim_call 28 rfl rfl rfl (siml_cons (sim_V 2) siml_nil)))) (simb_cons (sims_if (simt_cmp ok_eq (sim_b1 0 ok_len (sim_V 1)) sim_int) (simb_one (sims_ret (sim_ix (sim_V 1) sim_int))) simb_nil) (simb_one (sims_ret (sim_bin ok_sub (sim_b1 4 ok_sum (sim_lc (own := [((Str.ofString "one"), 2)]) (simi_E (sim_V 1)) (simg_N0 2) simts_nil (sim_Z (sim_max2 3 sim_int (sim_V 2))))) (sim_t1 6 ok_int (sim_cmp ok_eq (sim_b1 3 ok_max (sim_V 1)) (sim_neg sim_int)))))))))
theorem s_29 : SimB I [(Str.ofString "branch"), (Str.ofString "expression"), (Str.ofString "twig"), (Str.ofString "whole"), (Str.ofString "forks"), (Str.ofString "stick"), (Str.ofString "told"), (Str.ofString "parts"), (Str.ofString "twigs"), (Str.ofString "below"), (Str.ofString "lap"), (Str.ofString "at")] (defScope (topS 24)) (defBody (topS 24)) m_29 := (simb_cons (sims_setT (sim_call 27 rfl rfl rfl (siml_cons (sim_V 1) siml_nil)) (simgs_cons (simg_N 2) (simgs_cons (simg_N 3) (simgs_cons (simg_N 4) (simgs_cons (simg_N 5) simgs_nil))))) (simb_cons (sims_if (simt_cmp ok_ne (sim_V 5) (sim_max2 3 sim_int (sim_call 28 rfl rfl rfl (siml_cons (sim_V 1) siml_nil)))) (simb_one (sims_ret sim_bl)) simb_nil) (simb_cons (sims_set 6 (sim_tup (siml_cons (sim_Z (sim_call 16 rfl rfl rfl (siml_cons (sim_V 1) siml_nil))) (siml_cons (sim_Z (sim_call 17 rfl rfl rfl (siml_cons (sim_V 1) siml_nil))) (siml_cons (sim_Z (sim_call 18 rfl rfl rfl (siml_cons (sim_V 1) siml_nil))) (siml_cons (sim_Z (sim_call 15 rfl rfl rfl (siml_cons (sim_V 1) siml_nil))) (siml_cons (sim_Z (sim_call 19 rfl rfl rfl (siml_cons (sim_V 1) siml_nil))) siml_nil))))))) (simb_cons (sims_if (simt_not (simt_E (sim_call 22 rfl rfl rfl (siml_cons (sim_V 6) (siml_cons (sim_tup (siml_cons (sim_V 2) (siml_cons (sim_V 3) (siml_cons (sim_V 4) (siml_cons (sim_V 5) (siml_cons (sim_bin ok_add (sim_V 5) sim_int) siml_nil)))))) siml_nil))))) (simb_one (sims_ret sim_bl)) simb_nil) (simb_cons (sims_set 7 (sim_Z (sim_call 25 rfl rfl rfl (siml_cons (sim_V 1) siml_nil)))) (simb_cons (sims_setT (sim_call 26 rfl rfl rfl (siml_cons (sim_V 7) siml_nil)) (simgs_cons (simg_N 8) (simgs_cons (simg_N 9) simgs_nil))) (simb_cons (sims_for (simi_range1 2 sim_int) (simg_N 10) (simb_cons (sims_set 11 (sim_Z (sim_call 21 rfl rfl rfl (siml_cons (sim_V 0) (siml_cons (sim_b1 0 ok_len (sim_V 7)) siml_nil))))) (simb_one (sims_if (simt_not (simt_E (sim_call 22 rfl rfl rfl (siml_cons (sim_Z (sim_callK0 0 rfl ⟨rfl, rfl, rfl, rfl⟩ rfl rfl rfl (simk_cons (sim_ix (sim_ix (sim_V 7) (sim_V 11)) sim_int) simk_nil))) (siml_cons (sim_ix (sim_V 8) (sim_V 11)) siml_nil))))) (simb_one (sims_ret sim_bl)) simb_nil)))) (simb_one (sims_ret sim_bl)))))))))
theorem s_30 : SimB I [(Str.ofString "branch"), (Str.ofString "row"), (Str.ofString "test"), (Str.ofString "many"), (Str.ofString "twig"), (Str.ofString "six"), (Str.ofString "rows"), (Str.ofString "expression"), (Str.ofString "due"), (Str.ofString "at")] (defScope (topS 25)) (defBody (topS 25)) m_30 := (simb_cons (sims_set 1 (sim_tup (siml_cons sim_str (siml_cons (sim_tup (siml_cons sim_str (siml_cons (sim_tup (siml_cons sim_str (siml_cons (sim_tup (siml_cons sim_str (siml_cons sim_str siml_nil))) (siml_cons (sim_tup (siml_cons sim_str (siml_cons sim_str siml_nil))) siml_nil)))) (siml_cons (sim_tup (siml_cons sim_str (siml_cons sim_str siml_nil))) siml_nil)))) (siml_cons (sim_tup (siml_cons sim_str (siml_cons sim_str siml_nil))) siml_nil))))) (simb_cons (sims_set 2 (sim_tup (siml_cons sim_str (siml_cons (sim_tup (siml_cons sim_str (siml_cons (sim_tup (siml_cons sim_str (siml_cons sim_str siml_nil))) (siml_cons (sim_tup (siml_cons sim_str (siml_cons sim_int siml_nil))) siml_nil)))) (siml_cons (sim_tup (siml_cons sim_str (siml_cons (sim_tup (siml_cons sim_str (siml_cons sim_str siml_nil))) siml_nil))) (siml_cons (sim_tup (siml_cons sim_str (siml_cons (sim_tup (siml_cons sim_str (siml_cons sim_int siml_nil))) (siml_cons (sim_tup (siml_cons sim_str (siml_cons sim_str siml_nil))) siml_nil)))) siml_nil)))))) (simb_cons (sims_set 3 (sim_bin ok_add sim_int (sim_call 21 rfl rfl rfl (siml_cons (sim_V 0) (siml_cons sim_int siml_nil))))) (simb_cons (sims_set 4 (sim_Z (sim_call 23 rfl rfl rfl (siml_cons (sim_V 0) (siml_cons sim_bl (siml_cons (sim_V 3) siml_nil)))))) (simb_cons (sims_set 5 (sim_bin ok_add (sim_tup (siml_cons sim_str siml_nil)) (sim_bin ok_mul (sim_tup (siml_cons (sim_V 4) siml_nil)) sim_int))) (simb_cons (sims_set 6 (sim_Z (sim_lst (siml_cons (sim_tup (siml_cons (sim_V 1) (siml_cons (sim_tup (siml_cons sim_bl (siml_cons (sim_tup (siml_cons sim_int (siml_cons sim_int (siml_cons sim_int (siml_cons sim_int siml_nil))))) (siml_cons (sim_tup (siml_cons sim_int siml_nil)) (siml_cons sim_int siml_nil))))) siml_nil))) (siml_cons (sim_tup (siml_cons (sim_V 2) (siml_cons (sim_tup (siml_cons sim_bl (siml_cons (sim_tup (siml_cons sim_int (siml_cons sim_int (siml_cons sim_int (siml_cons sim_int (siml_cons sim_int siml_nil)))))) (siml_cons (sim_tup (siml_cons sim_int (siml_cons sim_int siml_nil))) (siml_cons sim_int siml_nil))))) siml_nil))) (siml_cons (sim_tup (siml_cons (sim_V 4) (siml_cons (sim_tup (siml_cons sim_bl (siml_cons (sim_tup (siml_cons sim_int siml_nil)) (siml_cons (sim_tup siml_nil) (siml_cons sim_int siml_nil))))) siml_nil))) (siml_cons (sim_tup (siml_cons (sim_V 5) (siml_cons (sim_tup (siml_cons sim_bl (siml_cons (sim_t1 1 ok_tuple (sim_lc (own := [((Str.ofString "at"), 9)]) (simi_range1 2 sim_int) (simg_N0 9) simts_nil (sim_bin ok_add sim_int (sim_bin ok_mul (sim_V 3) (sim_V 9))))) (siml_cons (sim_tup (siml_cons sim_int siml_nil)) (siml_cons sim_int siml_nil))))) siml_nil))) (siml_cons (sim_tup (siml_cons (sim_tup (siml_cons sim_str (siml_cons (sim_tup (siml_cons sim_str (siml_cons (sim_V 5) siml_nil))) siml_nil))) (siml_cons (sim_tup (siml_cons sim_bl (siml_cons (sim_t1 1 ok_tuple (sim_lc (own := [((Str.ofString "at"), 9)]) (simi_range1 2 sim_int) (simg_N0 9) simts_nil (sim_bin ok_add sim_int (sim_bin ok_mul (sim_V 3) (sim_V 9))))) (siml_cons (sim_tup (siml_cons sim_int siml_nil)) (siml_cons sim_int siml_nil))))) siml_nil))) siml_nil)))))))) (simb_cons (sims_set 6 (sim_Z (sim_bin ok_add (sim_V 6) (sim_lst (siml_cons (sim_tup (siml_cons (sim_tup (siml_cons sim_str (siml_cons (sim_V 5) (siml_cons (sim_V 4) siml_nil)))) (siml_cons (sim_tup (siml_cons sim_bl (siml_cons (sim_t1 1 ok_tuple (sim_lc (own := [((Str.ofString "at"), 9)]) (simi_range1 2 sim_int) (simg_N0 9) simts_nil (sim_bin ok_add sim_int (sim_bin ok_mul (sim_V 3) (sim_V 9))))) (siml_cons (sim_tup (siml_cons sim_int siml_nil)) (siml_cons sim_int siml_nil))))) siml_nil))) (siml_cons (sim_tup (siml_cons (sim_tup (siml_cons sim_str (siml_cons (sim_V 4) (siml_cons (sim_V 4) siml_nil)))) (siml_cons (sim_tup (siml_cons sim_bl (siml_cons (sim_tup (siml_cons sim_int (siml_cons (sim_bin ok_add sim_int (sim_V 3)) siml_nil))) (siml_cons (sim_tup (siml_cons sim_int siml_nil)) (siml_cons sim_int siml_nil))))) siml_nil))) (siml_cons (sim_tup (siml_cons (sim_tup (siml_cons sim_str (siml_cons (sim_tup (siml_cons sim_str (siml_cons (sim_V 4) (siml_cons (sim_tup (siml_cons sim_str (siml_cons sim_int siml_nil))) siml_nil)))) siml_nil))) (siml_cons (sim_tup (siml_cons sim_bl (siml_cons (sim_tup (siml_cons sim_int (siml_cons (sim_bin ok_add sim_int (sim_V 3)) siml_nil))) (siml_cons (sim_tup (siml_cons sim_int siml_nil)) (siml_cons sim_int siml_nil))))) siml_nil))) (siml_cons (sim_tup (siml_cons (sim_tup (siml_cons sim_str (siml_cons (sim_tup (siml_cons sim_str (siml_cons (sim_V 4) (siml_cons (sim_V 4) siml_nil)))) (siml_cons (sim_tup (siml_cons sim_str (siml_cons (sim_V 4) (siml_cons (sim_V 4) siml_nil)))) siml_nil)))) (siml_cons (sim_tup (siml_cons sim_bl (siml_cons (sim_tup (siml_cons sim_int (siml_cons (sim_bin ok_add sim_int (sim_V 3)) (siml_cons (sim_bin ok_add sim_int (sim_bin ok_mul sim_int (sim_V 3))) (siml_cons (sim_bin ok_add sim_int (sim_bin ok_mul sim_int (sim_V 3))) siml_nil))))) (siml_cons (sim_tup (siml_cons sim_int (siml_cons (sim_bin ok_add sim_int (sim_bin ok_mul sim_int (sim_V 3))) siml_nil))) (siml_cons sim_int siml_nil))))) siml_nil))) siml_nil)))))))) (simb_cons (sims_set 6 (sim_Z (sim_bin ok_add (sim_V 6) (sim_lst (siml_cons (sim_tup (siml_cons (sim_tup (siml_cons sim_str (siml_cons (sim_tup (siml_cons sim_str siml_nil)) (siml_cons (sim_V 4) (siml_cons (sim_tup (siml_cons sim_str (siml_cons sim_int siml_nil))) siml_nil))))) (siml_cons (sim_tup (siml_cons sim_bl (siml_cons (sim_tup (siml_cons sim_int (siml_cons sim_int (siml_cons (sim_bin ok_add sim_int (sim_V 3)) siml_nil)))) (siml_cons (sim_tup (siml_cons sim_int siml_nil)) (siml_cons sim_int siml_nil))))) siml_nil))) (siml_cons (sim_tup (siml_cons (sim_tup (siml_cons sim_str (siml_cons (sim_tup (siml_cons sim_str (siml_cons (sim_tup (siml_cons sim_str siml_nil)) siml_nil))) (siml_cons (sim_tup (siml_cons sim_str (siml_cons (sim_V 4) (siml_cons (sim_V 4) (siml_cons (sim_V 4) siml_nil))))) (siml_cons (sim_tup (siml_cons sim_str (siml_cons sim_int siml_nil))) siml_nil))))) (siml_cons (sim_tup (siml_cons sim_bl (siml_cons (sim_tup (siml_cons sim_int (siml_cons sim_int (siml_cons (sim_bin ok_add sim_int (sim_V 3)) (siml_cons (sim_bin ok_add sim_int (sim_bin ok_mul sim_int (sim_V 3))) (siml_cons (sim_bin ok_add sim_int (sim_bin ok_mul sim_int (sim_V 3))) siml_nil)))))) (siml_cons (sim_tup (siml_cons sim_int siml_nil)) (siml_cons sim_int siml_nil))))) siml_nil))) (siml_cons (sim_tup (siml_cons (sim_tup (siml_cons sim_str (siml_cons sim_int siml_nil))) (siml_cons (sim_tup (siml_cons sim_bl (siml_cons (sim_tup (siml_cons sim_int siml_nil)) (siml_cons (sim_tup siml_nil) (siml_cons sim_int siml_nil))))) siml_nil))) siml_nil))))))) (simb_cons (sims_for (simi_E (sim_V 6)) (simg_T (simgs_cons (simg_N 7) (simgs_cons (simg_N 8) simgs_nil))) (simb_one (sims_if (simt_W (simw_or (simt_cmp ok_ne (sim_call 27 rfl rfl rfl (siml_cons (sim_V 7) siml_nil)) (sim_V 8)) (simw_or1 (simt_not (simt_E (sim_call 29 rfl rfl rfl (siml_cons (sim_V 0) (siml_cons (sim_V 7) siml_nil)))))))) (simb_one (sims_ret sim_bl)) simb_nil))) (simb_one (sims_ret (sim_call 22 rfl rfl rfl (siml_cons (sim_tup (siml_cons (sim_Z (sim_callK0 4 rfl ⟨rfl, rfl, rfl, rfl⟩ rfl rfl rfl (simk_cons (sim_V 1) simk_nil))) (siml_cons (sim_Z (sim_callK0 3 rfl ⟨rfl, rfl, rfl, rfl⟩ rfl rfl rfl (simk_cons (sim_V 2) simk_nil))) (siml_cons (sim_Z (sim_callK0 2 rfl ⟨rfl, rfl, rfl, rfl⟩ rfl rfl rfl (simk_cons (sim_V 1) simk_nil))) (siml_cons (sim_Z (sim_callK0 1 rfl ⟨rfl, rfl, rfl, rfl⟩ rfl rfl rfl (simk_cons (sim_V 2) simk_nil))) siml_nil))))) (siml_cons (sim_tup (siml_cons (sim_tup (siml_cons sim_int (siml_cons sim_int (siml_cons sim_int (siml_cons sim_int siml_nil))))) (siml_cons (sim_tup (siml_cons sim_int (siml_cons sim_int siml_nil))) (siml_cons sim_int (siml_cons sim_int siml_nil))))) siml_nil))))))))))))))
theorem s_31 : SimB I [(Str.ofString "script"), (Str.ofString "branch"), (Str.ofString "lap"), (Str.ofString "expression"), (Str.ofString "leaf"), (Str.ofString "deep"), (Str.ofString "thick")] (defScope (topS 26)) (defBody (topS 26)) m_31 := (simb_cons (sims_set 1 (sim_call 20 rfl rfl rfl (siml_cons (sim_V 0) siml_nil))) (simb_cons (sims_if (simt_not (simt_E (sim_call 30 rfl rfl rfl (siml_cons (sim_V 1) siml_nil)))) (simb_one (sims_ret sim_bl)) simb_nil) (simb_cons (sims_for (simi_range1 2 sim_int) (simg_N 2) (simb_cons (sims_set 3 (sim_Z (sim_call 24 rfl rfl rfl (siml_cons (sim_V 1) (siml_cons (sim_cmp ok_eq (sim_call 21 rfl rfl rfl (siml_cons (sim_V 1) (siml_cons sim_int siml_nil))) sim_int) (siml_cons (sim_ix (sim_tup (siml_cons sim_int (siml_cons sim_int (siml_cons sim_int (siml_cons sim_int (siml_cons sim_int siml_nil)))))) (sim_call 21 rfl rfl rfl (siml_cons (sim_V 1) (siml_cons sim_int siml_nil)))) (siml_cons sim_int siml_nil))))))) (simb_one (sims_if (simt_not (simt_E (sim_call 29 rfl rfl rfl (siml_cons (sim_V 1) (siml_cons (sim_V 3) siml_nil))))) (simb_one (sims_ret sim_bl)) simb_nil)))) (simb_cons (sims_if (simt_cmp ok_ne (sim_call 21 rfl rfl rfl (siml_cons (sim_V 1) (siml_cons sim_int siml_nil))) sim_int) (simb_one (sims_ret sim_bl)) simb_nil) (simb_cons (sims_setT (sim_tup (siml_cons (sim_tup (siml_cons sim_str (siml_cons sim_str siml_nil))) (siml_cons (sim_tup (siml_cons sim_str (siml_cons sim_str siml_nil))) siml_nil))) (simgs_cons (simg_N 4) (simgs_cons (simg_N 5) simgs_nil))) (simb_cons (sims_for (simi_range1 2 sim_int) (simg_N 2) (simb_one (sims_set 5 (sim_tup (siml_cons sim_str (siml_cons (sim_V 5) (siml_cons (sim_V 4) siml_nil))))))) (simb_cons (sims_set 6 (sim_bin ok_add (sim_bin ok_add (sim_tup (siml_cons sim_str siml_nil)) (sim_bin ok_mul (sim_tup (siml_cons (sim_bin ok_add (sim_tup (siml_cons sim_str siml_nil)) (sim_bin ok_mul (sim_tup (siml_cons (sim_bin ok_add (sim_tup (siml_cons sim_str siml_nil)) (sim_bin ok_mul (sim_tup (siml_cons (sim_V 4) siml_nil)) sim_int)) siml_nil)) sim_int)) siml_nil)) sim_int)) (sim_tup (siml_cons (sim_tup (siml_cons sim_str (siml_cons (sim_tup (siml_cons sim_str (siml_cons (sim_V 4) siml_nil))) siml_nil))) siml_nil)))) (simb_one (sims_ret (sim_and (sim_call 29 rfl rfl rfl (siml_cons (sim_V 1) (siml_cons (sim_V 5) siml_nil))) (sim_and (sim_call 29 rfl rfl rfl (siml_cons (sim_V 1) (siml_cons (sim_V 6) siml_nil))) (sim_one (sim_call 29 rfl rfl rfl (siml_cons (sim_V 1) (siml_cons (sim_Z (sim_call 24 rfl rfl rfl (siml_cons (sim_V 1) (siml_cons sim_bl (siml_cons sim_int (siml_cons sim_int siml_nil)))))) siml_nil)))))))))))))))
theorem sc_00 : FnScope [(Str.ofString "k")] [(Str.ofString "k")] (defScope (topS 0)) := ⟨rfl, rfl, rfl, by decide +kernel, rfl, by decide +kernel, by decide +kernel⟩
theorem sc_01 : FnScope [(Str.ofString "expression")] [(Str.ofString "expression")] (defScope (topS 3)) := ⟨rfl, rfl, rfl, by decide +kernel, rfl, by decide +kernel, by decide +kernel⟩
theorem sc_02 : FnScope [(Str.ofString "expression")] [(Str.ofString "expression")] (defScope (topS 4)) := ⟨rfl, rfl, rfl, by decide +kernel, rfl, by decide +kernel, by decide +kernel⟩
theorem sc_03 : FnScope [(Str.ofString "self"), (Str.ofString "expression")] [(Str.ofString "self"), (Str.ofString "expression")] (defScope (inClass (topS 6) 0)) := ⟨rfl, rfl, rfl, by decide +kernel, rfl, by decide +kernel, by decide +kernel⟩
theorem sc_04 : FnScope [(Str.ofString "self"), (Str.ofString "expression"), (Str.ofString "parent"), (Str.ofString "level"), (Str.ofString "part"), (Str.ofString "operand")] [(Str.ofString "self"), (Str.ofString "expression"), (Str.ofString "parent"), (Str.ofString "level")] (defScope (inClass (topS 6) 1)) := ⟨rfl, rfl, rfl, by decide +kernel, rfl, by decide +kernel, by decide +kernel⟩
theorem sc_05 : FnScope [(Str.ofString "self")] [(Str.ofString "self")] (defScope (inClass (topS 6) 2)) := ⟨rfl, rfl, rfl, by decide +kernel, rfl, by decide +kernel, by decide +kernel⟩
theorem sc_06 : FnScope [(Str.ofString "self"), (Str.ofString "part")] [(Str.ofString "self"), (Str.ofString "part")] (defScope (inClass (topS 6) 3)) := ⟨rfl, rfl, rfl, by decide +kernel, rfl, by decide +kernel, by decide +kernel⟩
theorem sc_07 : FnScope [(Str.ofString "self"), (Str.ofString "part")] [(Str.ofString "self"), (Str.ofString "part")] (defScope (inClass (topS 6) 4)) := ⟨rfl, rfl, rfl, by decide +kernel, rfl, by decide +kernel, by decide +kernel⟩
theorem sc_08 : FnScope [(Str.ofString "self"), (Str.ofString "part")] [(Str.ofString "self"), (Str.ofString "part")] (defScope (inClass (topS 6) 5)) := ⟨rfl, rfl, rfl, by decide +kernel, rfl, by decide +kernel, by decide +kernel⟩
theorem sc_09 : FnScope [(Str.ofString "self"), (Str.ofString "part")] [(Str.ofString "self"), (Str.ofString "part")] (defScope (inClass (topS 6) 6)) := ⟨rfl, rfl, rfl, by decide +kernel, rfl, by decide +kernel, by decide +kernel⟩
theorem sc_10 : FnScope [(Str.ofString "self"), (Str.ofString "part")] [(Str.ofString "self"), (Str.ofString "part")] (defScope (inClass (topS 6) 7)) := ⟨rfl, rfl, rfl, by decide +kernel, rfl, by decide +kernel, by decide +kernel⟩
theorem sc_11 : FnScope [(Str.ofString "self"), (Str.ofString "part"), (Str.ofString "end")] [(Str.ofString "self"), (Str.ofString "part")] (defScope (inClass (topS 6) 8)) := ⟨rfl, rfl, rfl, by decide +kernel, rfl, by decide +kernel, by decide +kernel⟩
theorem sc_12 : FnScope [(Str.ofString "self"), (Str.ofString "part")] [(Str.ofString "self"), (Str.ofString "part")] (defScope (inClass (topS 6) 9)) := ⟨rfl, rfl, rfl, by decide +kernel, rfl, by decide +kernel, by decide +kernel⟩
theorem sc_13 : FnScope [(Str.ofString "self")] [(Str.ofString "self")] (defScope (inClass (topS 6) 10)) := ⟨rfl, rfl, rfl, by decide +kernel, rfl, by decide +kernel, by decide +kernel⟩
theorem sc_14 : FnScope [(Str.ofString "sticks"), (Str.ofString "stick"), (Str.ofString ".gen")] [(Str.ofString "sticks")] (defScope (topS 8)) := ⟨rfl, rfl, rfl, by decide +kernel, rfl, by decide +kernel, by decide +kernel⟩
theorem sc_15 : FnScope [(Str.ofString "expression"), (Str.ofString "sticks"), (Str.ofString "operand")] [(Str.ofString "expression")] (defScope (topS 9)) := ⟨rfl, rfl, rfl, by decide +kernel, rfl, by decide +kernel, by decide +kernel⟩
theorem sc_16 : FnScope [(Str.ofString "expression"), (Str.ofString "operands")] [(Str.ofString "expression")] (defScope (topS 10)) := ⟨rfl, rfl, rfl, by decide +kernel, rfl, by decide +kernel, by decide +kernel⟩
theorem sc_17 : FnScope [(Str.ofString "expression"), (Str.ofString "tree"), (Str.ofString "twigs"), (Str.ofString "part")] [(Str.ofString "expression")] (defScope (topS 11)) := ⟨rfl, rfl, rfl, by decide +kernel, rfl, by decide +kernel, by decide +kernel⟩
theorem sc_18 : FnScope [(Str.ofString "expression"), (Str.ofString "tree"), (Str.ofString "told"), (Str.ofString "part"), (Str.ofString "kids"), (Str.ofString "kid"), (Str.ofString ".gen")] [(Str.ofString "expression")] (defScope (topS 12)) := ⟨rfl, rfl, rfl, by decide +kernel, rfl, by decide +kernel, by decide +kernel⟩
theorem sc_19 : FnScope [(Str.ofString "expression")] [(Str.ofString "expression")] (defScope (topS 13)) := ⟨rfl, rfl, rfl, by decide +kernel, rfl, by decide +kernel, by decide +kernel⟩
theorem sc_20 : FnScope [(Str.ofString "script"), (Str.ofString "bark"), (Str.ofString "sap"), (Str.ofString "cell"), (Str.ofString "size")] [(Str.ofString "script")] (defScope (topS 15)) := ⟨rfl, rfl, rfl, by decide +kernel, rfl, by decide +kernel, by decide +kernel⟩
theorem sc_21 : FnScope [(Str.ofString "branch"), (Str.ofString "many"), (Str.ofString "size")] [(Str.ofString "branch"), (Str.ofString "many")] (defScope (topS 16)) := ⟨rfl, rfl, rfl, by decide +kernel, rfl, by decide +kernel, by decide +kernel⟩
theorem sc_22 : FnScope [(Str.ofString "told"), (Str.ofString "due"), (Str.ofString "at")] [(Str.ofString "told"), (Str.ofString "due")] (defScope (topS 17)) := ⟨rfl, rfl, rfl, by decide +kernel, rfl, by decide +kernel, by decide +kernel⟩
theorem sc_23 : FnScope [(Str.ofString "branch"), (Str.ofString "truth"), (Str.ofString "many"), (Str.ofString "told"), (Str.ofString "lap")] [(Str.ofString "branch"), (Str.ofString "truth"), (Str.ofString "many")] (defScope (topS 18)) := ⟨rfl, rfl, rfl, by decide +kernel, rfl, by decide +kernel, by decide +kernel⟩
theorem sc_24 : FnScope [(Str.ofString "branch"), (Str.ofString "truth"), (Str.ofString "room"), (Str.ofString "deep"), (Str.ofString "way"), (Str.ofString "inner"), (Str.ofString "share"), (Str.ofString "first"), (Str.ofString "word"), (Str.ofString "many"), (Str.ofString "told"), (Str.ofString "left"), (Str.ofString "at")] [(Str.ofString "branch"), (Str.ofString "truth"), (Str.ofString "room"), (Str.ofString "deep")] (defScope (topS 19)) := ⟨rfl, rfl, rfl, by decide +kernel, rfl, by decide +kernel, by decide +kernel⟩
theorem sc_25 : FnScope [(Str.ofString "expression"), (Str.ofString "told"), (Str.ofString "todo"), (Str.ofString "one"), (Str.ofString "above"), (Str.ofString "here"), (Str.ofString "operand")] [(Str.ofString "expression")] (defScope (topS 20)) := ⟨rfl, rfl, rfl, by decide +kernel, rfl, by decide +kernel, by decide +kernel⟩
theorem sc_26 : FnScope [(Str.ofString "parts"), (Str.ofString "below"), (Str.ofString "at"), (Str.ofString "told"), (Str.ofString "part")] [(Str.ofString "parts")] (defScope (topS 21)) := ⟨rfl, rfl, rfl, by decide +kernel, rfl, by decide +kernel, by decide +kernel⟩
theorem sc_27 : FnScope [(Str.ofString "expression"), (Str.ofString "parts"), (Str.ofString "twigs"), (Str.ofString "below"), (Str.ofString "whole"), (Str.ofString "forks"), (Str.ofString "at"), (Str.ofString "one")] [(Str.ofString "expression")] (defScope (topS 22)) := ⟨rfl, rfl, rfl, by decide +kernel, rfl, by decide +kernel, by decide +kernel⟩
theorem sc_28 : FnScope [(Str.ofString "expression"), (Str.ofString "sticks"), (Str.ofString "one")] [(Str.ofString "expression")] (defScope (topS 23)) := ⟨rfl, rfl, rfl, by decide +kernel, rfl, by decide +kernel, by decide +kernel⟩
theorem sc_29 : FnScope [(Str.ofString "branch"), (Str.ofString "expression"), (Str.ofString "twig"), (Str.ofString "whole"), (Str.ofString "forks"), (Str.ofString "stick"), (Str.ofString "told"), (Str.ofString "parts"), (Str.ofString "twigs"), (Str.ofString "below"), (Str.ofString "lap"), (Str.ofString "at")] [(Str.ofString "branch"), (Str.ofString "expression")] (defScope (topS 24)) := ⟨rfl, rfl, rfl, by decide +kernel, rfl, by decide +kernel, by decide +kernel⟩
theorem sc_30 : FnScope [(Str.ofString "branch"), (Str.ofString "row"), (Str.ofString "test"), (Str.ofString "many"), (Str.ofString "twig"), (Str.ofString "six"), (Str.ofString "rows"), (Str.ofString "expression"), (Str.ofString "due"), (Str.ofString "at")] [(Str.ofString "branch")] (defScope (topS 25)) := ⟨rfl, rfl, rfl, by decide +kernel, rfl, by decide +kernel, by decide +kernel⟩
theorem sc_31 : FnScope [(Str.ofString "script"), (Str.ofString "branch"), (Str.ofString "lap"), (Str.ofString "expression"), (Str.ofString "leaf"), (Str.ofString "deep"), (Str.ofString "thick")] [(Str.ofString "script")] (defScope (topS 26)) := ⟨rfl, rfl, rfl, by decide +kernel, rfl, by decide +kernel, by decide +kernel⟩
theorem text : TextOk I fs where
  fd := fun i d h => by unfold fs; rw [List.getElem?_map, h]; rfl
  sc := all_get (P := fun _ (d : DI) => FnScope d.N d.ps (defScope d.st) ∧ d.fd.pars = d.ps.length ∧ d.fd.slots = d.N.length) (xs := I.defs) (And.intro (And.intro sc_00 (And.intro rfl rfl)) (And.intro (And.intro sc_01 (And.intro rfl rfl)) (And.intro (And.intro sc_02 (And.intro rfl rfl)) (And.intro (And.intro sc_03 (And.intro rfl rfl)) (And.intro (And.intro sc_04 (And.intro rfl rfl)) (And.intro (And.intro sc_05 (And.intro rfl rfl)) (And.intro (And.intro sc_06 (And.intro rfl rfl)) (And.intro (And.intro sc_07 (And.intro rfl rfl)) (And.intro (And.intro sc_08 (And.intro rfl rfl)) (And.intro (And.intro sc_09 (And.intro rfl rfl)) (And.intro (And.intro sc_10 (And.intro rfl rfl)) (And.intro (And.intro sc_11 (And.intro rfl rfl)) (And.intro (And.intro sc_12 (And.intro rfl rfl)) (And.intro (And.intro sc_13 (And.intro rfl rfl)) (And.intro (And.intro sc_14 (And.intro rfl rfl)) (And.intro (And.intro sc_15 (And.intro rfl rfl)) (And.intro (And.intro sc_16 (And.intro rfl rfl)) (And.intro (And.intro sc_17 (And.intro rfl rfl)) (And.intro (And.intro sc_18 (And.intro rfl rfl)) (And.intro (And.intro sc_19 (And.intro rfl rfl)) (And.intro (And.intro sc_20 (And.intro rfl rfl)) (And.intro (And.intro sc_21 (And.intro rfl rfl)) (And.intro (And.intro sc_22 (And.intro rfl rfl)) (And.intro (And.intro sc_23 (And.intro rfl rfl)) (And.intro (And.intro sc_24 (And.intro rfl rfl)) (And.intro (And.intro sc_25 (And.intro rfl rfl)) (And.intro (And.intro sc_26 (And.intro rfl rfl)) (And.intro (And.intro sc_27 (And.intro rfl rfl)) (And.intro (And.intro sc_28 (And.intro rfl rfl)) (And.intro (And.intro sc_29 (And.intro rfl rfl)) (And.intro (And.intro sc_30 (And.intro rfl rfl)) (And.intro (And.intro sc_31 (And.intro rfl rfl)) True.intro))))))))))))))))))))))))))))))))
  sim := all_get (P := fun _ (d : DI) => SimB I d.N (defScope d.st) (defBody d.st) d.fd.body) (xs := I.defs) (And.intro s_00 (And.intro s_01 (And.intro s_02 (And.intro s_03 (And.intro s_04 (And.intro s_05 (And.intro s_06 (And.intro s_07 (And.intro s_08 (And.intro s_09 (And.intro s_10 (And.intro s_11 (And.intro s_12 (And.intro s_13 (And.intro s_14 (And.intro s_15 (And.intro s_16 (And.intro s_17 (And.intro s_18 (And.intro s_19 (And.intro s_20 (And.intro s_21 (And.intro s_22 (And.intro s_23 (And.intro s_24 (And.intro s_25 (And.intro s_26 (And.intro s_27 (And.intro s_28 (And.intro s_29 (And.intro s_30 (And.intro s_31 True.intro))))))))))))))))))))))))))))))))
theorem all_mk {w : World} {K : PySem.W.Frag} {h : Heap} {mg : Str → Option Value} {fa : Addr} (hl : Keeps (sem fs depth 31)) (X : K.In h) (G : h.Ns mainGlobals mg) (hfa : mg "law" = some (.ref fa))
    {C0 : Addr}
    {od0 an0 : Option Addr} {sl0 : Array (Option Value)} {oc0 kV0 dc0 pm0 cd0 ct0 : Value} {f0 : Addr}
    {od1 an1 : Option Addr} {sl1 : Array (Option Value)} {oc1 kV1 dc1 pm1 cd1 ct1 : Value} {f1 : Addr}
    {od2 an2 : Option Addr} {sl2 : Array (Option Value)} {oc2 kV2 dc2 pm2 cd2 ct2 : Value} {f2 : Addr}
    {od3 an3 : Option Addr} {sl3 : Array (Option Value)} {oc3 kV3 dc3 pm3 cd3 ct3 : Value} {f3 : Addr}
    {od4 an4 : Option Addr} {sl4 : Array (Option Value)} {oc4 kV4 dc4 pm4 cd4 ct4 : Value} {f4 : Addr}
    {od5 an5 : Option Addr} {sl5 : Array (Option Value)} {oc5 kV5 dc5 pm5 cd5 ct5 : Value} {f5 : Addr}
    {od6 an6 : Option Addr} {sl6 : Array (Option Value)} {oc6 kV6 dc6 pm6 cd6 ct6 : Value} {f6 : Addr}
    {od7 an7 : Option Addr} {sl7 : Array (Option Value)} {oc7 kV7 dc7 pm7 cd7 ct7 : Value} {f7 : Addr}
    {od8 an8 : Option Addr} {sl8 : Array (Option Value)} {oc8 kV8 dc8 pm8 cd8 ct8 : Value} {f8 : Addr}
    {od9 an9 : Option Addr} {sl9 : Array (Option Value)} {oc9 kV9 dc9 pm9 cd9 ct9 : Value} {f9 : Addr}
    {od10 an10 : Option Addr} {sl10 : Array (Option Value)} {oc10 kV10 dc10 pm10 cd10 ct10 : Value} {f10 : Addr}
    {od11 an11 : Option Addr} {sl11 : Array (Option Value)} {oc11 kV11 dc11 pm11 cd11 ct11 : Value} {f11 : Addr}
    {od12 an12 : Option Addr} {sl12 : Array (Option Value)} {oc12 kV12 dc12 pm12 cd12 ct12 : Value} {f12 : Addr}
    {od13 an13 : Option Addr} {sl13 : Array (Option Value)} {oc13 kV13 dc13 pm13 cd13 ct13 : Value} {f13 : Addr}
    {od14 an14 : Option Addr} {sl14 : Array (Option Value)} {oc14 kV14 dc14 pm14 cd14 ct14 : Value} {f14 : Addr}
    {od15 an15 : Option Addr} {sl15 : Array (Option Value)} {oc15 kV15 dc15 pm15 cd15 ct15 : Value} {f15 : Addr}
    {od16 an16 : Option Addr} {sl16 : Array (Option Value)} {oc16 kV16 dc16 pm16 cd16 ct16 : Value} {f16 : Addr}
    {od17 an17 : Option Addr} {sl17 : Array (Option Value)} {oc17 kV17 dc17 pm17 cd17 ct17 : Value} {f17 : Addr}
    {od18 an18 : Option Addr} {sl18 : Array (Option Value)} {oc18 kV18 dc18 pm18 cd18 ct18 : Value} {f18 : Addr}
    {od19 an19 : Option Addr} {sl19 : Array (Option Value)} {oc19 kV19 dc19 pm19 cd19 ct19 : Value} {f19 : Addr}
    {od20 an20 : Option Addr} {sl20 : Array (Option Value)} {oc20 kV20 dc20 pm20 cd20 ct20 : Value} {f20 : Addr}
    {od21 an21 : Option Addr} {sl21 : Array (Option Value)} {oc21 kV21 dc21 pm21 cd21 ct21 : Value} {f21 : Addr}
    {od22 an22 : Option Addr} {sl22 : Array (Option Value)} {oc22 kV22 dc22 pm22 cd22 ct22 : Value} {f22 : Addr}
    {od23 an23 : Option Addr} {sl23 : Array (Option Value)} {oc23 kV23 dc23 pm23 cd23 ct23 : Value} {f23 : Addr}
    {od24 an24 : Option Addr} {sl24 : Array (Option Value)} {oc24 kV24 dc24 pm24 cd24 ct24 : Value} {f24 : Addr}
    {od25 an25 : Option Addr} {sl25 : Array (Option Value)} {oc25 kV25 dc25 pm25 cd25 ct25 : Value} {f25 : Addr}
    {od26 an26 : Option Addr} {sl26 : Array (Option Value)} {oc26 kV26 dc26 pm26 cd26 ct26 : Value} {f26 : Addr}
    {od27 an27 : Option Addr} {sl27 : Array (Option Value)} {oc27 kV27 dc27 pm27 cd27 ct27 : Value} {f27 : Addr}
    {od28 an28 : Option Addr} {sl28 : Array (Option Value)} {oc28 kV28 dc28 pm28 cd28 ct28 : Value} {f28 : Addr}
    {od29 an29 : Option Addr} {sl29 : Array (Option Value)} {oc29 kV29 dc29 pm29 cd29 ct29 : Value} {f29 : Addr}
    {od30 an30 : Option Addr} {sl30 : Array (Option Value)} {oc30 kV30 dc30 pm30 cd30 ct30 : Value} {f30 : Addr}
    {od31 an31 : Option Addr} {sl31 : Array (Option Value)} {oc31 kV31 dc31 pm31 cd31 ct31 : Value} {f31 : Addr}
    {q : Program}
    {tc14 tp14 : Addr} {t1_14 : Value} {t2_14 : Option Addr} {t3_14 : Array (Option Value)} {tv_14 : Array Value}
    {tc18 tp18 : Addr} {t1_18 : Value} {t2_18 : Option Addr} {t3_18 : Array (Option Value)} {tv_18 : Array Value}
    {uc0 : Value}
    (ac0 : PySem.W.nsIn K mainGlobals (Str.ofString "Tree") = some (some (.ref C0)))
    (a0 : PySem.W.nsIn K mainGlobals (Str.ofString "_wall") = some (some (.ref f0)))
    (l0 : K.lookup f0 = some ⟨oc0, od0, .func (PySem.W.fnOf (Str.ofString "_wall") (Str.ofString "_wall") (defArgs (topS 0)) (defBody (topS 0)) (defScope (topS 0)) .none kV0 dc0 pm0 an0 cd0 ct0), sl0⟩)
    (c0 : PySem.W.codeIn K cd0 (Str.ofString "_wall") = true)
    (k0 : PySem.W.keepIn K (.ref f0) = true)
    (a1 : PySem.W.nsIn K mainGlobals (Str.ofString "is_leaf") = some (some (.ref f1)))
    (l1 : K.lookup f1 = some ⟨oc1, od1, .func (PySem.W.fnOf (Str.ofString "is_leaf") (Str.ofString "is_leaf") (defArgs (topS 3)) (defBody (topS 3)) (defScope (topS 3)) .none kV1 dc1 pm1 an1 cd1 ct1), sl1⟩)
    (c1 : PySem.W.codeIn K cd1 (Str.ofString "is_leaf") = true)
    (k1 : PySem.W.keepIn K (.ref f1) = true)
    (a2 : PySem.W.nsIn K mainGlobals (Str.ofString "operands_in") = some (some (.ref f2)))
    (l2 : K.lookup f2 = some ⟨oc2, od2, .func (PySem.W.fnOf (Str.ofString "operands_in") (Str.ofString "operands_in") (defArgs (topS 4)) (defBody (topS 4)) (defScope (topS 4)) .none kV2 dc2 pm2 an2 cd2 ct2), sl2⟩)
    (c2 : PySem.W.codeIn K cd2 (Str.ofString "operands_in") = true)
    (k2 : PySem.W.keepIn K (.ref f2) = true)
    (a3 : PySem.W.findIn K (.ref C0) (Str.ofString "__init__") = some (some (.ref f3)))
    (l3 : K.lookup f3 = some ⟨oc3, od3, .func (PySem.W.fnOf (Str.ofString "__init__") (Str.ofString "Tree.__init__") (defArgs (inClass (topS 6) 0)) (defBody (inClass (topS 6) 0)) (defScope (inClass (topS 6) 0)) .none kV3 dc3 pm3 an3 cd3 ct3), sl3⟩)
    (c3 : PySem.W.codeIn K cd3 (Str.ofString "Tree.__init__") = true)
    (k3 : PySem.W.keepIn K (.ref f3) = true)
    (n3 : PySem.W.isFn K (.ref f3) = true)
    (a4 : PySem.W.findIn K (.ref C0) (Str.ofString "_add") = some (some (.ref f4)))
    (l4 : K.lookup f4 = some ⟨oc4, od4, .func (PySem.W.fnOf (Str.ofString "_add") (Str.ofString "Tree._add") (defArgs (inClass (topS 6) 1)) (defBody (inClass (topS 6) 1)) (defScope (inClass (topS 6) 1)) .none kV4 dc4 pm4 an4 cd4 ct4), sl4⟩)
    (c4 : PySem.W.codeIn K cd4 (Str.ofString "Tree._add") = true)
    (k4 : PySem.W.keepIn K (.ref f4) = true)
    (n4 : PySem.W.isFn K (.ref f4) = true)
    (a5 : PySem.W.findIn K (.ref C0) (Str.ofString "many") = some (some (.ref f5)))
    (l5 : K.lookup f5 = some ⟨oc5, od5, .func (PySem.W.fnOf (Str.ofString "many") (Str.ofString "Tree.many") (defArgs (inClass (topS 6) 2)) (defBody (inClass (topS 6) 2)) (defScope (inClass (topS 6) 2)) .none kV5 dc5 pm5 an5 cd5 ct5), sl5⟩)
    (c5 : PySem.W.codeIn K cd5 (Str.ofString "Tree.many") = true)
    (k5 : PySem.W.keepIn K (.ref f5) = true)
    (n5 : PySem.W.isFn K (.ref f5) = true)
    (a6 : PySem.W.findIn K (.ref C0) (Str.ofString "part") = some (some (.ref f6)))
    (l6 : K.lookup f6 = some ⟨oc6, od6, .func (PySem.W.fnOf (Str.ofString "part") (Str.ofString "Tree.part") (defArgs (inClass (topS 6) 3)) (defBody (inClass (topS 6) 3)) (defScope (inClass (topS 6) 3)) .none kV6 dc6 pm6 an6 cd6 ct6), sl6⟩)
    (c6 : PySem.W.codeIn K cd6 (Str.ofString "Tree.part") = true)
    (k6 : PySem.W.keepIn K (.ref f6) = true)
    (n6 : PySem.W.isFn K (.ref f6) = true)
    (a7 : PySem.W.findIn K (.ref C0) (Str.ofString "kids") = some (some (.ref f7)))
    (l7 : K.lookup f7 = some ⟨oc7, od7, .func (PySem.W.fnOf (Str.ofString "kids") (Str.ofString "Tree.kids") (defArgs (inClass (topS 6) 4)) (defBody (inClass (topS 6) 4)) (defScope (inClass (topS 6) 4)) .none kV7 dc7 pm7 an7 cd7 ct7), sl7⟩)
    (c7 : PySem.W.codeIn K cd7 (Str.ofString "Tree.kids") = true)
    (k7 : PySem.W.keepIn K (.ref f7) = true)
    (n7 : PySem.W.isFn K (.ref f7) = true)
    (a8 : PySem.W.findIn K (.ref C0) (Str.ofString "parent") = some (some (.ref f8)))
    (l8 : K.lookup f8 = some ⟨oc8, od8, .func (PySem.W.fnOf (Str.ofString "parent") (Str.ofString "Tree.parent") (defArgs (inClass (topS 6) 5)) (defBody (inClass (topS 6) 5)) (defScope (inClass (topS 6) 5)) .none kV8 dc8 pm8 an8 cd8 ct8), sl8⟩)
    (c8 : PySem.W.codeIn K cd8 (Str.ofString "Tree.parent") = true)
    (k8 : PySem.W.keepIn K (.ref f8) = true)
    (n8 : PySem.W.isFn K (.ref f8) = true)
    (a9 : PySem.W.findIn K (.ref C0) (Str.ofString "level") = some (some (.ref f9)))
    (l9 : K.lookup f9 = some ⟨oc9, od9, .func (PySem.W.fnOf (Str.ofString "level") (Str.ofString "Tree.level") (defArgs (inClass (topS 6) 6)) (defBody (inClass (topS 6) 6)) (defScope (inClass (topS 6) 6)) .none kV9 dc9 pm9 an9 cd9 ct9), sl9⟩)
    (c9 : PySem.W.codeIn K cd9 (Str.ofString "Tree.level") = true)
    (k9 : PySem.W.keepIn K (.ref f9) = true)
    (n9 : PySem.W.isFn K (.ref f9) = true)
    (a10 : PySem.W.findIn K (.ref C0) (Str.ofString "is_leaf") = some (some (.ref f10)))
    (l10 : K.lookup f10 = some ⟨oc10, od10, .func (PySem.W.fnOf (Str.ofString "is_leaf") (Str.ofString "Tree.is_leaf") (defArgs (inClass (topS 6) 7)) (defBody (inClass (topS 6) 7)) (defScope (inClass (topS 6) 7)) .none kV10 dc10 pm10 an10 cd10 ct10), sl10⟩)
    (c10 : PySem.W.codeIn K cd10 (Str.ofString "Tree.is_leaf") = true)
    (k10 : PySem.W.keepIn K (.ref f10) = true)
    (n10 : PySem.W.isFn K (.ref f10) = true)
    (a11 : PySem.W.findIn K (.ref C0) (Str.ofString "within") = some (some (.ref f11)))
    (l11 : K.lookup f11 = some ⟨oc11, od11, .func (PySem.W.fnOf (Str.ofString "within") (Str.ofString "Tree.within") (defArgs (inClass (topS 6) 8)) (defBody (inClass (topS 6) 8)) (defScope (inClass (topS 6) 8)) .none kV11 dc11 pm11 an11 cd11 ct11), sl11⟩)
    (c11 : PySem.W.codeIn K cd11 (Str.ofString "Tree.within") = true)
    (k11 : PySem.W.keepIn K (.ref f11) = true)
    (n11 : PySem.W.isFn K (.ref f11) = true)
    (a12 : PySem.W.findIn K (.ref C0) (Str.ofString "size") = some (some (.ref f12)))
    (l12 : K.lookup f12 = some ⟨oc12, od12, .func (PySem.W.fnOf (Str.ofString "size") (Str.ofString "Tree.size") (defArgs (inClass (topS 6) 9)) (defBody (inClass (topS 6) 9)) (defScope (inClass (topS 6) 9)) .none kV12 dc12 pm12 an12 cd12 ct12), sl12⟩)
    (c12 : PySem.W.codeIn K cd12 (Str.ofString "Tree.size") = true)
    (k12 : PySem.W.keepIn K (.ref f12) = true)
    (n12 : PySem.W.isFn K (.ref f12) = true)
    (a13 : PySem.W.findIn K (.ref C0) (Str.ofString "upward") = some (some (.ref f13)))
    (l13 : K.lookup f13 = some ⟨oc13, od13, .func (PySem.W.fnOf (Str.ofString "upward") (Str.ofString "Tree.upward") (defArgs (inClass (topS 6) 10)) (defBody (inClass (topS 6) 10)) (defScope (inClass (topS 6) 10)) .none kV13 dc13 pm13 an13 cd13 ct13), sl13⟩)
    (c13 : PySem.W.codeIn K cd13 (Str.ofString "Tree.upward") = true)
    (k13 : PySem.W.keepIn K (.ref f13) = true)
    (n13 : PySem.W.isFn K (.ref f13) = true)
    (a14 : PySem.W.nsIn K mainGlobals (Str.ofString "stick_of") = some (some (.ref f14)))
    (l14 : K.lookup f14 = some ⟨oc14, od14, .func (PySem.W.fnOf (Str.ofString "stick_of") (Str.ofString "stick_of") (defArgs (topS 8)) (defBody (topS 8)) (defScope (topS 8)) .none kV14 dc14 pm14 an14 cd14 ct14), sl14⟩)
    (c14 : PySem.W.codeIn K cd14 (Str.ofString "stick_of") = true)
    (k14 : PySem.W.keepIn K (.ref f14) = true)
    (te14 : cd14 = .ref tc14)
    (tl14 : K.lookup tc14 = some ⟨t1_14, t2_14, .fields tv_14, t3_14⟩)
    (tm14 : tv_14[11]? = some (.ref tp14))
    (to14 : K.lookup tp14 = none)
    (tq14 : ((recsOf q).any fun e => e.name == (Str.ofString "stick_of")) = true)
    (a15 : PySem.W.nsIn K mainGlobals (Str.ofString "stick_number") = some (some (.ref f15)))
    (l15 : K.lookup f15 = some ⟨oc15, od15, .func (PySem.W.fnOf (Str.ofString "stick_number") (Str.ofString "stick_number") (defArgs (topS 9)) (defBody (topS 9)) (defScope (topS 9)) .none kV15 dc15 pm15 an15 cd15 ct15), sl15⟩)
    (c15 : PySem.W.codeIn K cd15 (Str.ofString "stick_number") = true)
    (k15 : PySem.W.keepIn K (.ref f15) = true)
    (a16 : PySem.W.nsIn K mainGlobals (Str.ofString "is_twig") = some (some (.ref f16)))
    (l16 : K.lookup f16 = some ⟨oc16, od16, .func (PySem.W.fnOf (Str.ofString "is_twig") (Str.ofString "is_twig") (defArgs (topS 10)) (defBody (topS 10)) (defScope (topS 10)) .none kV16 dc16 pm16 an16 cd16 ct16), sl16⟩)
    (c16 : PySem.W.codeIn K cd16 (Str.ofString "is_twig") = true)
    (k16 : PySem.W.keepIn K (.ref f16) = true)
    (a17 : PySem.W.nsIn K mainGlobals (Str.ofString "whole_twigs") = some (some (.ref f17)))
    (l17 : K.lookup f17 = some ⟨oc17, od17, .func (PySem.W.fnOf (Str.ofString "whole_twigs") (Str.ofString "whole_twigs") (defArgs (topS 11)) (defBody (topS 11)) (defScope (topS 11)) .none kV17 dc17 pm17 an17 cd17 ct17), sl17⟩)
    (c17 : PySem.W.codeIn K cd17 (Str.ofString "whole_twigs") = true)
    (k17 : PySem.W.keepIn K (.ref f17) = true)
    (a18 : PySem.W.nsIn K mainGlobals (Str.ofString "forks_of") = some (some (.ref f18)))
    (l18 : K.lookup f18 = some ⟨oc18, od18, .func (PySem.W.fnOf (Str.ofString "forks_of") (Str.ofString "forks_of") (defArgs (topS 12)) (defBody (topS 12)) (defScope (topS 12)) .none kV18 dc18 pm18 an18 cd18 ct18), sl18⟩)
    (c18 : PySem.W.codeIn K cd18 (Str.ofString "forks_of") = true)
    (k18 : PySem.W.keepIn K (.ref f18) = true)
    (te18 : cd18 = .ref tc18)
    (tl18 : K.lookup tc18 = some ⟨t1_18, t2_18, .fields tv_18, t3_18⟩)
    (tm18 : tv_18[11]? = some (.ref tp18))
    (to18 : K.lookup tp18 = none)
    (tq18 : ((recsOf q).any fun e => e.name == (Str.ofString "forks_of")) = true)
    (a19 : PySem.W.nsIn K mainGlobals (Str.ofString "need_of") = some (some (.ref f19)))
    (l19 : K.lookup f19 = some ⟨oc19, od19, .func (PySem.W.fnOf (Str.ofString "need_of") (Str.ofString "need_of") (defArgs (topS 13)) (defBody (topS 13)) (defScope (topS 13)) .none kV19 dc19 pm19 an19 cd19 ct19), sl19⟩)
    (c19 : PySem.W.codeIn K cd19 (Str.ofString "need_of") = true)
    (k19 : PySem.W.keepIn K (.ref f19) = true)
    (a20 : PySem.W.nsIn K mainGlobals (Str.ofString "_law_branch") = some (some (.ref f20)))
    (l20 : K.lookup f20 = some ⟨oc20, od20, .func (PySem.W.fnOf (Str.ofString "_law_branch") (Str.ofString "_law_branch") (defArgs (topS 15)) (defBody (topS 15)) (defScope (topS 15)) .none kV20 dc20 pm20 an20 cd20 ct20), sl20⟩)
    (c20 : PySem.W.codeIn K cd20 (Str.ofString "_law_branch") = true)
    (k20 : PySem.W.keepIn K (.ref f20) = true)
    (a21 : PySem.W.nsIn K mainGlobals (Str.ofString "_law_snap") = some (some (.ref f21)))
    (l21 : K.lookup f21 = some ⟨oc21, od21, .func (PySem.W.fnOf (Str.ofString "_law_snap") (Str.ofString "_law_snap") (defArgs (topS 16)) (defBody (topS 16)) (defScope (topS 16)) .none kV21 dc21 pm21 an21 cd21 ct21), sl21⟩)
    (c21 : PySem.W.codeIn K cd21 (Str.ofString "_law_snap") = true)
    (k21 : PySem.W.keepIn K (.ref f21) = true)
    (a22 : PySem.W.nsIn K mainGlobals (Str.ofString "_law_is") = some (some (.ref f22)))
    (l22 : K.lookup f22 = some ⟨oc22, od22, .func (PySem.W.fnOf (Str.ofString "_law_is") (Str.ofString "_law_is") (defArgs (topS 17)) (defBody (topS 17)) (defScope (topS 17)) .none kV22 dc22 pm22 an22 cd22 ct22), sl22⟩)
    (c22 : PySem.W.codeIn K cd22 (Str.ofString "_law_is") = true)
    (k22 : PySem.W.keepIn K (.ref f22) = true)
    (a23 : PySem.W.nsIn K mainGlobals (Str.ofString "_law_twig") = some (some (.ref f23)))
    (l23 : K.lookup f23 = some ⟨oc23, od23, .func (PySem.W.fnOf (Str.ofString "_law_twig") (Str.ofString "_law_twig") (defArgs (topS 18)) (defBody (topS 18)) (defScope (topS 18)) .none kV23 dc23 pm23 an23 cd23 ct23), sl23⟩)
    (c23 : PySem.W.codeIn K cd23 (Str.ofString "_law_twig") = true)
    (k23 : PySem.W.keepIn K (.ref f23) = true)
    (a24 : PySem.W.nsIn K mainGlobals (Str.ofString "_law_tree") = some (some (.ref f24)))
    (l24 : K.lookup f24 = some ⟨oc24, od24, .func (PySem.W.fnOf (Str.ofString "_law_tree") (Str.ofString "_law_tree") (defArgs (topS 19)) (defBody (topS 19)) (defScope (topS 19)) .none kV24 dc24 pm24 an24 cd24 ct24), sl24⟩)
    (c24 : PySem.W.codeIn K cd24 (Str.ofString "_law_tree") = true)
    (k24 : PySem.W.keepIn K (.ref f24) = true)
    (a25 : PySem.W.nsIn K mainGlobals (Str.ofString "_law_numbered") = some (some (.ref f25)))
    (l25 : K.lookup f25 = some ⟨oc25, od25, .func (PySem.W.fnOf (Str.ofString "_law_numbered") (Str.ofString "_law_numbered") (defArgs (topS 20)) (defBody (topS 20)) (defScope (topS 20)) .none kV25 dc25 pm25 an25 cd25 ct25), sl25⟩)
    (c25 : PySem.W.codeIn K cd25 (Str.ofString "_law_numbered") = true)
    (k25 : PySem.W.keepIn K (.ref f25) = true)
    (a26 : PySem.W.nsIn K mainGlobals (Str.ofString "_law_twigs") = some (some (.ref f26)))
    (l26 : K.lookup f26 = some ⟨oc26, od26, .func (PySem.W.fnOf (Str.ofString "_law_twigs") (Str.ofString "_law_twigs") (defArgs (topS 21)) (defBody (topS 21)) (defScope (topS 21)) .none kV26 dc26 pm26 an26 cd26 ct26), sl26⟩)
    (c26 : PySem.W.codeIn K cd26 (Str.ofString "_law_twigs") = true)
    (k26 : PySem.W.keepIn K (.ref f26) = true)
    (a27 : PySem.W.nsIn K mainGlobals (Str.ofString "_law_facts") = some (some (.ref f27)))
    (l27 : K.lookup f27 = some ⟨oc27, od27, .func (PySem.W.fnOf (Str.ofString "_law_facts") (Str.ofString "_law_facts") (defArgs (topS 22)) (defBody (topS 22)) (defScope (topS 22)) .none kV27 dc27 pm27 an27 cd27 ct27), sl27⟩)
    (c27 : PySem.W.codeIn K cd27 (Str.ofString "_law_facts") = true)
    (k27 : PySem.W.keepIn K (.ref f27) = true)
    (a28 : PySem.W.nsIn K mainGlobals (Str.ofString "_law_sum") = some (some (.ref f28)))
    (l28 : K.lookup f28 = some ⟨oc28, od28, .func (PySem.W.fnOf (Str.ofString "_law_sum") (Str.ofString "_law_sum") (defArgs (topS 23)) (defBody (topS 23)) (defScope (topS 23)) .none kV28 dc28 pm28 an28 cd28 ct28), sl28⟩)
    (c28 : PySem.W.codeIn K cd28 (Str.ofString "_law_sum") = true)
    (k28 : PySem.W.keepIn K (.ref f28) = true)
    (a29 : PySem.W.nsIn K mainGlobals (Str.ofString "_law_asked") = some (some (.ref f29)))
    (l29 : K.lookup f29 = some ⟨oc29, od29, .func (PySem.W.fnOf (Str.ofString "_law_asked") (Str.ofString "_law_asked") (defArgs (topS 24)) (defBody (topS 24)) (defScope (topS 24)) .none kV29 dc29 pm29 an29 cd29 ct29), sl29⟩)
    (c29 : PySem.W.codeIn K cd29 (Str.ofString "_law_asked") = true)
    (k29 : PySem.W.keepIn K (.ref f29) = true)
    (a30 : PySem.W.nsIn K mainGlobals (Str.ofString "_law_hand") = some (some (.ref f30)))
    (l30 : K.lookup f30 = some ⟨oc30, od30, .func (PySem.W.fnOf (Str.ofString "_law_hand") (Str.ofString "_law_hand") (defArgs (topS 25)) (defBody (topS 25)) (defScope (topS 25)) .none kV30 dc30 pm30 an30 cd30 ct30), sl30⟩)
    (c30 : PySem.W.codeIn K cd30 (Str.ofString "_law_hand") = true)
    (k30 : PySem.W.keepIn K (.ref f30) = true)
    (a31 : PySem.W.nsIn K mainGlobals (Str.ofString "law") = some (some (.ref f31)))
    (l31 : K.lookup f31 = some ⟨oc31, od31, .func (PySem.W.fnOf (Str.ofString "law") (Str.ofString "law") (defArgs (topS 26)) (defBody (topS 26)) (defScope (topS 26)) .none kV31 dc31 pm31 an31 cd31 ct31), sl31⟩)
    (c31 : PySem.W.codeIn K cd31 (Str.ofString "law") = true)
    (k31 : PySem.W.keepIn K (.ref f31) = true)
    (cp0 : PySem.W.plainGet K C0 Str.empty = true)
    (ch0 : PySem.W.hasDictIn K C0 = true)
    (co0 : PySem.W.plainOver K C0 = true)
    (cs0 : PySem.W.findIn K (.ref C0) "__setattr__" = some (some (.builtin "object.__setattr__")))
    (cm0 : PySem.W.makesIn K C0 = true)
    (ck0 : PySem.W.keepIn K (.ref C0) = true)
    (cf0_0 : PySem.W.findIn K (.ref C0) (Str.ofString "_kids") = some none)
    (cf0_1 : PySem.W.findIn K (.ref C0) (Str.ofString "_levels") = some none)
    (cf0_2 : PySem.W.findIn K (.ref C0) (Str.ofString "_parents") = some none)
    (cf0_3 : PySem.W.findIn K (.ref C0) (Str.ofString "_parts") = some none)
    (u0 : PySem.W.nsIn K mainGlobals (Str.ofString "LEAVES") = some (some uc0))
    (v0 : readD K 9 uc0 = some c_LEAVES)
    (z0 : PySem.W.nsIn K mainGlobals (Str.ofString "len") = some none)
    (z1 : PySem.W.nsIn K mainGlobals (Str.ofString "tuple") = some none)
    (z2 : PySem.W.nsIn K mainGlobals (Str.ofString "range") = some none)
    (z3 : PySem.W.nsIn K mainGlobals (Str.ofString "max") = some none)
    (z4 : PySem.W.nsIn K mainGlobals (Str.ofString "sum") = some none)
    (z5 : PySem.W.nsIn K mainGlobals (Str.ofString "all") = some none)
    (z6 : PySem.W.nsIn K mainGlobals (Str.ofString "int") = some none)
    (z7 : PySem.W.nsIn K mainGlobals (Str.ofString "abs") = some none)
    (z8 : PySem.W.nsIn K mainGlobals (Str.ofString "isinstance") = some none)
    (z9 : PySem.W.nsIn K mainGlobals (Str.ofString "bool") = some none)
    (z10 : PySem.W.nsIn K mainGlobals (Str.ofString "min") = some none) :
    ∃ gl : List (Str × Addr × Addr), (∀ p ∈ gl, PySem.W.tabIn K p.1 = some p.2 ∧ K.lookup p.2.2 = none ∧ ((recsOf q).any fun e => e.name == p.1) = true) ∧ ∃ fd : FuncData, (∀ (s : Shared) (u : Value), BindsTo s fd ⟨[u], []⟩ [("script", u)]) ∧ ∀ base : Heap, K.In base → base.Ns mainGlobals mg → (∀ p ∈ gl.map (·.2), GxR.TabB base mg p.1 p.2) → FnOk PySem.Challenge.rw_anypartnext_k06_twigs_and_forks.prog w K mg base (L2.CX PySem.Challenge.rw_anypartnext_k06_twigs_and_forks.prog w) ((2 + I.slack) * depth + 1) fa fd ["script"] (spLawT K (gl.map (·.2))) := by
  have e : fa = f31 := Value.ref.inj (Option.some.inj (hfa.symm.trans (PySem.W.mg_of X G a31)))
  rw [e]
  let g : Gc := { K := K, mg := mg, nc := 1, ca := (fun i => [C0].getD i 0), xa := (fun _ => 0), xf := fun i => exFields.getD i [], xi := (fun _ => 0), xd := (fun _ => (PySem.W.fnOf (Str.ofString "_wall") (Str.ofString "_wall") (defArgs (topS 0)) (defBody (topS 0)) (defScope (topS 0)) .none kV0 dc0 pm0 an0 cd0 ct0)), fa := (fun i => [f0, f1, f2, f3, f4, f5, f6, f7, f8, f9, f10, f11, f12, f13, f14, f15, f16, f17, f18, f19, f20, f21, f22, f23, f24, f25, f26, f27, f28, f29, f30, f31].getD i 0), fd := (fun i => [(PySem.W.fnOf (Str.ofString "_wall") (Str.ofString "_wall") (defArgs (topS 0)) (defBody (topS 0)) (defScope (topS 0)) .none kV0 dc0 pm0 an0 cd0 ct0), (PySem.W.fnOf (Str.ofString "is_leaf") (Str.ofString "is_leaf") (defArgs (topS 3)) (defBody (topS 3)) (defScope (topS 3)) .none kV1 dc1 pm1 an1 cd1 ct1), (PySem.W.fnOf (Str.ofString "operands_in") (Str.ofString "operands_in") (defArgs (topS 4)) (defBody (topS 4)) (defScope (topS 4)) .none kV2 dc2 pm2 an2 cd2 ct2), (PySem.W.fnOf (Str.ofString "__init__") (Str.ofString "Tree.__init__") (defArgs (inClass (topS 6) 0)) (defBody (inClass (topS 6) 0)) (defScope (inClass (topS 6) 0)) .none kV3 dc3 pm3 an3 cd3 ct3), (PySem.W.fnOf (Str.ofString "_add") (Str.ofString "Tree._add") (defArgs (inClass (topS 6) 1)) (defBody (inClass (topS 6) 1)) (defScope (inClass (topS 6) 1)) .none kV4 dc4 pm4 an4 cd4 ct4), (PySem.W.fnOf (Str.ofString "many") (Str.ofString "Tree.many") (defArgs (inClass (topS 6) 2)) (defBody (inClass (topS 6) 2)) (defScope (inClass (topS 6) 2)) .none kV5 dc5 pm5 an5 cd5 ct5), (PySem.W.fnOf (Str.ofString "part") (Str.ofString "Tree.part") (defArgs (inClass (topS 6) 3)) (defBody (inClass (topS 6) 3)) (defScope (inClass (topS 6) 3)) .none kV6 dc6 pm6 an6 cd6 ct6), (PySem.W.fnOf (Str.ofString "kids") (Str.ofString "Tree.kids") (defArgs (inClass (topS 6) 4)) (defBody (inClass (topS 6) 4)) (defScope (inClass (topS 6) 4)) .none kV7 dc7 pm7 an7 cd7 ct7), (PySem.W.fnOf (Str.ofString "parent") (Str.ofString "Tree.parent") (defArgs (inClass (topS 6) 5)) (defBody (inClass (topS 6) 5)) (defScope (inClass (topS 6) 5)) .none kV8 dc8 pm8 an8 cd8 ct8), (PySem.W.fnOf (Str.ofString "level") (Str.ofString "Tree.level") (defArgs (inClass (topS 6) 6)) (defBody (inClass (topS 6) 6)) (defScope (inClass (topS 6) 6)) .none kV9 dc9 pm9 an9 cd9 ct9), (PySem.W.fnOf (Str.ofString "is_leaf") (Str.ofString "Tree.is_leaf") (defArgs (inClass (topS 6) 7)) (defBody (inClass (topS 6) 7)) (defScope (inClass (topS 6) 7)) .none kV10 dc10 pm10 an10 cd10 ct10), (PySem.W.fnOf (Str.ofString "within") (Str.ofString "Tree.within") (defArgs (inClass (topS 6) 8)) (defBody (inClass (topS 6) 8)) (defScope (inClass (topS 6) 8)) .none kV11 dc11 pm11 an11 cd11 ct11), (PySem.W.fnOf (Str.ofString "size") (Str.ofString "Tree.size") (defArgs (inClass (topS 6) 9)) (defBody (inClass (topS 6) 9)) (defScope (inClass (topS 6) 9)) .none kV12 dc12 pm12 an12 cd12 ct12), (PySem.W.fnOf (Str.ofString "upward") (Str.ofString "Tree.upward") (defArgs (inClass (topS 6) 10)) (defBody (inClass (topS 6) 10)) (defScope (inClass (topS 6) 10)) .none kV13 dc13 pm13 an13 cd13 ct13), (PySem.W.fnOf (Str.ofString "stick_of") (Str.ofString "stick_of") (defArgs (topS 8)) (defBody (topS 8)) (defScope (topS 8)) .none kV14 dc14 pm14 an14 cd14 ct14), (PySem.W.fnOf (Str.ofString "stick_number") (Str.ofString "stick_number") (defArgs (topS 9)) (defBody (topS 9)) (defScope (topS 9)) .none kV15 dc15 pm15 an15 cd15 ct15), (PySem.W.fnOf (Str.ofString "is_twig") (Str.ofString "is_twig") (defArgs (topS 10)) (defBody (topS 10)) (defScope (topS 10)) .none kV16 dc16 pm16 an16 cd16 ct16), (PySem.W.fnOf (Str.ofString "whole_twigs") (Str.ofString "whole_twigs") (defArgs (topS 11)) (defBody (topS 11)) (defScope (topS 11)) .none kV17 dc17 pm17 an17 cd17 ct17), (PySem.W.fnOf (Str.ofString "forks_of") (Str.ofString "forks_of") (defArgs (topS 12)) (defBody (topS 12)) (defScope (topS 12)) .none kV18 dc18 pm18 an18 cd18 ct18), (PySem.W.fnOf (Str.ofString "need_of") (Str.ofString "need_of") (defArgs (topS 13)) (defBody (topS 13)) (defScope (topS 13)) .none kV19 dc19 pm19 an19 cd19 ct19), (PySem.W.fnOf (Str.ofString "_law_branch") (Str.ofString "_law_branch") (defArgs (topS 15)) (defBody (topS 15)) (defScope (topS 15)) .none kV20 dc20 pm20 an20 cd20 ct20), (PySem.W.fnOf (Str.ofString "_law_snap") (Str.ofString "_law_snap") (defArgs (topS 16)) (defBody (topS 16)) (defScope (topS 16)) .none kV21 dc21 pm21 an21 cd21 ct21), (PySem.W.fnOf (Str.ofString "_law_is") (Str.ofString "_law_is") (defArgs (topS 17)) (defBody (topS 17)) (defScope (topS 17)) .none kV22 dc22 pm22 an22 cd22 ct22), (PySem.W.fnOf (Str.ofString "_law_twig") (Str.ofString "_law_twig") (defArgs (topS 18)) (defBody (topS 18)) (defScope (topS 18)) .none kV23 dc23 pm23 an23 cd23 ct23), (PySem.W.fnOf (Str.ofString "_law_tree") (Str.ofString "_law_tree") (defArgs (topS 19)) (defBody (topS 19)) (defScope (topS 19)) .none kV24 dc24 pm24 an24 cd24 ct24), (PySem.W.fnOf (Str.ofString "_law_numbered") (Str.ofString "_law_numbered") (defArgs (topS 20)) (defBody (topS 20)) (defScope (topS 20)) .none kV25 dc25 pm25 an25 cd25 ct25), (PySem.W.fnOf (Str.ofString "_law_twigs") (Str.ofString "_law_twigs") (defArgs (topS 21)) (defBody (topS 21)) (defScope (topS 21)) .none kV26 dc26 pm26 an26 cd26 ct26), (PySem.W.fnOf (Str.ofString "_law_facts") (Str.ofString "_law_facts") (defArgs (topS 22)) (defBody (topS 22)) (defScope (topS 22)) .none kV27 dc27 pm27 an27 cd27 ct27), (PySem.W.fnOf (Str.ofString "_law_sum") (Str.ofString "_law_sum") (defArgs (topS 23)) (defBody (topS 23)) (defScope (topS 23)) .none kV28 dc28 pm28 an28 cd28 ct28), (PySem.W.fnOf (Str.ofString "_law_asked") (Str.ofString "_law_asked") (defArgs (topS 24)) (defBody (topS 24)) (defScope (topS 24)) .none kV29 dc29 pm29 an29 cd29 ct29), (PySem.W.fnOf (Str.ofString "_law_hand") (Str.ofString "_law_hand") (defArgs (topS 25)) (defBody (topS 25)) (defScope (topS 25)) .none kV30 dc30 pm30 an30 cd30 ct30), (PySem.W.fnOf (Str.ofString "law") (Str.ofString "law") (defArgs (topS 26)) (defBody (topS 26)) (defScope (topS 26)) .none kV31 dc31 pm31 an31 cd31 ct31)].getD i (PySem.W.fnOf (Str.ofString "_wall") (Str.ofString "_wall") (defArgs (topS 0)) (defBody (topS 0)) (defScope (topS 0)) .none kV0 dc0 pm0 an0 cd0 ct0)), tabs := [(tc14, tp14), (tc18, tp18)] }
  have F0 := fun_mk (st := (topS 0)) l0 c0 k0
  have b0 := F0.binds (ps := [(Str.ofString "k")]) fun _ _ _ _ _ _ us hl => match us, hl with | [_], _ => rfl
  have F1 := fun_mk (st := (topS 3)) l1 c1 k1
  have b1 := F1.binds (ps := [(Str.ofString "expression")]) fun _ _ _ _ _ _ us hl => match us, hl with | [_], _ => rfl
  have F2 := fun_mk (st := (topS 4)) l2 c2 k2
  have b2 := F2.binds (ps := [(Str.ofString "expression")]) fun _ _ _ _ _ _ us hl => match us, hl with | [_], _ => rfl
  have F3 := fun_mk (st := (inClass (topS 6) 0)) l3 c3 k3
  have b3 := F3.binds (ps := [(Str.ofString "self"), (Str.ofString "expression")]) fun _ _ _ _ _ _ us hl => match us, hl with | [_, _], _ => rfl
  have F4 := fun_mk (st := (inClass (topS 6) 1)) l4 c4 k4
  have b4 := F4.binds (ps := [(Str.ofString "self"), (Str.ofString "expression"), (Str.ofString "parent"), (Str.ofString "level")]) fun _ _ _ _ _ _ us hl => match us, hl with | [_, _, _, _], _ => rfl
  have F5 := fun_mk (st := (inClass (topS 6) 2)) l5 c5 k5
  have b5 := F5.binds (ps := [(Str.ofString "self")]) fun _ _ _ _ _ _ us hl => match us, hl with | [_], _ => rfl
  have F6 := fun_mk (st := (inClass (topS 6) 3)) l6 c6 k6
  have b6 := F6.binds (ps := [(Str.ofString "self"), (Str.ofString "part")]) fun _ _ _ _ _ _ us hl => match us, hl with | [_, _], _ => rfl
  have F7 := fun_mk (st := (inClass (topS 6) 4)) l7 c7 k7
  have b7 := F7.binds (ps := [(Str.ofString "self"), (Str.ofString "part")]) fun _ _ _ _ _ _ us hl => match us, hl with | [_, _], _ => rfl
  have F8 := fun_mk (st := (inClass (topS 6) 5)) l8 c8 k8
  have b8 := F8.binds (ps := [(Str.ofString "self"), (Str.ofString "part")]) fun _ _ _ _ _ _ us hl => match us, hl with | [_, _], _ => rfl
  have F9 := fun_mk (st := (inClass (topS 6) 6)) l9 c9 k9
  have b9 := F9.binds (ps := [(Str.ofString "self"), (Str.ofString "part")]) fun _ _ _ _ _ _ us hl => match us, hl with | [_, _], _ => rfl
  have F10 := fun_mk (st := (inClass (topS 6) 7)) l10 c10 k10
  have b10 := F10.binds (ps := [(Str.ofString "self"), (Str.ofString "part")]) fun _ _ _ _ _ _ us hl => match us, hl with | [_, _], _ => rfl
  have F11 := fun_mk (st := (inClass (topS 6) 8)) l11 c11 k11
  have b11 := F11.binds (ps := [(Str.ofString "self"), (Str.ofString "part")]) fun _ _ _ _ _ _ us hl => match us, hl with | [_, _], _ => rfl
  have F12 := fun_mk (st := (inClass (topS 6) 9)) l12 c12 k12
  have b12 := F12.binds (ps := [(Str.ofString "self"), (Str.ofString "part")]) fun _ _ _ _ _ _ us hl => match us, hl with | [_, _], _ => rfl
  have F13 := fun_mk (st := (inClass (topS 6) 10)) l13 c13 k13
  have b13 := F13.binds (ps := [(Str.ofString "self")]) fun _ _ _ _ _ _ us hl => match us, hl with | [_], _ => rfl
  have F14 := fun_mk (st := (topS 8)) l14 c14 k14
  have b14 := F14.binds (ps := [(Str.ofString "sticks")]) fun _ _ _ _ _ _ us hl => match us, hl with | [_], _ => rfl
  have F15 := fun_mk (st := (topS 9)) l15 c15 k15
  have b15 := F15.binds (ps := [(Str.ofString "expression")]) fun _ _ _ _ _ _ us hl => match us, hl with | [_], _ => rfl
  have F16 := fun_mk (st := (topS 10)) l16 c16 k16
  have b16 := F16.binds (ps := [(Str.ofString "expression")]) fun _ _ _ _ _ _ us hl => match us, hl with | [_], _ => rfl
  have F17 := fun_mk (st := (topS 11)) l17 c17 k17
  have b17 := F17.binds (ps := [(Str.ofString "expression")]) fun _ _ _ _ _ _ us hl => match us, hl with | [_], _ => rfl
  have F18 := fun_mk (st := (topS 12)) l18 c18 k18
  have b18 := F18.binds (ps := [(Str.ofString "expression")]) fun _ _ _ _ _ _ us hl => match us, hl with | [_], _ => rfl
  have F19 := fun_mk (st := (topS 13)) l19 c19 k19
  have b19 := F19.binds (ps := [(Str.ofString "expression")]) fun _ _ _ _ _ _ us hl => match us, hl with | [_], _ => rfl
  have F20 := fun_mk (st := (topS 15)) l20 c20 k20
  have b20 := F20.binds (ps := [(Str.ofString "script")]) fun _ _ _ _ _ _ us hl => match us, hl with | [_], _ => rfl
  have F21 := fun_mk (st := (topS 16)) l21 c21 k21
  have b21 := F21.binds (ps := [(Str.ofString "branch"), (Str.ofString "many")]) fun _ _ _ _ _ _ us hl => match us, hl with | [_, _], _ => rfl
  have F22 := fun_mk (st := (topS 17)) l22 c22 k22
  have b22 := F22.binds (ps := [(Str.ofString "told"), (Str.ofString "due")]) fun _ _ _ _ _ _ us hl => match us, hl with | [_, _], _ => rfl
  have F23 := fun_mk (st := (topS 18)) l23 c23 k23
  have b23 := F23.binds (ps := [(Str.ofString "branch"), (Str.ofString "truth"), (Str.ofString "many")]) fun _ _ _ _ _ _ us hl => match us, hl with | [_, _, _], _ => rfl
  have F24 := fun_mk (st := (topS 19)) l24 c24 k24
  have b24 := F24.binds (ps := [(Str.ofString "branch"), (Str.ofString "truth"), (Str.ofString "room"), (Str.ofString "deep")]) fun _ _ _ _ _ _ us hl => match us, hl with | [_, _, _, _], _ => rfl
  have F25 := fun_mk (st := (topS 20)) l25 c25 k25
  have b25 := F25.binds (ps := [(Str.ofString "expression")]) fun _ _ _ _ _ _ us hl => match us, hl with | [_], _ => rfl
  have F26 := fun_mk (st := (topS 21)) l26 c26 k26
  have b26 := F26.binds (ps := [(Str.ofString "parts")]) fun _ _ _ _ _ _ us hl => match us, hl with | [_], _ => rfl
  have F27 := fun_mk (st := (topS 22)) l27 c27 k27
  have b27 := F27.binds (ps := [(Str.ofString "expression")]) fun _ _ _ _ _ _ us hl => match us, hl with | [_], _ => rfl
  have F28 := fun_mk (st := (topS 23)) l28 c28 k28
  have b28 := F28.binds (ps := [(Str.ofString "expression")]) fun _ _ _ _ _ _ us hl => match us, hl with | [_], _ => rfl
  have F29 := fun_mk (st := (topS 24)) l29 c29 k29
  have b29 := F29.binds (ps := [(Str.ofString "branch"), (Str.ofString "expression")]) fun _ _ _ _ _ _ us hl => match us, hl with | [_, _], _ => rfl
  have F30 := fun_mk (st := (topS 25)) l30 c30 k30
  have b30 := F30.binds (ps := [(Str.ofString "branch")]) fun _ _ _ _ _ _ us hl => match us, hl with | [_], _ => rfl
  have F31 := fun_mk (st := (topS 26)) l31 c31 k31
  have b31 := F31.binds (ps := [(Str.ofString "script")]) fun _ _ _ _ _ _ us hl => match us, hl with | [_], _ => rfl
  have hG : GOk I g := {
    fn := all_get (P := fun i (d : DI) => Fun g.K d.name d.qual d.st (g.fa i) (g.fd i) ∧ Binds g.K (g.fd i) d.ps [] ∧ (d.glob = true → g.mg d.name = some (.ref (g.fa i)))) (xs := I.defs) (And.intro (And.intro F0 (And.intro b0 (fun _ => PySem.W.mg_of X G a0))) (And.intro (And.intro F1 (And.intro b1 (fun _ => PySem.W.mg_of X G a1))) (And.intro (And.intro F2 (And.intro b2 (fun _ => PySem.W.mg_of X G a2))) (And.intro (And.intro F3 (And.intro b3 (fun z => absurd z (by decide)))) (And.intro (And.intro F4 (And.intro b4 (fun z => absurd z (by decide)))) (And.intro (And.intro F5 (And.intro b5 (fun z => absurd z (by decide)))) (And.intro (And.intro F6 (And.intro b6 (fun z => absurd z (by decide)))) (And.intro (And.intro F7 (And.intro b7 (fun z => absurd z (by decide)))) (And.intro (And.intro F8 (And.intro b8 (fun z => absurd z (by decide)))) (And.intro (And.intro F9 (And.intro b9 (fun z => absurd z (by decide)))) (And.intro (And.intro F10 (And.intro b10 (fun z => absurd z (by decide)))) (And.intro (And.intro F11 (And.intro b11 (fun z => absurd z (by decide)))) (And.intro (And.intro F12 (And.intro b12 (fun z => absurd z (by decide)))) (And.intro (And.intro F13 (And.intro b13 (fun z => absurd z (by decide)))) (And.intro (And.intro F14 (And.intro b14 (fun _ => PySem.W.mg_of X G a14))) (And.intro (And.intro F15 (And.intro b15 (fun _ => PySem.W.mg_of X G a15))) (And.intro (And.intro F16 (And.intro b16 (fun _ => PySem.W.mg_of X G a16))) (And.intro (And.intro F17 (And.intro b17 (fun _ => PySem.W.mg_of X G a17))) (And.intro (And.intro F18 (And.intro b18 (fun _ => PySem.W.mg_of X G a18))) (And.intro (And.intro F19 (And.intro b19 (fun _ => PySem.W.mg_of X G a19))) (And.intro (And.intro F20 (And.intro b20 (fun _ => PySem.W.mg_of X G a20))) (And.intro (And.intro F21 (And.intro b21 (fun _ => PySem.W.mg_of X G a21))) (And.intro (And.intro F22 (And.intro b22 (fun _ => PySem.W.mg_of X G a22))) (And.intro (And.intro F23 (And.intro b23 (fun _ => PySem.W.mg_of X G a23))) (And.intro (And.intro F24 (And.intro b24 (fun _ => PySem.W.mg_of X G a24))) (And.intro (And.intro F25 (And.intro b25 (fun _ => PySem.W.mg_of X G a25))) (And.intro (And.intro F26 (And.intro b26 (fun _ => PySem.W.mg_of X G a26))) (And.intro (And.intro F27 (And.intro b27 (fun _ => PySem.W.mg_of X G a27))) (And.intro (And.intro F28 (And.intro b28 (fun _ => PySem.W.mg_of X G a28))) (And.intro (And.intro F29 (And.intro b29 (fun _ => PySem.W.mg_of X G a29))) (And.intro (And.intro F30 (And.intro b30 (fun _ => PySem.W.mg_of X G a30))) (And.intro (And.intro F31 (And.intro b31 (fun _ => PySem.W.mg_of X G a31))) True.intro))))))))))))))))))))))))))))))))
    con := fun i x d e => (all_get (P := fun i (c : Str × D) => ∃ u v, g.mg c.1 = some u ∧ RelV v u ∧ ∀ H ρ, Rep g H ρ c.2 v) (xs := I.cons) (And.intro (con_mk (PySem.W.mg_of X G u0) v0) True.intro)) i (x, d) e
    bin := all_get (P := fun _ (x : Str) => g.mg x = none) (xs := I.bins) (And.intro (PySem.W.mg_none_of X G z0) (And.intro (PySem.W.mg_none_of X G z1) (And.intro (PySem.W.mg_none_of X G z2) (And.intro (PySem.W.mg_none_of X G z3) (And.intro (PySem.W.mg_none_of X G z4) (And.intro (PySem.W.mg_none_of X G z5) (And.intro (PySem.W.mg_none_of X G z6) (And.intro (PySem.W.mg_none_of X G z7) (And.intro (PySem.W.mg_none_of X G z8) (And.intro (PySem.W.mg_none_of X G z9) (And.intro (PySem.W.mg_none_of X G z10) True.intro)))))))))))
    nc := rfl
    cls := all_get (P := fun i (c : CI) => Cls g.K (g.ca i) ∧ Mk g.K (g.ca i) (g.fa c.init) ∧ g.mg c.name = some (.ref (g.ca i)) ∧ ∀ p ∈ c.meths, Meth g.K (g.ca i) p.1 (g.fa p.2)) (xs := I.clss) (And.intro (And.intro ⟨cp0, ch0, co0, cs0⟩ (And.intro ⟨cm0, a3, n3, ck0⟩ (And.intro (PySem.W.mg_of X G ac0) (all_mem (P := fun (p : Str × Nat) => Meth g.K (g.ca 0) p.1 (g.fa p.2)) (And.intro (⟨a3, n3, k3⟩ : Meth K C0 (Str.ofString "__init__") f3) (And.intro (⟨a4, n4, k4⟩ : Meth K C0 (Str.ofString "_add") f4) (And.intro (⟨a5, n5, k5⟩ : Meth K C0 (Str.ofString "many") f5) (And.intro (⟨a6, n6, k6⟩ : Meth K C0 (Str.ofString "part") f6) (And.intro (⟨a7, n7, k7⟩ : Meth K C0 (Str.ofString "kids") f7) (And.intro (⟨a8, n8, k8⟩ : Meth K C0 (Str.ofString "parent") f8) (And.intro (⟨a9, n9, k9⟩ : Meth K C0 (Str.ofString "level") f9) (And.intro (⟨a10, n10, k10⟩ : Meth K C0 (Str.ofString "is_leaf") f10) (And.intro (⟨a11, n11, k11⟩ : Meth K C0 (Str.ofString "within") f11) (And.intro (⟨a12, n12, k12⟩ : Meth K C0 (Str.ofString "size") f12) (And.intro (⟨a13, n13, k13⟩ : Meth K C0 (Str.ofString "upward") f13) True.intro))))))))))))))) True.intro)
    fld := fun i c f e m => (all_get (P := fun i (c : CI) => ∀ f ∈ I.flds, NoAttr g.K (g.ca i) f) (xs := I.clss) (And.intro (all_mem (P := fun (f : Str) => NoAttr g.K (g.ca 0) f) (xs := I.flds) (And.intro cf0_0 (And.intro cf0_1 (And.intro cf0_2 (And.intro cf0_3 True.intro))))) True.intro)) i c e f m
    kw := fun j k d h1 h2 => (all_get (P := fun _ (k : KI) => ∀ d, I.defs[k.f]? = some d → ∀ us ws : List Value, us.length = k.np → ws.length = k.ks.length → bindArgs (g.fd k.f) ⟨us, k.ks.zip ws⟩ = pure (d.ps.zip (permL k.perm (us ++ ws)))) (xs := I.kws) (And.intro (fun d e us ws h1 h2 => by cases e; exact (match us, h1, ws, h2 with | [], _, [_], _ => rfl)) (And.intro (fun d e us ws h1 h2 => by cases e; exact (match us, h1, ws, h2 with | [], _, [_], _ => rfl)) (And.intro (fun d e us ws h1 h2 => by cases e; exact (match us, h1, ws, h2 with | [], _, [_], _ => rfl)) (And.intro (fun d e us ws h1 h2 => by cases e; exact (match us, h1, ws, h2 with | [], _, [_], _ => rfl)) (And.intro (fun d e us ws h1 h2 => by cases e; exact (match us, h1, ws, h2 with | [], _, [_], _ => rfl)) True.intro)))))) j k h1 d h2
    exc := all_get (P := fun i (e : EI) => XcG g i e) (xs := I.excs) True.intro
    gen := all_get (P := fun i (d : DI) => genN ∈ d.N → ∃ p ∈ g.tabs, (g.fd i).code = .ref p.1) (xs := I.defs) (And.intro (fun z => absurd z (by decide +kernel)) (And.intro (fun z => absurd z (by decide +kernel)) (And.intro (fun z => absurd z (by decide +kernel)) (And.intro (fun z => absurd z (by decide +kernel)) (And.intro (fun z => absurd z (by decide +kernel)) (And.intro (fun z => absurd z (by decide +kernel)) (And.intro (fun z => absurd z (by decide +kernel)) (And.intro (fun z => absurd z (by decide +kernel)) (And.intro (fun z => absurd z (by decide +kernel)) (And.intro (fun z => absurd z (by decide +kernel)) (And.intro (fun z => absurd z (by decide +kernel)) (And.intro (fun z => absurd z (by decide +kernel)) (And.intro (fun z => absurd z (by decide +kernel)) (And.intro (fun z => absurd z (by decide +kernel)) (And.intro (fun _ => ⟨(tc14, tp14), List.mem_cons_self, te14⟩) (And.intro (fun z => absurd z (by decide +kernel)) (And.intro (fun z => absurd z (by decide +kernel)) (And.intro (fun z => absurd z (by decide +kernel)) (And.intro (fun _ => ⟨(tc18, tp18), List.mem_cons_of_mem _ (List.mem_cons_self), te18⟩) (And.intro (fun z => absurd z (by decide +kernel)) (And.intro (fun z => absurd z (by decide +kernel)) (And.intro (fun z => absurd z (by decide +kernel)) (And.intro (fun z => absurd z (by decide +kernel)) (And.intro (fun z => absurd z (by decide +kernel)) (And.intro (fun z => absurd z (by decide +kernel)) (And.intro (fun z => absurd z (by decide +kernel)) (And.intro (fun z => absurd z (by decide +kernel)) (And.intro (fun z => absurd z (by decide +kernel)) (And.intro (fun z => absurd z (by decide +kernel)) (And.intro (fun z => absurd z (by decide +kernel)) (And.intro (fun z => absurd z (by decide +kernel)) (And.intro (fun z => absurd z (by decide +kernel)) True.intro))))))))))))))))))))))))))))))))
    exm := all_two (P := fun i j (e e' : EI) => PySem.W.exmOne g.K (.ref (g.xa i)) (.ref (g.xa j)) = some (e.mro.contains j) ∧ PySem.W.kitOne g.K (.ref (g.xa i)) (.ref (g.xa j)) = some (e.mro.contains j)) (xs := I.excs) True.intro }
  refine ⟨[((Str.ofString "stick_of"), tc14, tp14), ((Str.ofString "forks_of"), tc18, tp18)], ?_, (PySem.W.fnOf (Str.ofString "law") (Str.ofString "law") (defArgs (topS 26)) (defBody (topS 26)) (defScope (topS 26)) .none kV31 dc31 pm31 an31 cd31 ct31), fun s v => .of_eq rfl, fun base _ _ htb => ?_⟩
  · exact List.forall_mem_cons.mpr ⟨⟨tabIn_of a14 l14 te14 tl14 tm14, to14, tq14⟩, List.forall_mem_cons.mpr ⟨⟨tabIn_of a18 l18 te18 tl18 tm18, to18, tq18⟩, (fun _ z => absurd z (by simp))⟩⟩
  have hx : ∀ (i : Nat) (e : EI), I.excs[i]? = some e → e.ps ≠ [] → FnOk PySem.Challenge.rw_anypartnext_k06_twigs_and_forks.prog w g.K g.mg base (L2.CX PySem.Challenge.rw_anypartnext_k06_twigs_and_forks.prog w) 1 (g.xi i) (g.xd i) e.ps (spX (g.xa i) e.fields.length e.fields) :=
    all_get (P := fun i (e : EI) => e.ps ≠ [] → FnOk PySem.Challenge.rw_anypartnext_k06_twigs_and_forks.prog w g.K g.mg base (L2.CX PySem.Challenge.rw_anypartnext_k06_twigs_and_forks.prog w) 1 (g.xi i) (g.xd i) e.ps (spX (g.xa i) e.fields.length e.fields)) (xs := I.excs) True.intro
  have hkd : ∀ (i : Nat) x kvs, I.kds[i]? = some (x, kvs) → KdW w g x kvs := fun i x kvs e => (all_get (P := fun _ (c : Str × List (Str × D)) => KdW w g c.1 c.2) (xs := I.kds) True.intro) i (x, kvs) e
  exact (fn_ok text hG htb hkd hx depth 31 _ rfl).imp (law_spT (G := g) hl)
end K06
open PySem PySem.W PyProof.Rows
set_option maxRecDepth 100000 in
set_option maxHeartbeats 0 in
theorem PySem.Challenge.cw_anypartnext_k06_twigs_and_forks_holds : PySem.Challenge.rw_anypartnext_k06_twigs_and_forks.Holds := by
  w_on; o_law; k_head; (case hw => w_witness2)
  k_fill
  refine MM.walkT (l := PySem.Challenge.rw_anypartnext_k06_twigs_and_forks) (k := (2 + K06.I.slack) * K06.depth + 1) rfl rfl ⟨rfl, by decide +kernel, by decide +kernel⟩ (fun w h Y => PySem.W.kIn_of Y) ?F
  case F =>
    intro w mg fa h KX G hmg
    refine' K06.all_mk K06.keeps KX G hmg ?ac0 ?a0 ?l0 ?c0 ?k0 ?a1 ?l1 ?c1 ?k1 ?a2 ?l2 ?c2 ?k2 ?a3 ?l3 ?c3 ?k3 ?n3 ?a4 ?l4 ?c4 ?k4 ?n4 ?a5 ?l5 ?c5 ?k5 ?n5 ?a6 ?l6 ?c6 ?k6 ?n6 ?a7 ?l7 ?c7 ?k7 ?n7 ?a8 ?l8 ?c8 ?k8 ?n8 ?a9 ?l9 ?c9 ?k9 ?n9 ?a10 ?l10 ?c10 ?k10 ?n10 ?a11 ?l11 ?c11 ?k11 ?n11 ?a12 ?l12 ?c12 ?k12 ?n12 ?a13 ?l13 ?c13 ?k13 ?n13 ?a14 ?l14 ?c14 ?k14 ?te14 ?tl14 ?tm14 ?to14 ?tq14 ?a15 ?l15 ?c15 ?k15 ?a16 ?l16 ?c16 ?k16 ?a17 ?l17 ?c17 ?k17 ?a18 ?l18 ?c18 ?k18 ?te18 ?tl18 ?tm18 ?to18 ?tq18 ?a19 ?l19 ?c19 ?k19 ?a20 ?l20 ?c20 ?k20 ?a21 ?l21 ?c21 ?k21 ?a22 ?l22 ?c22 ?k22 ?a23 ?l23 ?c23 ?k23 ?a24 ?l24 ?c24 ?k24 ?a25 ?l25 ?c25 ?k25 ?a26 ?l26 ?c26 ?k26 ?a27 ?l27 ?c27 ?k27 ?a28 ?l28 ?c28 ?k28 ?a29 ?l29 ?c29 ?k29 ?a30 ?l30 ?c30 ?k30 ?a31 ?l31 ?c31 ?k31 ?cp0 ?ch0 ?co0 ?cs0 ?cm0 ?ck0 ?cf0_0 ?cf0_1 ?cf0_2 ?cf0_3 ?u0 ?v0 ?z0 ?z1 ?z2 ?z3 ?z4 ?z5 ?z6 ?z7 ?z8 ?z9 ?z10
    (case ac0 => k_is)
    (case a0 => k_is)
    (case l0 => k_is)
    (case c0 => k_is)
    (case k0 => k_is)
    (case a1 => k_is)
    (case l1 => k_is)
    (case c1 => k_is)
    (case k1 => k_is)
    (case a2 => k_is)
    (case l2 => k_is)
    (case c2 => k_is)
    (case k2 => k_is)
    (case a3 => k_is)
    (case l3 => k_is)
    (case c3 => k_is)
    (case k3 => k_is)
    (case n3 => k_is)
    (case a4 => k_is)
    (case l4 => k_is)
    (case c4 => k_is)
    (case k4 => k_is)
    (case n4 => k_is)
    (case a5 => k_is)
    (case l5 => k_is)
    (case c5 => k_is)
    (case k5 => k_is)
    (case n5 => k_is)
    (case a6 => k_is)
    (case l6 => k_is)
    (case c6 => k_is)
    (case k6 => k_is)
    (case n6 => k_is)
    (case a7 => k_is)
    (case l7 => k_is)
    (case c7 => k_is)
    (case k7 => k_is)
    (case n7 => k_is)
    (case a8 => k_is)
    (case l8 => k_is)
    (case c8 => k_is)
    (case k8 => k_is)
    (case n8 => k_is)
    (case a9 => k_is)
    (case l9 => k_is)
    (case c9 => k_is)
    (case k9 => k_is)
    (case n9 => k_is)
    (case a10 => k_is)
    (case l10 => k_is)
    (case c10 => k_is)
    (case k10 => k_is)
    (case n10 => k_is)
    (case a11 => k_is)
    (case l11 => k_is)
    (case c11 => k_is)
    (case k11 => k_is)
    (case n11 => k_is)
    (case a12 => k_is)
    (case l12 => k_is)
    (case c12 => k_is)
    (case k12 => k_is)
    (case n12 => k_is)
    (case a13 => k_is)
    (case l13 => k_is)
    (case c13 => k_is)
    (case k13 => k_is)
    (case n13 => k_is)
    (case a14 => k_is)
    (case l14 => k_is)
    (case c14 => k_is)
    (case k14 => k_is)
    (case te14 => rfl)
    (case tl14 => k_is)
    (case tm14 => rfl)
    (case to14 => (first | k_is | ks_is | kernel_rfl | rfl | decide +kernel))
    (case tq14 => (first | kernel_rfl | decide +kernel))
    (case a15 => k_is)
    (case l15 => k_is)
    (case c15 => k_is)
    (case k15 => k_is)
    (case a16 => k_is)
    (case l16 => k_is)
    (case c16 => k_is)
    (case k16 => k_is)
    (case a17 => k_is)
    (case l17 => k_is)
    (case c17 => k_is)
    (case k17 => k_is)
    (case a18 => k_is)
    (case l18 => k_is)
    (case c18 => k_is)
    (case k18 => k_is)
    (case te18 => rfl)
    (case tl18 => k_is)
    (case tm18 => rfl)
    (case to18 => (first | k_is | ks_is | kernel_rfl | rfl | decide +kernel))
    (case tq18 => (first | kernel_rfl | decide +kernel))
    (case a19 => k_is)
    (case l19 => k_is)
    (case c19 => k_is)
    (case k19 => k_is)
    (case a20 => k_is)
    (case l20 => k_is)
    (case c20 => k_is)
    (case k20 => k_is)
    (case a21 => k_is)
    (case l21 => k_is)
    (case c21 => k_is)
    (case k21 => k_is)
    (case a22 => k_is)
    (case l22 => k_is)
    (case c22 => k_is)
    (case k22 => k_is)
    (case a23 => k_is)
    (case l23 => k_is)
    (case c23 => k_is)
    (case k23 => k_is)
    (case a24 => k_is)
    (case l24 => k_is)
    (case c24 => k_is)
    (case k24 => k_is)
    (case a25 => k_is)
    (case l25 => k_is)
    (case c25 => k_is)
    (case k25 => k_is)
    (case a26 => k_is)
    (case l26 => k_is)
    (case c26 => k_is)
    (case k26 => k_is)
    (case a27 => k_is)
    (case l27 => k_is)
    (case c27 => k_is)
    (case k27 => k_is)
    (case a28 => k_is)
    (case l28 => k_is)
    (case c28 => k_is)
    (case k28 => k_is)
    (case a29 => k_is)
    (case l29 => k_is)
    (case c29 => k_is)
    (case k29 => k_is)
    (case a30 => k_is)
    (case l30 => k_is)
    (case c30 => k_is)
    (case k30 => k_is)
    (case a31 => k_is)
    (case l31 => k_is)
    (case c31 => k_is)
    (case k31 => k_is)
    (case cp0 => k_is)
    (case ch0 => k_is)
    (case co0 => k_is)
    (case cs0 => k_is)
    (case cm0 => k_is)
    (case ck0 => k_is)
    (case cf0_0 => k_is)
    (case cf0_1 => k_is)
    (case cf0_2 => k_is)
    (case cf0_3 => k_is)
    (case u0 => k_is)
    (case v0 => kernel_rfl)
    (case z0 => k_is)
    (case z1 => k_is)
    (case z2 => k_is)
    (case z3 => k_is)
    (case z4 => k_is)
    (case z5 => k_is)
    (case z6 => k_is)
    (case z7 => k_is)
    (case z8 => k_is)
    (case z9 => k_is)
    (case z10 => k_is)
