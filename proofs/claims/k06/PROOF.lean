import PyProof.Rows.All
import Wide.All
import OpenK.AllK
import Wide.FinOn
import HandS.ForMost
import HandS.Wide
import HandS.TupAny
import HandS.TupMul
import HandS.Walk
import HandS.Flow
import HandS.Style
import HandS.IsInst
import HandS.Exc
import HandS.TryMany
import HandS.Lambda
import HandS.WideBits
import HandS.CallSlots
import HandS.Defaults
import HandS.Zip
import PyProof.Draws
import PyProof.EnumMake
import HandS.Zip0
import KE.KRevSl
import HandS.HeadHook1
import HandS.HeadHook2
import HandS.Ends
import HandS.EndBits
import HandS.Head0
import HandS.Head1
import HandS.Head2
import HandS.HeadEnd
import KE.KStateDown
import HandS.WordsExc
import PySem.Challenge.RW_sightroads_k06_whole_fences_and_rooms_to
set_option Elab.async false
set_option linter.all false
/-! Pin: a small machine for a part of Python, over the layer HandS. Own work. -/
namespace Pin
open PySem L2

/-- values: tuples are whole, lists and dicts stand in the store -/
inductive D where
  | non | bl (b : Bool) | int (i : Int) | str (x : Str) | tup (xs : List D) | ref (n : Nat) | fn (f : Nat) | clo (c : Nat) (cs : List Nat) | fz (xs : List D)
inductive Ob where
  | lst (xs : List D) | dct (kvs : List (D × D)) | cell (v : Option D)
abbrev Store := List Ob
structure Exc where
  cls : Nat
  val : Option D
inductive Res (α : Type) where
  | ok (a : α) (S : Store) | exc (x : Exc) (S : Store) | stk
def M (α : Type) : Type := Store → Res α
def M.pure {α : Type} (a : α) : M α := fun S => .ok a S
def M.bind {α β : Type} (m : M α) (k : α → M β) : M β := fun S => match m S with
  | .ok a S' => k a S'
  | .exc x S' => .exc x S'
  | .stk => .stk
instance : Monad M where
  pure := M.pure
  bind := M.bind
def stk {α : Type} : M α := fun _ => .stk
def raise {α : Type} (x : Exc) : M α := fun S => .exc x S
section
variable {α β γ : Type}
theorem pure_run (a : α) (S : Store) : (pure a : M α) S = .ok a S := rfl
theorem bind_run (m : M α) (k : α → M β) (S : Store) : (m >>= k) S = match m S with
  | .ok a S' => k a S'
  | .exc x S' => .exc x S'
  | .stk => .stk := rfl
@[simp] theorem pure_bindM (a : α) (k : α → M β) : ((pure a : M α) >>= k) = k a := rfl
@[simp] theorem bind_pureM (m : M α) : (m >>= fun a => (pure a : M α)) = m := by
  funext S
  rw [bind_run]
  cases m S <;> rfl
@[simp] theorem bind_assocM (m : M α) (k : α → M β) (l : β → M γ) : ((m >>= k) >>= l) = m >>= fun a => k a >>= l := by
  funext S
  simp only [bind_run]
  cases m S <;> rfl
@[simp] theorem stk_bind (k : α → M β) : ((stk : M α) >>= k) = stk := rfl
@[simp] theorem raise_bind (x : Exc) (k : α → M β) : ((raise x : M α) >>= k) = raise x := rfl
end

/-! ### what is done with values -/
abbrev Env := List (Option D)
def varM (ρ : Env) (i : Nat) : M D := match ρ[i]? with
  | some (some d) => pure d
  | _ => stk
def getL (n : Nat) : M (List D) := fun S => match S[n]? with
  | some (.lst xs) => .ok xs S
  | _ => .stk
def newO (o : Ob) : M D := fun S => .ok (.ref S.length) (S ++ [o])
def setO (n : Nat) (o : Ob) : M Unit := fun S => .ok () (S.set n o)
def fits {α : Type} (n : Nat) (m : M α) : M α := if n ≤ sizeLine then m else stk
def tupM (xs : List D) : M D := fits xs.length (pure (.tup xs))
def lstM (xs : List D) : M D := fits xs.length (newO (.lst xs))
def truth : D → M Bool
  | .non => pure false
  | .bl b => pure b
  | .int i => pure (i != 0)
  | .str x => fits x.length (pure (x.length != 0))
  | .tup xs => pure (!xs.isEmpty)
  | .ref n => fun S => match S[n]? with
    | some (.lst xs) => .ok (!xs.isEmpty) S
    | some (.dct kvs) => .ok (!kvs.isEmpty) S
    | _ => .stk
  | _ => stk

def mapO {α β : Type} (f : α → Option β) : List α → Option (List β)
  | [] => some []
  | x :: xs => match f x, mapO f xs with
    | some y, some ys => some (y :: ys)
    | _, _ => none
/-- a value as plain data (lists read off the store), at most so deep -/
def toPy (S : Store) : Nat → D → Option PyData
  | _, .non => some .none
  | _, .bl b => some (.bool b)
  | _, .int i => some (.int i)
  | _, .str x => if PyData.strOk x then some (.str x) else none
  | n + 1, .tup xs => (mapO (toPy S n) xs).map .tuple
  | n + 1, .ref r => match S[r]? with
    | some (.lst xs) => (mapO (toPy S n) xs).map .list
    | _ => none
  | _, _ => none
def eqB (S : Store) (a b : D) : Option Bool := match toPy S 60 a, toPy S 60 b with
  | some x, some y => some (PyData.eqv x y)
  | _, _ => none
/-- two lists of unlike lengths -/
def lenDiff (S : Store) : D → D → Bool
  | .ref r, .ref q => match S[r]?, S[q]? with
    | some (.lst xs), some (.lst ys) => xs.length != ys.length
    | _, _ => false
  | _, _ => false
def eqM (a b : D) : M Bool := fun S => if lenDiff S a b = true then .ok false S else match eqB S a b with
  | some k => .ok k S
  | none => .stk
/-! operators -/
inductive BOp where | add | sub | mul | fdiv | mod | pow
def mulOk (i j : Int) : Bool := decide (i.natAbs.log2 + j.natAbs.log2 < 134000000)
def divOk (j : Int) : Bool := decide (j ≠ 0) && decide (j.natAbs.log2 < 9000)
def powOk (i j : Int) : Bool := decide (0 ≤ j) && decide ((Builtin.Int.intBits i : Int) * j ≤ 2 ^ 27)
def cond {α : Type} (b : Bool) (m : M α) : M α := if b = true then m else stk
def repD (xs : List D) (k : Int) : List D := (List.replicate k.toNat xs).flatten
def binM : BOp → D → D → M D
  | .add, .int i, .int j => pure (.int (i + j))
  | .add, .str x, .str y => fits (x.length + y.length) (pure (.str (x ++ y)))
  | .add, .tup xs, .tup ys => tupM (xs ++ ys)
  | .add, .ref r, .ref q => do let xs ← getL r; let ys ← getL q; lstM (xs ++ ys)
  | .sub, .int i, .int j => pure (.int (i - j))
  | .mul, .int i, .int j => cond (mulOk i j) (pure (.int (i * j)))
  | .mul, .tup xs, .int k => cond (decide (k ≤ 1000) && decide (-(2 ^ 62) ≤ k) && decide (xs.length ≤ 1000)) (pure (.tup (repD xs k)))
  | .mul, .ref r, .int k => do let xs ← getL r; cond (decide (k < 2 ^ 62) && decide (-(2 ^ 62) ≤ k)) (fits (xs.length * k.toNat) (newO (.lst (repD xs k))))
  | .fdiv, .int i, .int j => cond (divOk j) (pure (.int (i.fdiv j)))
  | .mod, .int i, .int j => cond (decide (j ≠ 0)) (pure (.int (i.fmod j)))
  | .pow, .int i, .int j => cond (powOk i j) (pure (.int (i ^ j.toNat)))
  | _, _, _ => stk
def negM : D → M D
  | .int i => pure (.int (-i))
  | _ => stk
inductive COp where | eq | ne | lt | le | gt | ge | is | isnot | inn | notin
def strLt (x y : Str) : Bool := decide (x.cps.toList < y.cps.toList)
/-- what 'in' takes flat -/
def flatD : D → Bool
  | .non => true | .bl _ => true | .int _ => true | .str _ => true | _ => false
def inStr (x y : Str) : Bool := !(Builtin.Str.occurrences y x 0 y.length 1).isEmpty
def toV : D → V
  | .non => .non | .bl b => .bl b | .int i => .int i | .str x => .str x | _ => .non
def inFlat (x : D) (xs : List D) : Bool := (xs.map toV).any fun y => eqV y (toV x)
def isM : D → D → M Bool
  | .non, .non => pure true
  | .bl a, .bl b => pure (decide (a = b))
  | .bl _, .non | .int _, .non | .str _, .non | .tup _, .non | .ref _, .non => pure false
  | _, _ => stk
def inM : D → D → M Bool
  | .str x, .str y => pure (inStr x y)
  | x, .tup ys => cond (flatD x && ys.all flatD) (pure (inFlat x ys))
  | x, .ref r => do let ys ← getL r; cond (flatD x && ys.all flatD) (pure (inFlat x ys))
  | _, _ => stk
def cmpB : COp → D → D → M Bool
  | .eq, a, b => eqM a b
  | .ne, a, b => do let k ← eqM a b; pure (!k)
  | .lt, .int i, .int j => pure (decide (i < j))
  | .le, .int i, .int j => pure (decide (i ≤ j))
  | .gt, .int i, .int j => pure (decide (j < i))
  | .ge, .int i, .int j => pure (decide (j ≤ i))
  | .lt, .str x, .str y => pure (strLt x y)
  | .is, a, b => isM a b
  | .isnot, a, b => do let k ← isM a b; pure (!k)
  | .inn, a, b => inM a b
  | .notin, a, b => do let k ← inM a b; pure (!k)
  | _, _, _ => stk
/-! subscripts -/
def ixM : D → D → M D
  | .tup xs, .int i => match atI xs i with
    | some d => pure d
    | none => stk
  | .ref r, .int i => do
    let xs ← getL r
    match atI xs i with
    | some d => pure d
    | none => stk
  | .str x, .int i => fits x.length (match atI x.cps.toList i with
    | some c => pure (.str ⟨#[c]⟩)
    | none => stk)
  | .fz xs, .int i => match atI xs i with
    | some d => pure d
    | none => stk
  | _, _ => stk
def cutD (xs : List D) (lo hi : Option Int) : List D := (xs.drop (HT.sIx xs.length 0 lo)).take (HT.sIx xs.length xs.length hi - HT.sIx xs.length 0 lo)
def slM : D → Option Int → Option Int → M D
  | .tup xs, lo, hi => pure (.tup (cutD xs lo hi))
  | .ref r, lo, hi => do let xs ← getL r; newO (.lst (cutD xs lo hi))
  | .fz xs, lo, hi => newO (.lst (cutD xs lo hi))
  | _, _, _ => stk
def revM : D → M D
  | .tup xs => pure (.tup xs.reverse)
  | .ref r => do let xs ← getL r; newO (.lst xs.reverse)
  | _ => stk
def intM : D → M Int
  | .int i => pure i
  | _ => stk
/-! types -/
inductive Ty where | int | bool | str | tuple | list | dict
  deriving DecidableEq
def tyD (S : Store) : D → Option Ty
  | .bl _ => some .bool | .int _ => some .int | .str _ => some .str | .tup _ => some .tuple
  | .ref r => match S[r]? with
    | some (.lst _) => some .list
    | some (.dct _) => some .dict
    | _ => none
  | _ => none
def isTy (t u : Ty) : Bool := decide (t = u) || (decide (t = .bool) && decide (u = .int))
def isiM (d : D) (u : Ty) : M Bool := match d with
  | .non => pure false
  | d => fun S => match tyD S d with
    | some t => .ok (isTy t u) S
    | none => .stk
/-! builtins by values -/
inductive Bi where | len | abs | int | max | min | tuple | list | all | any | sum
def allBl : List D → Option (List Bool)
  | [] => some []
  | .bl b :: ds => (allBl ds).map (b :: ·)
  | _ => none
def allInt : List D → Option (List Int)
  | [] => some []
  | .int b :: ds => (allInt ds).map (b :: ·)
  | _ => none
def m1 (f : D → M D) : List D → M D
  | [d] => f d
  | _ => stk
def m2 (f : D → D → M D) : List D → M D
  | [d, e] => f d e
  | _ => stk
def lenM : D → M D
  | .tup xs => pure (.int xs.length)
  | .str x => fits x.length (pure (.int x.length))
  | .ref r => do let xs ← getL r; pure (.int xs.length)
  | .fz xs => pure (.int xs.length)
  | _ => stk
def absM : D → M D
  | .int i => pure (.int (if i < 0 then -i else i))
  | _ => stk
def toIntM : D → M D
  | .int i => pure (.int i)
  | .bl b => pure (.int (if b then 1 else 0))
  | _ => stk
def maxM : D → D → M D
  | .int i, .int j => pure (.int (if j > i then j else i))
  | _, _ => stk
def minM : D → D → M D
  | .int i, .int j => pure (.int (if j < i then j else i))
  | _, _ => stk
def tupleM : D → M D
  | .tup xs => pure (.tup xs)
  | .ref r => do let xs ← getL r; tupM xs
  | _ => stk
def listM : D → M D
  | .tup xs => lstM xs
  | .ref r => do let xs ← getL r; lstM xs
  | _ => stk
def opt {α β : Type} (o : Option α) (k : α → M β) : M β := match o with
  | some a => k a
  | none => stk
def allM : D → M D
  | .ref r => do let xs ← getL r; opt (allBl xs) fun bs => pure (.bl (bs.all id))
  | _ => stk
def anyM : D → M D
  | .ref r => do let xs ← getL r; opt (allBl xs) fun bs => pure (.bl (bs.any id))
  | _ => stk
def sumM : D → M D
  | .ref r => do let xs ← getL r; opt (allInt xs) fun ns => pure (.int ns.sum)
  | _ => stk
def biM : Bi → List D → M D
  | .len => m1 lenM | .abs => m1 absM | .int => m1 toIntM | .max => m2 maxM | .min => m2 minM | .tuple => m1 tupleM | .list => m1 listM
  | .all => m1 allM | .any => m1 anyM | .sum => m1 sumM
/-! methods -/
inductive Me where | append | extend
def appendM : D → D → M D
  | .ref r, d => do
    let xs ← getL r
    fits (xs.length + 1) (do setO r (.lst (xs ++ [d])); pure .non)
  | _, _ => stk
def extendM : D → D → M D
  | .ref r, .ref q => do
    let xs ← getL r
    let ys ← getL q
    fits (xs.length + ys.length) (do setO r (.lst (xs ++ ys)); pure .non)
  | _, _ => stk
def meM : Me → D → List D → M D
  | .append, d => m1 (appendM d)
  | .extend, d => m1 (extendM d)
def setM : D → D → D → M Unit
  | .ref r, .int i, d => do
    let xs ← getL r
    match ixN xs.length i with
    | some j => setO r (.lst (xs.set j d))
    | none => stk
  | _, _, _ => stk

/-! ### expressions, tests, targets, what is walked -/
/-- the program's defs -/
abbrev Cl := Nat → List D → M D
abbrev EM := Cl → Env → M D
abbrev TM := Cl → Env → M Bool
abbrev LM := Cl → Env → M (List D)
abbrev OM := Cl → Env → M (Option Int)
abbrev GM := D → Env → M Env
abbrev GsM := List D → Env → M Env
/-- the items, and the lists that have to stay as they are -/
structure Items where
  gd : List (Nat × List D)
  xs : List D
abbrev IM := Cl → Env → M Items
def eVar (i : Nat) : EM := fun _ ρ => varM ρ i
def eCon (d : D) : EM := fun _ _ => pure d
def eBin (op : BOp) (a b : EM) : EM := fun c ρ => do let x ← a c ρ; let y ← b c ρ; binM op x y
def eNeg (a : EM) : EM := fun c ρ => do let x ← a c ρ; negM x
def eCmp (op : COp) (a b : EM) : EM := fun c ρ => do let x ← a c ρ; let y ← b c ρ; let k ← cmpB op x y; pure (.bl k)
def eChain (op op' : COp) (a b d : EM) : EM := fun c ρ => do
  let x ← a c ρ
  let y ← b c ρ
  let k ← cmpB op x y
  if k = true then do let z ← d c ρ; let l ← cmpB op' y z; pure (.bl l) else pure (.bl false)
def eNot (a : EM) : EM := fun c ρ => do let x ← a c ρ; let k ← truth x; pure (.bl (!k))
def eAnd (a b : EM) : EM := fun c ρ => do let x ← a c ρ; let k ← truth x; if k = true then b c ρ else pure x
def eOr (a b : EM) : EM := fun c ρ => do let x ← a c ρ; let k ← truth x; if k = true then pure x else b c ρ
def eIf (t : TM) (a b : EM) : EM := fun c ρ => do let k ← t c ρ; if k = true then a c ρ else b c ρ
def lNil : LM := fun _ _ => pure []
def lCons (a : EM) (r : LM) : LM := fun c ρ => do let x ← a c ρ; let xs ← r c ρ; pure (x :: xs)
def eTup (l : LM) : EM := fun c ρ => do let xs ← l c ρ; tupM xs
def eLst (l : LM) : EM := fun c ρ => do let xs ← l c ρ; lstM xs
def eDct0 : EM := fun _ _ => newO (.dct [])
def eIx (a b : EM) : EM := fun c ρ => do let x ← a c ρ; let y ← b c ρ; ixM x y
def oNone : OM := fun _ _ => pure none
def oSome (a : EM) : OM := fun c ρ => do let x ← a c ρ; let i ← intM x; pure (some i)
def eRev (a : EM) : EM := fun c ρ => do let x ← a c ρ; revM x
def eSl (a : EM) (lo hi : OM) : EM := fun c ρ => do let x ← a c ρ; let l ← lo c ρ; let h ← hi c ρ; slM x l h
def eCall (f : Nat) (l : LM) : EM := fun c ρ => do let xs ← l c ρ; c f xs
def eBi (b : Bi) (l : LM) : EM := fun c ρ => do let xs ← l c ρ; biM b xs
def eIsi (a : EM) (t : Ty) : EM := fun c ρ => do let x ← a c ρ; let k ← isiM x t; pure (.bl k)
def lstOf : D → M (List D)
  | .ref r => getL r
  | _ => stk
def eMe (m : Me) (a : EM) (l : LM) : EM := fun c ρ => do let x ← a c ρ; let _ ← lstOf x; let xs ← l c ρ; meM m x xs
def tVal (a : EM) : TM := fun c ρ => do let x ← a c ρ; truth x
def tCmp (op : COp) (a b : EM) : TM := fun c ρ => do let x ← a c ρ; let y ← b c ρ; cmpB op x y
def tChain (op op' : COp) (a b d : EM) : TM := fun c ρ => do
  let x ← a c ρ
  let y ← b c ρ
  let k ← cmpB op x y
  if k = true then do let z ← d c ρ; cmpB op' y z else pure false
def tNot (a : TM) : TM := fun c ρ => do let k ← a c ρ; pure (!k)
def tAnd (a b : TM) : TM := fun c ρ => do let k ← a c ρ; if k = true then b c ρ else pure false
def tOr (a b : TM) : TM := fun c ρ => do let k ← a c ρ; if k = true then pure true else b c ρ
def gName (i : Nat) : GM := fun d ρ => if i < ρ.length then pure (ρ.set i (some d)) else stk
def gNil : GsM := fun ds ρ => match ds with
  | [] => pure ρ
  | _ => stk
def gCons (g : GM) (r : GsM) : GsM := fun ds ρ => match ds with
  | d :: ds => do let ρ' ← g d ρ; r ds ρ'
  | [] => stk
def gTup (n : Nat) (g : GsM) : GM := fun d ρ => match d with
  | .tup xs => if xs.length = n then g xs ρ else stk
  | _ => stk
def GdOk (gd : List (Nat × List D)) (S : Store) : Prop := ∀ p ∈ gd, S[p.1]? = some (Ob.lst p.2)
open Classical in
noncomputable def chk (gd : List (Nat × List D)) : M Unit := fun S => if GdOk gd S then .ok () S else .stk
/-- a list or a tuple as what is walked -/
def walkD : D → M Items
  | .tup xs => pure ⟨[], xs⟩
  | .ref r => do let xs ← getL r; pure ⟨[(r, xs)], xs⟩
  | _ => stk
def iSeq (a : EM) : IM := fun c ρ => do let x ← a c ρ; walkD x
def rangeD (lo : Int) (n : Nat) : List D := (List.range n).map fun i => .int (lo + (i : Nat))
def rngOk (i : Int) : Bool := decide (-(2 ^ 62) ≤ i) && decide (i < 2 ^ 62)
def iRng1 (a : EM) : IM := fun c ρ => do let x ← a c ρ; let j ← intM x; cond (rngOk j) (pure ⟨[], rangeD 0 j.toNat⟩)
def iRng2 (a b : EM) : IM := fun c ρ => do
  let x ← a c ρ
  let y ← b c ρ
  let i ← intM x
  let j ← intM y
  cond (rngOk i && rngOk j) (pure ⟨[], rangeD i (j - i).toNat⟩)
def pairsD (xs ys : List D) : List D := (xs.zip ys).map fun p => .tup [p.1, p.2]
def enumD (xs : List D) : List D := (List.range xs.length).zipWith (fun i x => .tup [.int (i : Nat), x]) xs
def iEnum (a : EM) : IM := fun c ρ => do let x ← a c ρ; let w ← walkD x; pure ⟨w.gd, enumD w.xs⟩
def zipM : D → D → M Items
  | .tup xs, .tup ys => pure ⟨[], pairsD xs ys⟩
  | .ref r, .ref q => do let xs ← getL r; let ys ← getL q; pure ⟨[(r, xs), (q, ys)], pairsD xs ys⟩
  | _, _ => stk
def iZip (a b : EM) : IM := fun c ρ => do let x ← a c ρ; let y ← b c ρ; zipM x y
/-- nothing may be raised -/
def noX {α : Type} (m : M α) : M α := fun S => match m S with
  | .ok a S' => .ok a S'
  | _ => .stk
/-- a comprehension's items -/
noncomputable def lcL (gd : List (Nat × List D)) (g : GM) (t : TM) (e : EM) (c : Cl) (ρ : Env) : List D → M (List D)
  | [] => do chk gd; pure []
  | x :: xs => do
    chk gd
    let ρ' ← g x ρ
    let k ← noX (t c ρ')
    if k = true then do
      let y ← noX (e c ρ')
      let ys ← lcL gd g t e c ρ xs
      pure (y :: ys)
    else lcL gd g t e c ρ xs
def wipeE (ρ : Env) : List Nat → Env
  | [] => ρ
  | v :: vs => (wipeE ρ vs).set v none
def tYes : TM := fun _ _ => pure true
/-- what a comprehension gives, not yet laid -/
noncomputable def cLc (it : IM) (own : List Nat) (g : GM) (t : TM) (e : EM) : LM := fun c ρ => do
  let w ← it c ρ
  let ys ← lcL w.gd g t e c (wipeE ρ own) w.xs
  fits ys.length (pure ys)
def eLc (l : LM) : EM := fun c ρ => do let ys ← l c ρ; newO (.lst ys)
/-! ### statements -/
structure Kt where
  nx : Env → M D
  rt : D → M D
  bk : Env → M D
  ct : Env → M D
abbrev SM := Cl → Env → Kt → M D
def sPass : SM := fun _ ρ k => k.nx ρ
def sSeq (a b : SM) : SM := fun c ρ k => a c ρ { k with nx := fun ρ' => b c ρ' k }
def sAsg (e : EM) (g : GM) : SM := fun c ρ k => do let d ← e c ρ; let ρ' ← g d ρ; k.nx ρ'
/-- a, b, .. = x, y, .. -/
def sPar (l : LM) (g : GsM) : SM := fun c ρ k => do let xs ← l c ρ; let ρ' ← g xs ρ; k.nx ρ'
def sPut (e o i : EM) : SM := fun c ρ k => do let d ← e c ρ; let x ← o c ρ; let y ← i c ρ; setM x y d; k.nx ρ
def sExpr (e : EM) : SM := fun c ρ k => do let _ ← e c ρ; k.nx ρ
def sRet (e : EM) : SM := fun c ρ k => do let d ← e c ρ; k.rt d
def sRetN : SM := fun _ _ k => k.rt .non
def sIf (t : TM) (a b : SM) : SM := fun c ρ k => do let x ← t c ρ; if x = true then a c ρ k else b c ρ k
def sBreak : SM := fun _ ρ k => k.bk ρ
def sCont : SM := fun _ ρ k => k.ct ρ
def sNever : SM := fun _ _ _ => stk
noncomputable def forL (gd : List (Nat × List D)) (g : GM) (b : SM) (c : Cl) (k : Kt) : List D → Env → M D
  | [], ρ => do chk gd; k.nx ρ
  | x :: xs, ρ => do
    chk gd
    let ρ' ← g x ρ
    b c ρ' { nx := forL gd g b c k xs, ct := forL gd g b c k xs, bk := k.nx, rt := k.rt }
noncomputable def sFor (it : IM) (g : GM) (b : SM) : SM := fun c ρ k => do let w ← it c ρ; forL w.gd g b c k w.xs ρ
def whileN (t : TM) (b : SM) (c : Cl) (k : Kt) : Nat → Env → M D
  | 0, _ => stk
  | n + 1, ρ => do
    let x ← t c ρ
    if x = true then b c ρ { nx := whileN t b c k n, ct := whileN t b c k n, bk := k.nx, rt := k.rt } else k.nx ρ
open Classical in
noncomputable def whileM (t : TM) (b : SM) (c : Cl) (k : Kt) (ρ : Env) : M D := fun S =>
  if h : ∃ r, ∃ n₀, ∀ n, n₀ ≤ n → whileN t b c k n ρ S = r then h.choose else .stk
noncomputable def sWhile (t : TM) (b : SM) : SM := fun c ρ k => whileM t b c k ρ
theorem whileM_eq {t : TM} {b : SM} {c : Cl} {k : Kt} {ρ : Env} {S : Store} {r : Res D} (n₀ : Nat) (h : ∀ n, n₀ ≤ n → whileN t b c k n ρ S = r) : whileM t b c k ρ S = r := by
  unfold whileM
  have h' : ∃ r, ∃ n₀, ∀ n, n₀ ≤ n → whileN t b c k n ρ S = r := ⟨r, n₀, h⟩
  rw [dif_pos h']
  obtain ⟨n₁, h₁⟩ := h'.choose_spec
  rw [← h₁ (max n₀ n₁) (Nat.le_max_right _ _), h _ (Nat.le_max_left _ _)]
theorem whileM_n {t : TM} {b : SM} {c : Cl} {k : Kt} {ρ : Env} {S : Store} (h : whileM t b c k ρ S ≠ .stk) : ∃ n, whileN t b c k n ρ S = whileM t b c k ρ S := by
  unfold whileM at h ⊢
  split
  · rename_i h'
    obtain ⟨n₁, h₁⟩ := h'.choose_spec
    exact ⟨n₁, h₁ _ (Nat.le_refl _)⟩
  · rename_i h'
    rw [dif_neg h'] at h
    exact absurd rfl h
/-! ### defs -/
mutual
def D.noRefs : D → Bool
  | .tup xs => D.noRefsL xs
  | .ref _ => false
  | .clo _ _ => false
  | .fz xs => D.noRefsL xs
  | _ => true
def D.noRefsL : List D → Bool
  | [] => true
  | d :: ds => d.noRefs && D.noRefsL ds
end
open Classical in
/-- what a call leaves: nothing, where nothing can be reached -/
noncomputable def gc (m : M D) : M D := fun S => match m S with
  | .ok d S' => if d.noRefs = true ∧ S'.take S.length = S then .ok d S else .ok d S'
  | r => r
structure Fn where
  ar : Nat
  sl : Nat
  dv : List D
  sm : SM
def startE (n : Nat) (ds : List D) : Env := ds.map some ++ List.replicate (n - ds.length) none
def K0 : Kt := ⟨fun _ => pure .non, pure, fun _ => stk, fun _ => stk⟩
def fullA (f : Fn) (ds : List D) : List D := ds ++ f.dv.drop (f.dv.length - (f.ar - ds.length))
noncomputable def callF (P : Nat → Option Fn) : Nat → Cl
  | 0 => fun _ _ => stk
  | n + 1 => fun f ds => match P f with
    | some fn => if (fullA fn ds).length = fn.ar then gc (fn.sm (callF P n) (startE fn.sl (fullA fn ds)) K0) else stk
    | none => stk
end Pin

set_option Elab.async false
set_option linter.all false
set_option maxRecDepth 100000
set_option maxHeartbeats 1000000
/-! PinB: how the machine's values and store stand in the abstract heap. -/
namespace Pin
open PySem PySem.Spec PyProof.Rows L2

/-- where things stand: the written part, the defs, the exceptions' classes and their field, the tables of code -/
structure Pm where
  K : PySem.W.Frag
  fa : Nat → Option Addr
  ca : Nat → Option Addr
  cf : Nat → Option Str
  T : List (Addr × Str)
  /-- what is kept for somebody else, as it stands -/
  rs : Hp
def Pm.at (p : Pm) (rs : Hp) : Pm := { p with rs := rs }

/-- a list that nobody writes -/
def SqF (K : PySem.W.Frag) (H : Hp) (a : Addr) (xs : List V) : Prop :=
  (∃ o, H a = some (.frz o (.lst xs))) ∨
    ∃ (o : Obj) (its : Array Value) (n : Nat), K.lookup a = some o ∧ o.cls = .type "list" ∧ o.dict = none ∧ o.data = .seq its n ∧ its.size ≤ sizeLine ∧ Vals xs its.toList
theorem SqF.sq {K : PySem.W.Frag} {H : Hp} {a : Addr} {xs : List V} (h : SqF K H a xs) : SqL K H a xs := by
  rcases h with ⟨o, h⟩ | h
  · exact .inl (.inr ⟨o, h⟩)
  · exact .inr h
mutual
def RVc (K : PySem.W.Frag) (fa : Nat → Option Addr) (μ : List Addr) (H : Hp) : D → V → Prop
  | .non, v => v = .non
  | .bl b, v => v = .bl b
  | .int i, v => v = .int i
  | .str x, v => v = .str x
  | .tup ds, v => ∃ a vs, v = .ref a ∧ SqT K H a vs ∧ ds.length ≤ sizeLine ∧ RVsc K fa μ H ds vs
  | .ref i, v => ∃ a, v = .ref a ∧ μ[i]? = some a
  | .fn f, v => ∃ a, v = .ref a ∧ fa f = some a
  | .clo _ _, _ => False
  | .fz ds, v => ∃ a vs, v = .ref a ∧ SqF K H a vs ∧ ds.length ≤ sizeLine ∧ RVsc K fa μ H ds vs
def RVsc (K : PySem.W.Frag) (fa : Nat → Option Addr) (μ : List Addr) (H : Hp) : List D → List V → Prop
  | [], vs => vs = []
  | d :: ds, vs => ∃ v r, vs = v :: r ∧ RVc K fa μ H d v ∧ RVsc K fa μ H ds r
end
abbrev RV (p : Pm) (μ : List Addr) (H : Hp) : D → V → Prop := RVc p.K p.fa μ H
abbrev RVs (p : Pm) (μ : List Addr) (H : Hp) : List D → List V → Prop := RVsc p.K p.fa μ H
def Keep : HO → Prop
  | .tup _ => True
  | .frz _ _ => True
  | .ext _ => True
  | _ => False
/-- what never changes stands as it was -/
def Ext (H H' : Hp) : Prop := ∀ a o, H a = some o → Keep o → H' a = some o
theorem Ext.refl (H : Hp) : Ext H H := fun _ _ h _ => h
theorem Ext.trans {H H1 H2 : Hp} (a : Ext H H1) (b : Ext H1 H2) : Ext H H2 := fun c o h k => b c o (a c o h k) k
theorem Ext.new {H : Hp} {q : Addr} {o : HO} (h : H q = none) : Ext H (upd H q o) := fun a u e _ => by
  rw [upd_ne (ne_of_none e h)]; exact e
theorem Ext.set {H : Hp} {q : Addr} {o u : HO} (h : H q = some u) (k : ¬ Keep u) : Ext H (upd H q o) := fun a w e kw => by
  by_cases z : a = q
  · subst z; rw [h] at e; cases e; exact absurd kw k
  · rw [upd_ne z]; exact e
theorem Rd.ext {H H' : Hp} {a : Addr} {xs : List V} (e : Ext H H') (h : Rd H a (.tup xs)) : Rd H' a (.tup xs) := by
  rcases h with h | ⟨o, h⟩
  · exact .inl (e _ _ h trivial)
  · exact .inr ⟨o, e _ _ h trivial⟩
theorem SqT.ext {K : PySem.W.Frag} {H H' : Hp} {a : Addr} {xs : List V} (e : Ext H H') (h : SqT K H a xs) : SqT K H' a xs := by
  rcases h with h | h
  · exact .inl (Rd.ext e h)
  · exact .inr h
theorem SqF.ext {K : PySem.W.Frag} {H H' : Hp} {a : Addr} {xs : List V} (e : Ext H H') (h : SqF K H a xs) : SqF K H' a xs := by
  rcases h with ⟨o, h⟩ | h
  · exact .inl ⟨o, e _ _ h trivial⟩
  · exact .inr h
section
variable {p : Pm} {μ μ' : List Addr} {H H' : Hp}
theorem pre_get {i : Nat} {a : Addr} (e : μ <+: μ') (h : μ[i]? = some a) : μ'[i]? = some a := by
  obtain ⟨r, rfl⟩ := e
  rw [List.getElem?_append_left (List.getElem?_eq_some_iff.mp h).1]; exact h
mutual
theorem RVc.ext (e : Ext H H') (m : μ <+: μ') : ∀ (d : D) (v : V), RV p μ H d v → RV p μ' H' d v
  | .non, _, h => h
  | .bl _, _, h => h
  | .int _, _, h => h
  | .str _, _, h => h
  | .tup ds, _, ⟨a, vs, h1, h2, h3, h4⟩ => ⟨a, vs, h1, SqT.ext e h2, h3, RVsc.ext e m ds vs h4⟩
  | .ref _, _, ⟨a, h1, h2⟩ => ⟨a, h1, pre_get m h2⟩
  | .fn _, _, h => h
  | .clo _ _, _, h => h
  | .fz ds, _, ⟨a, vs, h1, h2, h3, h4⟩ => ⟨a, vs, h1, SqF.ext e h2, h3, RVsc.ext e m ds vs h4⟩
theorem RVsc.ext (e : Ext H H') (m : μ <+: μ') : ∀ (ds : List D) (vs : List V), RVs p μ H ds vs → RVs p μ' H' ds vs
  | [], _, h => h
  | d :: ds, _, ⟨v, r, h1, h2, h3⟩ => ⟨v, r, h1, RVc.ext e m d v h2, RVsc.ext e m ds r h3⟩
end
theorem RVsc.len : ∀ {ds : List D} {vs : List V}, RVs p μ H ds vs → vs.length = ds.length
  | [], _, h => by
    have h' : _ = [] := h
    rw [h']; rfl
  | d :: ds, _, ⟨v, r, h1, h2, h3⟩ => by rw [h1, List.length_cons, List.length_cons, RVsc.len h3]
theorem RVsc.get : ∀ {ds : List D} {vs : List V} {i : Nat} {d : D}, RVs p μ H ds vs → ds[i]? = some d → ∃ v, vs[i]? = some v ∧ RV p μ H d v
  | [], _, i, _, _, e => by simp at e
  | d :: ds, _, 0, _, ⟨v, r, h1, h2, h3⟩, e => by
    simp at e
    subst e
    exact ⟨v, by rw [h1]; rfl, h2⟩
  | d :: ds, _, i + 1, _, ⟨v, r, h1, h2, h3⟩, e => by
    obtain ⟨w, e1, e2⟩ := RVsc.get (i := i) h3 (by simpa using e)
    exact ⟨w, by rw [h1]; simpa using e1, e2⟩
theorem RVsc.getR {ds : List D} {vs : List V} {i : Nat} {v : V} (h : RVs p μ H ds vs) (e : vs[i]? = some v) : ∃ d, ds[i]? = some d ∧ RV p μ H d v := by
  have hl := h.len
  have hi : i < ds.length := by rw [← hl]; exact (List.getElem?_eq_some_iff.mp e).1
  obtain ⟨w, e1, e2⟩ := h.get (show ds[i]? = some ds[i] by simp [hi])
  rw [e] at e1
  cases e1
  exact ⟨_, by simp [hi], e2⟩
theorem RVsc.app : ∀ {ds es : List D} {vs ws : List V}, RVs p μ H ds vs → RVs p μ H es ws → RVs p μ H (ds ++ es) (vs ++ ws)
  | [], _, _, _, h, q => by
    have h' : _ = [] := h
    rw [h']; exact q
  | d :: ds, es, _, ws, ⟨v, r, h1, h2, h3⟩, q => ⟨v, r ++ ws, by rw [h1]; rfl, h2, RVsc.app h3 q⟩
theorem RVsc.one {d : D} {v : V} (h : RV p μ H d v) : RVs p μ H [d] [v] := ⟨v, [], rfl, h, rfl⟩
theorem RVsc.nil : RVs p μ H [] [] := rfl
theorem RVsc.nil' {vs : List V} (h : RVs p μ H [] vs) : vs = [] := h
theorem RVsc.cons {d : D} {ds : List D} {v : V} {vs : List V} (h : RV p μ H d v) (q : RVs p μ H ds vs) : RVs p μ H (d :: ds) (v :: vs) := ⟨v, vs, rfl, h, q⟩
theorem RVsc.take : ∀ {ds : List D} {vs : List V} (n : Nat), RVs p μ H ds vs → RVs p μ H (ds.take n) (vs.take n)
  | _, _, 0, _ => rfl
  | [], _, n + 1, h => by
    have h' : _ = [] := h
    rw [h']; exact rfl
  | d :: ds, _, n + 1, ⟨v, r, h1, h2, h3⟩ => by rw [h1]; exact ⟨v, r.take n, rfl, h2, RVsc.take n h3⟩
theorem RVsc.drop : ∀ {ds : List D} {vs : List V} (n : Nat), RVs p μ H ds vs → RVs p μ H (ds.drop n) (vs.drop n)
  | _, _, 0, h => h
  | [], _, n + 1, h => by
    have h' : _ = [] := h
    rw [h']; exact rfl
  | d :: ds, _, n + 1, ⟨v, r, h1, h2, h3⟩ => by rw [h1]; exact RVsc.drop n h3
theorem RVsc.set : ∀ {ds : List D} {vs : List V} {d : D} {v : V} (n : Nat), RVs p μ H ds vs → RV p μ H d v → RVs p μ H (ds.set n d) (vs.set n v)
  | [], _, _, _, n, h, _ => by
    have h' : _ = [] := h
    rw [h']; exact rfl
  | d :: ds, _, _, w, 0, ⟨v, r, h1, h2, h3⟩, q => by rw [h1]; exact ⟨w, r, rfl, q, h3⟩
  | d :: ds, _, _, w, n + 1, ⟨v, r, h1, h2, h3⟩, q => by rw [h1]; exact ⟨v, r.set n w, rfl, h2, RVsc.set n h3 q⟩
theorem RVsc.reverse {ds : List D} {vs : List V} (h : RVs p μ H ds vs) : RVs p μ H ds.reverse vs.reverse := by
  induction ds generalizing vs with
  | nil => have h' : vs = [] := h; rw [h']; exact rfl
  | cons d ds ih =>
    obtain ⟨v, r, h1, h2, h3⟩ := h
    rw [h1, List.reverse_cons, List.reverse_cons]
    exact (ih h3).app (.one h2)
theorem RVsc.rep {ds : List D} {vs : List V} (h : RVs p μ H ds vs) : ∀ n : Nat, RVs p μ H (List.replicate n ds).flatten (List.replicate n vs).flatten
  | 0 => rfl
  | n + 1 => by
    rw [List.replicate_succ, List.replicate_succ, List.flatten_cons, List.flatten_cons]
    exact h.app (RVsc.rep h n)
theorem RVsc.cut {ds : List D} {vs : List V} (h : RVs p μ H ds vs) (lo hi : Option Int) : RVs p μ H (cutD ds lo hi) (cutV vs lo hi) := by
  unfold cutD cutV
  rw [h.len]
  exact (h.drop _).take _
end

/-! ### the store -/
def ROb (p : Pm) (μ : List Addr) (H : Hp) (a : Addr) : Ob → Prop
  | .lst ds => ∃ vs, H a = some (.lst vs) ∧ RVs p μ H ds vs
  | .dct kvs => kvs = [] ∧ H a = some (.dK [])
  | .cell _ => False
structure RepS (p : Pm) (μ : List Addr) (H : Hp) (S : Store) : Prop where
  len : μ.length = S.length
  nd : μ.Nodup
  ob : ∀ (i : Nat) (o : Ob) (a : Addr), S[i]? = some o → μ[i]? = some a → ROb p μ H a o
  tab : LamX.Tabs p.T H
  res : ∀ (a : Addr) (o : HO), p.rs a = some o → H a = some o ∧ a ∉ μ
section
variable {p : Pm} {μ μ' : List Addr} {H H' : Hp} {S : Store}
theorem ROb.there {a : Addr} {o : Ob} (h : ROb p μ H a o) : ∃ u, H a = some u ∧ ¬ Keep u ∧ (∀ ps, u ≠ .tbl ps) := by
  cases o with
  | lst ds => obtain ⟨vs, e, _⟩ := h; exact ⟨_, e, id, fun _ z => by cases z⟩
  | dct kvs => obtain ⟨_, e⟩ := h; exact ⟨_, e, id, fun _ z => by cases z⟩
  | cell v => exact h.elim
theorem ROb.ext {a : Addr} {o : Ob} (e : Ext H H') (m : μ <+: μ') (hk : H' a = H a) (h : ROb p μ H a o) : ROb p μ' H' a o := by
  cases o with
  | lst ds => obtain ⟨vs, q, r⟩ := h; exact ⟨vs, hk.trans q, RVsc.ext e m _ _ r⟩
  | dct kvs => obtain ⟨r, q⟩ := h; exact ⟨r, hk.trans q⟩
  | cell v => exact h
theorem RepS.addr (R : RepS p μ H S) {i : Nat} {o : Ob} (h : S[i]? = some o) : ∃ a, μ[i]? = some a ∧ ROb p μ H a o := by
  have hi : i < μ.length := by rw [R.len]; exact (List.getElem?_eq_some_iff.mp h).1
  exact ⟨μ[i], by simp [hi], R.ob i o _ h (by simp [hi])⟩
theorem tabs_upd {T : List (Addr × Str)} {q : Addr} {o : HO} (t : LamX.Tabs T H) (h : H q = none ∨ ∃ u, H q = some u ∧ ¬ Keep u ∧ (∀ ps, u ≠ .tbl ps)) : LamX.Tabs T (upd H q o) := fun P hP => by
  obtain ⟨ps, h1, h2, h3⟩ := t P hP
  have ne : ∀ b u, H b = some u → (Keep u ∨ ∃ ps, u = .tbl ps) → b ≠ q := fun b u e k z => by
    subst z
    rcases h with h | ⟨w, h, hk, ht⟩
    · rw [h] at e; cases e
    · rw [h] at e; cases e
      rcases k with k | ⟨ps, k⟩
      · exact hk k
      · exact ht ps k
  refine ⟨ps, by rw [upd_ne (ne _ _ h1 (.inr ⟨_, rfl⟩))]; exact h1, h2, fun pos cv hc => ?_⟩
  obtain ⟨c, e1, e2⟩ := h3 pos cv hc
  exact ⟨c, e1, by rw [upd_ne (ne _ _ e2 (.inl trivial))]; exact e2⟩
/-- a new thing that the store does not tell of (a tuple) -/
theorem RepS.tup (R : RepS p μ H S) {q : Addr} {o : HO} (h : H q = none) : RepS p μ (upd H q o) S :=
  ⟨R.len, R.nd, fun i ob a h1 h2 => by
    have r := R.ob i ob a h1 h2
    obtain ⟨u, hu, _⟩ := r.there
    exact r.ext (Ext.new h) (List.prefix_refl _) (upd_ne (ne_of_none hu h)), tabs_upd R.tab (.inl h), fun a u e => by
      obtain ⟨e1, e2⟩ := R.res a u e
      exact ⟨by rw [upd_ne (ne_of_none e1 h)]; exact e1, e2⟩⟩
/-- a new object of the store -/
theorem RepS.push (R : RepS p μ H S) {q : Addr} {o : HO} {ob : Ob} (h : H q = none) (n : ROb p (μ ++ [q]) (upd H q o) q ob) : RepS p (μ ++ [q]) (upd H q o) (S ++ [ob]) := by
  have hq : q ∉ μ := fun hm => by
    obtain ⟨i, hi, e⟩ := List.getElem_of_mem hm
    have h1 : S[i]? = some (S[i]'(by rw [← R.len]; exact hi)) := by simp [show i < S.length by rw [← R.len]; exact hi]
    obtain ⟨u, hu, _⟩ := (R.ob i _ q h1 (by rw [List.getElem?_eq_getElem hi, e])).there
    rw [h] at hu; cases hu
  refine ⟨by simp [R.len], List.nodup_append.mpr ⟨R.nd, by simp, fun a ha b hb e => hq (by simp at hb; rw [← hb, ← e]; exact ha)⟩, fun i u a h1 h2 => ?_, tabs_upd R.tab (.inl h), fun a u e => by
    obtain ⟨e1, e2⟩ := R.res a u e
    have ne := ne_of_none e1 h
    exact ⟨by rw [upd_ne ne]; exact e1, fun z => by
      rcases List.mem_append.mp z with z | z
      · exact e2 z
      · exact ne (by simpa using z)⟩⟩
  by_cases hi : i < S.length
  · rw [List.getElem?_append_left hi] at h1
    rw [List.getElem?_append_left (by rw [R.len]; exact hi)] at h2
    have r := R.ob i u a h1 h2
    obtain ⟨w, hw, _⟩ := r.there
    exact r.ext (Ext.new h) (List.prefix_append _ _) (upd_ne (ne_of_none hw h))
  · have e : i = S.length := by
      have := (List.getElem?_eq_some_iff.mp h1).1
      simp at this
      omega
    subst e
    rw [List.getElem?_append_right (Nat.le_refl _)] at h1
    rw [List.getElem?_append_right (by rw [R.len]; exact Nat.le_refl _), R.len] at h2
    simp at h1 h2
    rw [← h1, ← h2]
    exact n
theorem nodup_get {μ : List Addr} (nd : μ.Nodup) {i j : Nat} {a : Addr} (h1 : μ[i]? = some a) (h2 : μ[j]? = some a) : i = j := by
  obtain ⟨q1, e1⟩ := List.getElem?_eq_some_iff.mp h1
  obtain ⟨q2, e2⟩ := List.getElem?_eq_some_iff.mp h2
  exact (List.getElem_inj nd).mp (e1.trans e2.symm)
/-- an object of the store is written -/
theorem RepS.put (R : RepS p μ H S) {j : Nat} {q : Addr} {o : HO} {u ob : Ob} (hj : S[j]? = some u) (hq : μ[j]? = some q) (n : ROb p μ (upd H q o) q ob) : RepS p μ (upd H q o) (S.set j ob) ∧ Ext H (upd H q o) := by
  obtain ⟨w, hw, k, kt⟩ := (R.ob j u q hj hq).there
  have ex : Ext H (upd H q o) := Ext.set hw k
  refine ⟨⟨by simp [R.len], R.nd, fun i v a h1 h2 => ?_, tabs_upd R.tab (.inr ⟨w, hw, k, kt⟩), fun a u e => by
    obtain ⟨e1, e2⟩ := R.res a u e
    have ne : a ≠ q := fun z => e2 (by rw [z]; exact List.mem_of_getElem? hq)
    exact ⟨by rw [upd_ne ne]; exact e1, e2⟩⟩, ex⟩
  by_cases hi : i = j
  · subst hi
    rw [hq] at h2
    cases h2
    rw [List.getElem?_set_self (List.getElem?_eq_some_iff.mp hj).1] at h1
    cases h1
    exact n
  · rw [List.getElem?_set_ne (Ne.symm hi)] at h1
    have ne : a ≠ q := fun z => hi (nodup_get R.nd h2 (by rw [hq, z]))
    exact (R.ob i v a h1 h2).ext ex (List.prefix_refl _) (upd_ne ne)
end

/-! ### the slots -/
def RepE (p : Pm) (μ : List Addr) (H : Hp) (ρ : Env) (σ : L2.St) : Prop := ρ.length = σ.length ∧ ∀ (i : Nat) d, ρ[i]? = some (some d) → ∃ v, σ[i]? = some (some v) ∧ RV p μ H d v
section
variable {p : Pm} {μ μ' : List Addr} {H H' : Hp} {ρ : Env} {σ : L2.St}
theorem RepE.ext (r : RepE p μ H ρ σ) (e : Ext H H') (m : μ <+: μ') : RepE p μ' H' ρ σ := ⟨r.1, fun i d h => by
  obtain ⟨v, h1, h2⟩ := r.2 i d h
  exact ⟨v, h1, RVc.ext e m _ _ h2⟩⟩
theorem RepE.set (r : RepE p μ H ρ σ) {i : Nat} {d : D} {v : V} (h : RV p μ H d v) : RepE p μ H (ρ.set i (some d)) (σ.set i (some v)) := by
  refine ⟨by simp [r.1], fun j e q => ?_⟩
  by_cases hj : j = i
  · subst hj
    by_cases hl : j < ρ.length
    · rw [List.getElem?_set_self hl] at q
      cases q
      exact ⟨v, List.getElem?_set_self (by rw [← r.1]; exact hl), h⟩
    · rw [List.getElem?_eq_none (by simpa using hl)] at q; cases q
  · rw [List.getElem?_set_ne (Ne.symm hj)] at q
    obtain ⟨w, h1, h2⟩ := r.2 j e q
    exact ⟨w, by rw [List.getElem?_set_ne (Ne.symm hj)]; exact h1, h2⟩
theorem wipeE_len (ρ : Env) : ∀ vs : List Nat, (wipeE ρ vs).length = ρ.length
  | [] => rfl
  | v :: vs => by unfold wipeE; rw [List.length_set, wipeE_len ρ vs]
theorem RepE.wipe (r : RepE p μ H ρ σ) : ∀ vs : List Nat, RepE p μ H (wipeE ρ vs) (L2.wipe σ vs)
  | [] => r
  | v :: vs => by
    have q := RepE.wipe r vs
    unfold wipeE L2.wipe
    refine ⟨by simp [q.1], fun j e z => ?_⟩
    by_cases hj : j = v
    · subst hj
      by_cases hl : j < (wipeE ρ vs).length
      · rw [List.getElem?_set_self hl] at z; cases z
      · rw [List.getElem?_eq_none (by simpa using hl)] at z; cases z
    · rw [List.getElem?_set_ne (Ne.symm hj)] at z ⊢
      exact q.2 j e z
theorem RepE.none (r : RepE p μ H ρ σ) : RepE p μ H (ρ.map fun _ => Option.none) σ := ⟨by simp [r.1], fun i d h => by
  rw [List.getElem?_map] at h
  cases q : ρ[i]? with
  | none => rw [q] at h; cases h
  | some z => rw [q] at h; cases h⟩
end
/-! ### what is wanted behind -/
/-- an exception of the machine, as it flies -/
def RX (p : Pm) (μ : List Addr) (H : Hp) (x : Exc) (cls : Value) (dd : Option Addr) : Prop :=
  ∃ C, p.ca x.cls = some C ∧ cls = .ref C ∧ match x.val with
    | none => dd = none
    | some d => ∃ a f v, dd = some a ∧ p.cf x.cls = some f ∧ H a = some (.xd [(f, v)]) ∧ RV p μ H d v
/-- a wish about exceptions -/
abbrev Wish := Exc → List Addr → Store → L2.St → Hp → Prop
def Post {α β : Type} (p : Pm) (R : List Addr → Hp → α → β → Prop) (W : Wish) (σ : L2.St) (H : Hp) (μ : List Addr) (r : Res α) (Q : β → Hp → Prop) : Prop :=
  match r with
  | .ok d S' => ∀ v H' μ', Ext H H' → μ <+: μ' → RepS p μ' H' S' → R μ' H' d v → Q v H'
  | .exc x S' => ∀ H' μ', Ext H H' → μ <+: μ' → RepS p μ' H' S' → W x μ' S' σ H'
  | .stk => False
def RB : List Addr → Hp → Bool → Bool → Prop := fun _ _ a b => a = b
section
variable {α β γ δ : Type} {p : Pm} {R : List Addr → Hp → α → β → Prop} {R' : List Addr → Hp → γ → δ → Prop} {W : Wish} {σ : L2.St} {H H1 : Hp} {μ μ1 : List Addr} {S : Store}
theorem Post.base {r : Res α} {Q : β → Hp → Prop} (h : Post p R W σ H μ r Q) (e : Ext H H1) (m : μ <+: μ1) : Post p R W σ H1 μ1 r Q := by
  cases r with
  | ok d S' => exact fun v H' μ' e' m' => h v H' μ' (e.trans e') (m.trans m')
  | exc x S' => exact fun H' μ' e' m' => h H' μ' (e.trans e') (m.trans m')
  | stk => exact h
theorem Post.imp {r : Res α} {Q Q' : β → Hp → Prop} (h : Post p R W σ H μ r Q) (q : ∀ v H', Q v H' → Q' v H') : Post p R W σ H μ r Q' := by
  cases r with
  | ok d S' => exact fun v H' μ' e' m' r' x => q _ _ (h v H' μ' e' m' r' x)
  | exc x S' => exact h
  | stk => exact h
/-- what stands behind the first of two -/
structure At (p : Pm) (R : List Addr → Hp → α → β → Prop) (H : Hp) (μ : List Addr) (v : β) (H1 : Hp) (μ1 : List Addr) (S1 : Store) (d : α) : Prop where
  ex : Ext H H1
  pre : μ <+: μ1
  rep : RepS p μ1 H1 S1
  val : R μ1 H1 d v
theorem Post.bind {m : M α} {k : α → M γ} {Q : δ → Hp → Prop} (h : Post p R' W σ H μ ((m >>= k) S) Q) :
    Post p R W σ H μ (m S) (fun v H1 => ∃ μ1 S1 d, At p R H μ v H1 μ1 S1 d ∧ Post p R' W σ H1 μ1 (k d S1) Q) := by
  rw [bind_run] at h
  cases e : m S with
  | ok d S1 =>
    rw [e] at h
    exact fun v H1 μ1 e1 m1 r1 x1 => ⟨μ1, S1, d, ⟨e1, m1, r1, x1⟩, h.base e1 m1⟩
  | exc x S1 => rw [e] at h; exact h
  | stk => rw [e] at h; exact h
theorem Post.ok {d : α} {v : β} {Q : β → Hp → Prop} (h : Post p R W σ H μ (.ok d S) Q) (r : RepS p μ H S) (x : R μ H d v) : Q v H := h v H μ (Ext.refl _) (List.prefix_refl _) r x
end
/-- the reading of an expression that the machine gives -/
def tI (p : Pm) (W : Wish) (m : Env → M D) : TE := fun σ H Q => ∃ ρ μ S, RepS p μ H S ∧ RepE p μ H ρ σ ∧ Post p (RV p) W σ H μ (m ρ S) Q
def tB (p : Pm) (W : Wish) (m : Env → M Bool) : TT := fun σ H Q => ∃ ρ μ S, RepS p μ H S ∧ RepE p μ H ρ σ ∧ Post p RB W σ H μ (m ρ S) Q
def tL (p : Pm) (W : Wish) (m : Env → M (List D)) : TA := fun σ H Q => ∃ ρ μ S, RepS p μ H S ∧ RepE p μ H ρ σ ∧ Post p (RVs p) W σ H μ (m ρ S) Q
def tO (p : Pm) (W : Wish) (m : Env → M (Option Int)) : TO := fun σ H Q => ∃ ρ μ S, RepS p μ H S ∧ RepE p μ H ρ σ ∧ Post p (fun _ _ a b => a = b) W σ H μ (m ρ S) Q
end Pin

set_option Elab.async false
set_option linter.all false
set_option maxRecDepth 100000
set_option maxHeartbeats 1000000
/-! PinC: the machine's operators keep to the model. -/
namespace Pin
open PySem PySem.Spec PyProof.Rows L2
section
variable {α β : Type} {p : Pm} {R : List Addr → Hp → α → β → Prop} {W : Wish} {σ : L2.St} {H : Hp} {μ : List Addr} {S : Store} {Q : β → Hp → Prop}
theorem Post.fits {n : Nat} {m : M α} (h : Post p R W σ H μ (fits n m S) Q) : n ≤ sizeLine ∧ Post p R W σ H μ (m S) Q := by
  unfold Pin.fits at h
  split at h
  · exact ⟨by assumption, h⟩
  · exact h.elim
theorem Post.cond {b : Bool} {m : M α} (h : Post p R W σ H μ (cond b m S) Q) : b = true ∧ Post p R W σ H μ (m S) Q := by
  unfold Pin.cond at h
  split at h
  · exact ⟨by assumption, h⟩
  · exact h.elim
theorem Post.getL {r : Nat} {k : List D → M α} (h : Post p R W σ H μ ((getL r >>= k) S) Q) : ∃ xs, S[r]? = some (.lst xs) ∧ Post p R W σ H μ (k xs S) Q := by
  rw [bind_run] at h
  unfold Pin.getL at h
  split at h
  · rename_i a S' e
    split at e
    · cases e; exact ⟨_, by assumption, h⟩
    · cases e
  · rename_i e
    split at e <;> cases e
  · exact h.elim
end
section
variable {p : Pm} {W : Wish} {σ : L2.St} {H : Hp} {μ : List Addr} {S : Store} {Q : VK}
theorem Post.tupM {xs : List D} {vs : List V} (R : RepS p μ H S) (x : RVs p μ H xs vs) (h : Post p (RV p) W σ H μ (tupM xs S) Q) : vs.length ≤ sizeLine ∧ ∀ q, H q = none → Q (.ref q) (upd H q (.tup vs)) := by
  obtain ⟨h1, h2⟩ := Post.fits h
  refine ⟨by rw [x.len]; exact h1, fun q hq => h2 (.ref q) _ μ (Ext.new hq) (List.prefix_refl _) (R.tup hq) ⟨q, vs, rfl, SqT.of upd_same, h1, RVsc.ext (Ext.new hq) (List.prefix_refl _) _ _ x⟩⟩
theorem Post.newO {ds : List D} {vs : List V} (R : RepS p μ H S) (x : RVs p μ H ds vs) (h : Post p (RV p) W σ H μ (newO (.lst ds) S) Q) : ∀ q, H q = none → Q (.ref q) (upd H q (.lst vs)) := by
  intro q hq
  refine h (.ref q) _ (μ ++ [q]) (Ext.new hq) (List.prefix_append _ _) (R.push hq ⟨vs, upd_same, RVsc.ext (Ext.new hq) (List.prefix_append _ _) _ _ x⟩) ⟨q, rfl, ?_⟩
  rw [List.getElem?_append_right (by rw [R.len]; exact Nat.le_refl _), R.len]
  simp
theorem Post.lstM {ds : List D} {vs : List V} (R : RepS p μ H S) (x : RVs p μ H ds vs) (h : Post p (RV p) W σ H μ (lstM ds S) Q) : vs.length ≤ sizeLine ∧ ∀ q, H q = none → Q (.ref q) (upd H q (.lst vs)) := by
  obtain ⟨h1, h2⟩ := Post.fits h
  exact ⟨by rw [x.len]; exact h1, Post.newO R x h2⟩
end
/-- a list of the store, in the heap -/
theorem RepS.lst {p : Pm} {μ : List Addr} {H : Hp} {S : Store} (R : RepS p μ H S) {r : Nat} {xs : List D} (h : S[r]? = some (Ob.lst xs)) {v : V} (x : RV p μ H (.ref r) v) : ∃ a vs, v = .ref a ∧ μ[r]? = some a ∧ H a = some (.lst vs) ∧ RVs p μ H xs vs := by
  obtain ⟨a, e, m⟩ := x
  obtain ⟨vs, h1, h2⟩ := R.ob r _ a h m
  exact ⟨a, vs, e, m, h1, h2⟩
/-- what a context must have for operators -/
structure Gd (p : Pm) (X : Cx) : Prop where
  K : X.K = p.K
  calm : X.calm = true
  room : Room 2 X.A
def opOf : BOp → Operator
  | .add => .Add | .sub => .Sub | .mul => .Mult | .fdiv => .FloorDiv | .mod => .Mod | .pow => .Pow
def r2 (p : Pm) (W : Wish) (f : D → D → M D) : R2 := fun x y H Q => ∃ σ μ S dx dy, RepS p μ H S ∧ RV p μ H dx x ∧ RV p μ H dy y ∧ Post p (RV p) W σ H μ (f dx dy S) Q
def r2B (p : Pm) (W : Wish) (f : D → D → M Bool) : R2 := fun x y H Q => ∃ σ μ S dx dy, RepS p μ H S ∧ RV p μ H dx x ∧ RV p μ H dy y ∧ Post p RB W σ H μ (f dx dy S) (fun b H' => Q (.bl b) H')
/-! tuple * k, k at most one -/
section
theorem tuple_mul1 (l : Addr) (items : Array Value) (n : Nat) (dd : Option Addr) (sl : Array (Option Value)) (x : Int) (u : Tok) (c0 : (decide (x < -(2 ^ 63)) || decide (x ≥ 2 ^ 63)) = false) (c1 : (items.isEmpty || x == 1) = true) :
    Meets (Builtin.«tuple.__mul__» ⟨[.ref l, .int x u], []⟩) (fun _ R s => s.heap.get? l = some { cls := .type "tuple", dict := dd, data := .seq items n, slots := sl } ∧ R (.ok (.ret (Value.ref l))) s) :=
  .of_wp fun prog w A R s h => by
    obtain ⟨hp, g, d, tk, os⟩ := s
    obtain ⟨hl, h⟩ := h
    have f1 := AutoSeq1.idx_int
    wp_walk using wpAny_loadPart' hl
    repeat (first
      | (refine wpAny_ite_false (decide_eq_false (by rw [c0]; exact Bool.false_ne_true)) ?_; wp_walk using wpAny_loadPart' hl)
      | (refine wpAny_ite_true (decide_eq_true c1) ?_; wp_walk using wpAny_loadPart' hl))
    exact ⟨_, rfl, h⟩
theorem tuple_mul0 (l : Addr) (items : Array Value) (n : Nat) (dd : Option Addr) (sl : Array (Option Value)) (x : Int) (u : Tok) (c0 : (decide (x < -(2 ^ 63)) || decide (x ≥ 2 ^ 63)) = false) (c1 : (items.isEmpty || x == 1) = false) (c2 : (decide (x ≤ 0) || items.isEmpty) = true) :
    Meets (Builtin.«tuple.__mul__» ⟨[.ref l, .int x u], []⟩) (fun _ R s => s.heap.get? l = some { cls := .type "tuple", dict := dd, data := .seq items n, slots := sl } ∧
      R (.ok (.ret (Value.ref s.heap.objs.size))) { s with heap := s.heap.push { cls := Value.type "tuple", data := Data.seq #[] }, toks := s.toks }) :=
  .of_wp fun prog w A R s h => by
    obtain ⟨hp, g, d, tk, os⟩ := s
    obtain ⟨hl, h⟩ := h
    have f1 := AutoSeq1.idx_int
    wp_walk using wpAny_loadPart' hl
    repeat (first
      | (refine wpAny_ite_false (decide_eq_false (by rw [c0]; exact Bool.false_ne_true)) ?_; wp_walk using wpAny_loadPart' hl)
      | (refine wpAny_ite_false (decide_eq_false (by rw [c1]; exact Bool.false_ne_true)) ?_; wp_walk using wpAny_loadPart' hl)
      | (refine wpAny_ite_true (decide_eq_true c2) ?_; wp_walk using wpAny_loadPart' hl))
    exact ⟨_, rfl, h⟩
end

section
variable {X : Cx}
def rRepA (K : PySem.W.Frag) : R2 := fun x y H Q => ∃ l k xs, x = .ref l ∧ y = .int k ∧ SqT K H l xs ∧ -(2 ^ 62) ≤ k ∧ k ≤ 1000 ∧ xs.length ≤ 1000 ∧
  ((xs = [] ∨ k = 1) → Q (.ref l) H) ∧ (xs ≠ [] → k ≠ 1 → ∀ p, H p = none → Q (.ref p) (upd H p (.tup (List.replicate k.toNat xs).flatten)))
theorem op_repA : OpR X (binaryOp .Mult) (rRepA X.K) := by
  intro pins s σ H x y v u Q I rx ry h
  obtain ⟨l, k, xs, rfl, rfl, hT, h1, h2, hz, q1, q2⟩ := h
  by_cases big : xs ≠ [] ∧ 2 ≤ k
  · exact op_repT pins s σ H _ _ v u Q I rx ry ⟨l, k, xs, rfl, rfl, hT, big.1, big.2, h2, hz, q2 big.1 (by omega)⟩
  cases rx
  obtain ⟨t, rfl⟩ := ry
  obtain ⟨its, r, ⟨⟨cls, dd, data, sl⟩, ho, hc, n, hd⟩, hs⟩ := I.tuple hT
  simp only at hc hd
  subst hc hd
  have c0 : (decide (k < -(2 ^ 63)) || decide (k ≥ 2 ^ 63)) = false := by
    rw [decide_eq_false (by omega), decide_eq_false (by omega)] <;> rfl
  have hemp : its.toArray.isEmpty = xs.isEmpty := by cases r <;> simp
  by_cases one : xs = [] ∨ k = 1
  · have c1 : (its.toArray.isEmpty || k == 1) = true := by
      rw [hemp]
      rcases one with e | e
      · rw [e]; rfl
      · rw [e]; simp
    exact wpAny_binaryOp_repeat_ref (T := "tuple") (U := "int") (by decide) ⟨_, ho, rfl⟩ (fun s' => typeIs_int s' k t) noFill_tuple_mul F.fills_int_mul F.slot_int_rmul repeat_tuple F.slot_int_index.lookup
      (call_meets F.slot_int_rmul (typeIs_int s k t) F.entry_int_rmul (F.args_int_rmul_2 _ _) (int_rmul_tuple k t l its.toArray n dd sl)
        ⟨ho, rfl, ⟨_, ho, rfl⟩, call_meets F.slot_tuple_mul ⟨_, ho, rfl⟩ F.entry_tuple_mul (F.args_tuple_mul_2 _ _) (tuple_mul1 l its.toArray n dd sl k t c0 c1) ⟨ho, ⟨.ref l, H, I, rfl, q1 one⟩⟩⟩)
  · have n1 : xs ≠ [] := fun e => one (.inl e)
    have n2 : k ≠ 1 := fun e => one (.inr e)
    have hk : k ≤ 0 := by
      by_cases z : 2 ≤ k
      · exact absurd ⟨n1, z⟩ big
      · omega
    have c1 : (its.toArray.isEmpty || k == 1) = false := by
      rw [hemp, List.isEmpty_eq_false_iff.mpr n1, Bool.false_or]
      exact beq_eq_false_iff_ne.mpr n2
    have c2 : (decide (k ≤ 0) || its.toArray.isEmpty) = true := by rw [decide_eq_true hk, Bool.true_or]
    have hf : H s.heap.objs.size = none := I.hok.fresh (Nat.le_refl _)
    have e0 : (List.replicate k.toNat xs).flatten = [] := by
      have : k.toNat = 0 := by omega
      rw [this]; rfl
    refine wpAny_binaryOp_repeat_ref (T := "tuple") (U := "int") (by decide) ⟨_, ho, rfl⟩ (fun s' => typeIs_int s' k t) noFill_tuple_mul F.fills_int_mul F.slot_int_rmul repeat_tuple F.slot_int_index.lookup
      (call_meets F.slot_int_rmul (typeIs_int s k t) F.entry_int_rmul (F.args_int_rmul_2 _ _) (int_rmul_tuple k t l its.toArray n dd sl)
        ⟨ho, rfl, ⟨_, ho, rfl⟩, call_meets F.slot_tuple_mul ⟨_, ho, rfl⟩ F.entry_tuple_mul (F.args_tuple_mul_2 _ _) (tuple_mul0 l its.toArray n dd sl k t c0 c1 c2) ⟨ho, ?_⟩⟩)
    refine ⟨.ref s.heap.objs.size, upd H s.heap.objs.size (.tup (List.replicate k.toNat xs).flatten), I.laid (t' := s.toks) (fun b u e => Heap.get?_push_of_some _ e) (Nat.le_refl _) ?_, rfl, q2 n1 n2 _ hf⟩
    rw [e0]
    exact ⟨by show 0 ≤ sizeLine; decide, [], .nil, ⟨_, Heap.get?_push_size _ rfl, rfl, _, rfl⟩⟩
theorem opI0' {f : Int → Int → Int} : True := trivial
theorem op_powB : OpR X (binaryOp .Pow) (rI (fun i j => 0 ≤ j ∧ (Builtin.Int.intBits i : Int) * j ≤ 2 ^ 27) fun i j => .int (i ^ j.toNat)) := opI fun _ _ _ _ _ _ _ hc q => pow_int hc.1 hc.2 q
theorem op_fdivB : OpR X (binaryOp .FloorDiv) (rI (fun _ j => j ≠ 0 ∧ j.natAbs.log2 < 9000) fun i j => .int (i.fdiv j)) := opI fun _ _ _ _ _ _ _ hc q => floordiv_int hc.1 q (.inl (PyProof.noPylong_of_log2 hc.2))
end
theorem mulOk_X {i j : Int} (h : mulOk i j = true) : CMulX i j := by
  have b : ∀ x : Int, Builtin.Int.intBits x ≤ x.natAbs.log2 + 1 := fun x => by
    unfold Builtin.Int.intBits
    split <;> omega
  have h1 := b i
  have h2 := b j
  have h3 : i.natAbs.log2 + j.natAbs.log2 < 134000000 := of_decide_eq_true h
  unfold CMulX
  omega
section
variable {X : Cx} {p : Pm} {W : Wish}
theorem bin_ok (g : Gd p X) (op : BOp) : OpR X (binaryOp (opOf op)) (r2 p W (binM op)) := by
  intro pins s σ' H x y v u Q I rx ry h
  obtain ⟨σ, μ, S, dx, dy, R, vx, vy, h⟩ := h
  have hK := g.K
  cases op with
  | add =>
    cases dx <;> cases dy <;> first | exact h.elim | skip
    · cases vx; cases vy
      exact op_add pins s σ' H _ _ v u Q I rx ry ⟨_, _, rfl, rfl, Post.ok h R rfl⟩
    · cases vx; cases vy
      obtain ⟨h1, h2⟩ := Post.fits h
      exact op_add_str pins s σ' H _ _ v u Q I rx ry ⟨_, _, rfl, rfl, h1, Post.ok h2 R rfl⟩
    · rename_i xs ys
      obtain ⟨a, vs, rfl, sa, la, ra⟩ := vx
      obtain ⟨b, ws, rfl, sb, lb, rb⟩ := vy
      have hh := Post.fits h
      refine op_catA pins s σ' H _ _ v u Q I rx ry ⟨a, b, vs, ws, rfl, rfl, hK ▸ sa, hK ▸ sb, by rw [ra.len, rb.len, ← List.length_append]; exact hh.1, fun e => ?_, fun e1 e2 => ?_, fun e1 e2 q hq => ?_⟩
      · subst e
        have e' : xs = [] := by have := ra.len; simp at this; exact List.eq_nil_of_length_eq_zero this.symm
        subst e'
        exact Post.ok hh.2 R ⟨b, ws, rfl, sb, lb, rb⟩
      · subst e2
        have e' : ys = [] := by have := rb.len; simp at this; exact List.eq_nil_of_length_eq_zero this.symm
        subst e'
        exact Post.ok hh.2 R ⟨a, vs, rfl, sa, by rw [List.append_nil]; exact la, by rw [List.append_nil]; exact ra⟩
      · exact (Post.tupM R (ra.app rb) h).2 q hq
    · rename_i r q
      obtain ⟨xs, e1, h⟩ := Post.getL h
      obtain ⟨ys, e2, h⟩ := Post.getL h
      obtain ⟨a, vs, rfl, _, ha, ra⟩ := R.lst e1 vx
      obtain ⟨b, ws, rfl, _, hb, rb⟩ := R.lst e2 vy
      obtain ⟨h1, h2⟩ := Post.lstM R (ra.app rb) h
      exact op_cat pins s σ' H _ _ v u Q I rx ry ⟨a, b, vs, ws, rfl, rfl, ha, hb, by rw [← List.length_append]; exact h1, h2⟩
  | sub =>
    cases dx <;> cases dy <;> first | exact h.elim | skip
    · cases vx; cases vy
      exact op_sub pins s σ' H _ _ v u Q I rx ry ⟨_, _, rfl, rfl, Post.ok h R rfl⟩
  | mul =>
    cases dx <;> cases dy <;> first | exact h.elim | skip
    · cases vx; cases vy
      obtain ⟨h1, h2⟩ := Post.cond h
      exact op_mulX pins s σ' H _ _ v u Q I rx ry ⟨_, _, rfl, rfl, mulOk_X h1, Post.ok h2 R rfl⟩
    · rename_i xs k
      obtain ⟨a, vs, rfl, sa, la, ra⟩ := vx
      cases vy
      obtain ⟨h1, h2⟩ := Post.cond h
      simp only [Bool.and_eq_true, decide_eq_true_eq] at h1
      obtain ⟨⟨h1, h3⟩, h4⟩ := h1
      have hl := ra.len
      have rr : RVs p μ H (repD xs k) (List.replicate k.toNat vs).flatten := ra.rep _
      have hlen : (repD xs k).length ≤ sizeLine := by
        unfold repD
        rw [List.length_flatten, List.map_replicate, List.sum_replicate_nat, sizeLine_eq]
        have a1 : k.toNat * xs.length ≤ 1000 * 1000 := Nat.mul_le_mul (by omega) h4
        omega
      refine op_repA pins s σ' H _ _ v u Q I rx ry ⟨a, k, vs, rfl, rfl, hK ▸ sa, h3, h1, by omega, fun e => ?_, fun e1 e2 q hq => ?_⟩
      · refine Post.ok h2 R ⟨a, vs, rfl, sa, hlen, ?_⟩
        rcases e with e | e
        · have e' : xs = [] := by rw [e] at hl; simp at hl; exact List.eq_nil_of_length_eq_zero hl.symm
          subst e'
          have : repD [] k = [] := by unfold repD; rw [List.flatten_eq_nil_iff]; intro l hl; exact (List.mem_replicate.mp hl).2
          rw [this]; exact ra
        · subst e
          have : repD xs 1 = xs := by unfold repD; simp
          rw [this]; exact ra
      · exact h2 (.ref q) _ μ (Ext.new hq) (List.prefix_refl _) (R.tup hq) ⟨q, _, rfl, SqT.of upd_same, hlen, RVsc.ext (Ext.new hq) (List.prefix_refl _) _ _ rr⟩
    · rename_i r k
      obtain ⟨xs, e1, h⟩ := Post.getL h
      obtain ⟨a, vs, rfl, _, ha, ra⟩ := R.lst e1 vx
      cases vy
      obtain ⟨h1, h⟩ := Post.cond h
      simp only [Bool.and_eq_true, decide_eq_true_eq] at h1
      obtain ⟨h3, h⟩ := Post.fits h
      exact op_rep pins s σ' H _ _ v u Q I rx ry ⟨a, k, vs, rfl, rfl, ha, by omega, by omega, by rw [ra.len]; exact h3, Post.newO R (ra.rep _) h⟩
  | fdiv =>
    cases dx <;> cases dy <;> first | exact h.elim | skip
    · cases vx; cases vy
      obtain ⟨h1, h2⟩ := Post.cond h
      simp only [divOk, Bool.and_eq_true, decide_eq_true_eq] at h1
      exact op_fdivB pins s σ' H _ _ v u Q I rx ry ⟨_, _, rfl, rfl, h1, Post.ok h2 R rfl⟩
  | mod =>
    cases dx <;> cases dy <;> first | exact h.elim | skip
    · cases vx; cases vy
      obtain ⟨h1, h2⟩ := Post.cond h
      exact op_modN pins s σ' H _ _ v u Q I rx ry ⟨_, _, rfl, rfl, of_decide_eq_true h1, Post.ok h2 R rfl⟩
  | pow =>
    cases dx <;> cases dy <;> first | exact h.elim | skip
    · cases vx; cases vy
      obtain ⟨h1, h2⟩ := Post.cond h
      simp only [powOk, Bool.and_eq_true, decide_eq_true_eq] at h1
      exact op_powB pins s σ' H _ _ v u Q I rx ry ⟨_, _, rfl, rfl, h1, Post.ok h2 R rfl⟩
theorem neg_ok : UnR X (unaryOp .USub) (fun x H Q => ∃ σ μ S dx, RepS p μ H S ∧ RV p μ H dx x ∧ Post p (RV p) W σ H μ (negM dx S) Q) := by
  intro pins s σ' H x v Q I rx h
  obtain ⟨σ, μ, S, dx, R, vx, h⟩ := h
  cases dx <;> first | exact h.elim | skip
  cases vx
  exact un_neg pins s σ' H _ v Q I rx ⟨_, rfl, Post.ok h R rfl⟩
end
end Pin

set_option Elab.async false
set_option linter.all false
set_option maxRecDepth 100000
set_option maxHeartbeats 1000000
/-! PinD: comparisons, truth, subscripts, builtins. -/
namespace Pin
open PySem PySem.Spec PyProof.Rows L2
/-! ### data -/
section
variable {p : Pm} {μ : List Addr} {H : Hp} {S : Store}
theorem dpAll_of {K : PySem.W.Frag} {f : D → Option PyData} : ∀ {ds : List D} {vs : List V} {xs : List PyData}, RVs p μ H ds vs → mapO f ds = some xs →
    (∀ d v x, d ∈ ds → RV p μ H d v → f d = some x → Dp K H v x ∧ x.canLay0 = true ∧ x.depth ≤ n) → DpAll K H vs xs ∧ PyData.canLayAll0 xs = true ∧ PyData.depthAll xs ≤ n
  | [], _, _, h, e, _ => by
    have h' : _ = [] := h
    rw [h']
    cases e
    exact ⟨.nil, rfl, Nat.zero_le _⟩
  | d :: ds, _, _, ⟨v, r, h1, h2, h3⟩, e, q => by
    unfold mapO at e
    split at e
    · rename_i y ys e1 e2
      cases e
      obtain ⟨a1, a2, a3⟩ := q d v y List.mem_cons_self h2 e1
      obtain ⟨b1, b2, b3⟩ := dpAll_of h3 e2 fun d v x hd => q d v x (List.mem_cons_of_mem _ hd)
      rw [h1]
      refine ⟨.cons a1 b1, ?_, ?_⟩
      · unfold PyData.canLayAll0; rw [a2, b2]; rfl
      · unfold PyData.depthAll; omega
    · cases e
theorem dp_of (R : RepS p μ H S) : ∀ (n : Nat) (d : D) (v : V) (x : PyData), RV p μ H d v → toPy S n d = some x → Dp p.K H v x ∧ x.canLay0 = true ∧ x.depth ≤ n := by
  intro n
  induction n with
  | zero =>
    intro d v x h e
    cases d <;> first | (simp only [toPy] at e; cases e; done) | skip
    · cases h; simp only [toPy] at e; cases e; exact ⟨.non, rfl, Nat.le_refl _⟩
    · cases h; simp only [toPy] at e; cases e; exact ⟨.bl _, rfl, Nat.le_refl _⟩
    · cases h; simp only [toPy] at e; cases e; exact ⟨.int _, rfl, Nat.le_refl _⟩
    · cases h; simp only [toPy] at e
      split at e
      · cases e; rename_i q; exact ⟨.str _, q, Nat.le_refl _⟩
      · cases e
  | succ n ih =>
    intro d v x h e
    cases d <;> first | (simp only [toPy] at e; cases e; done) | skip
    · cases h; simp only [toPy] at e; cases e; exact ⟨.non, rfl, Nat.zero_le _⟩
    · cases h; simp only [toPy] at e; cases e; exact ⟨.bl _, rfl, Nat.zero_le _⟩
    · cases h; simp only [toPy] at e; cases e; exact ⟨.int _, rfl, Nat.zero_le _⟩
    · cases h; simp only [toPy] at e
      split at e
      · cases e; rename_i q; exact ⟨.str _, q, Nat.zero_le _⟩
      · cases e
    · rename_i ds
      obtain ⟨a, vs, rfl, sa, la, ra⟩ := h
      simp only [toPy, Option.map_eq_some_iff] at e
      obtain ⟨xs, e1, e2⟩ := e
      subst e2
      obtain ⟨b1, b2, b3⟩ := dpAll_of (K := p.K) (n := n) ra e1 fun d v x _ => ih d v x
      exact ⟨.tup sa b1, b2, by unfold PyData.depth; omega⟩
    · rename_i r
      simp only [toPy] at e
      split at e
      · rename_i ds e0
        simp only [Option.map_eq_some_iff] at e
        obtain ⟨xs, e1, e2⟩ := e
        subst e2
        obtain ⟨a, vs, rfl, _, ha, ra⟩ := R.lst e0 h
        obtain ⟨b1, b2, b3⟩ := dpAll_of (K := p.K) (n := n) ra e1 fun d v x _ => ih d v x
        exact ⟨.lst (SqL.of ha) b1, b2, by unfold PyData.depth; omega⟩
      · cases e
theorem shaped_of {x : PyData} (h : x.canLay0 = true) (d : x.depth ≤ 60) : SeqAt.shaped x = true := by
  unfold SeqAt.shaped
  rw [h, Bool.true_and, decide_eq_true_eq]
  omega
end
section
variable {p : Pm} {X : Cx} {W : Wish}
theorem bd {α β γ : Type} {R : List Addr → Hp → α → β → Prop} {σ : L2.St} {H : Hp} {μ : List Addr} {S : Store} {Q : β → Hp → Prop} {m : M γ} {k : γ → M α} (h : Post p R W σ H μ ((m >>= k) S) Q) :
    (∃ a S', m S = .ok a S' ∧ Post p R W σ H μ (k a S') Q) ∨ ∃ x S', m S = .exc x S' := by
  rw [bind_run] at h
  cases e : m S with
  | ok a S' => rw [e] at h; exact .inl ⟨a, S', rfl, h⟩
  | exc x S' => exact .inr ⟨x, S', rfl⟩
  | stk => rw [e] at h; exact h.elim
theorem Post.okB {σ : L2.St} {H : Hp} {μ : List Addr} {S : Store} {k : Bool} {Q : VK} (h : Post p RB W σ H μ (.ok k S) (fun b H' => Q (.bl b) H')) (r : RepS p μ H S) : Q (.bl k) H := h k H μ (Ext.refl _) (List.prefix_refl _) r rfl
theorem eqM_ok {a b : D} {S S' : Store} {k : Bool} (h : eqM a b S = .ok k S') : S' = S ∧ ((lenDiff S a b = true ∧ k = false) ∨ ∃ x y, toPy S 60 a = some x ∧ toPy S 60 b = some y ∧ k = PyData.eqv x y) := by
  unfold eqM eqB at h
  split at h
  · rename_i c
    cases h
    exact ⟨rfl, .inl ⟨c, rfl⟩⟩
  · split at h
    · rename_i k' e
      cases h
      split at e
      · rename_i x y e1 e2
        cases e
        exact ⟨rfl, .inr ⟨x, y, e1, e2, rfl⟩⟩
      · cases e
    · cases h
theorem eqM_nox {a b : D} {S S' : Store} {z : Exc} : eqM a b S ≠ .exc z S' := fun h => by
  unfold eqM at h
  split at h
  · cases h
  · split at h <;> cases h
theorem lenDiff_inv {p : Pm} {μ : List Addr} {H : Hp} {S : Store} (R : RepS p μ H S) {a b : D} {x y : V} (vx : RV p μ H a x) (vy : RV p μ H b y) (h : lenDiff S a b = true) : ∃ l q xs ys, x = .ref l ∧ y = .ref q ∧ H l = some (.lst xs) ∧ H q = some (.lst ys) ∧ xs.length ≠ ys.length := by
  unfold lenDiff at h
  split at h
  · split at h
    · rename_i xs ys e1 e2
      obtain ⟨l, vs, rfl, _, hl, r1⟩ := R.lst e1 vx
      obtain ⟨q, ws, rfl, _, hq, r2⟩ := R.lst e2 vy
      exact ⟨l, q, vs, ws, rfl, rfl, hl, hq, by rw [r1.len, r2.len]; simpa using h⟩
    · cases h
  · cases h
theorem lens_ne {X : Cx} {pins : List (Addr × Obj)} {σ : L2.St} {H : Hp} {s : Shared} {l q : Addr} {xs ys : List V} (I : Inv X pins σ H s) (hl : H l = some (.lst xs)) (hq : H q = some (.lst ys)) (ne : xs.length ≠ ys.length) :
    ∃ its its2 : Array Value, s.heap.IsList l its ∧ s.heap.IsList q its2 ∧ (its.size != its2.size) = true := by
  obtain ⟨_, its, n, _, h1, e⟩ := I.lstM hl
  obtain ⟨_, its2, n2, _, h2, e2⟩ := I.lstM hq
  refine ⟨its.toArray, its2.toArray, ⟨_, e, rfl, n, rfl⟩, ⟨_, e2, rfl, n2, rfl⟩, ?_⟩
  rw [List.size_toArray, List.size_toArray, ← h1, ← h2]
  simpa using ne
theorem eq_ok (g : Gd p X) : OpR X (compareOp .Eq) (r2B p W eqM) := by
  intro pins s σ' H x y v u Q I rx ry h
  obtain ⟨σ, μ, S, dx, dy, R, vx, vy, h⟩ := h
  have hK := g.K
  cases e : eqM dx dy S with
  | stk => rw [e] at h; exact h.elim
  | exc z S' => exact absurd e eqM_nox
  | ok k S' =>
    rw [e] at h
    obtain ⟨rfl, ⟨ld, rfl⟩ | ⟨a, b, e1, e2, rfl⟩⟩ := eqM_ok e
    · obtain ⟨l, q, xs, ys, rfl, rfl, h1, h2, ne⟩ := lenDiff_inv R vx vy ld
      cases rx; cases ry
      obtain ⟨its, its2, i1, i2, i3⟩ := lens_ne I h1 h2 ne
      exact SeqAt.RcAt.lists_lengths i1 i2 i3 (by have := g.room.units; omega) X.prog X.w X.xe _ ⟨.bl false, H, I, rfl, Post.okB h R⟩
    · obtain ⟨a1, a2, a3⟩ := dp_of R 60 dx x a vx e1
      obtain ⟨b1, b2, b3⟩ := dp_of R 60 dy y b vy e2
      exact op_eqD g.room.units pins s σ' H x y v u Q I rx ry ⟨a, b, hK ▸ a1, hK ▸ b1, shaped_of a2 a3, shaped_of b2 b3, Post.okB h R⟩
theorem ne_ok (g : Gd p X) : OpR X (compareOp .NotEq) (r2B p W fun a b => do let k ← eqM a b; pure (!k)) := by
  intro pins s σ' H x y v u Q I rx ry h
  obtain ⟨σ, μ, S, dx, dy, R, vx, vy, h⟩ := h
  have hK := g.K
  rcases bd h with ⟨k, S', e, h⟩ | ⟨z, S', e⟩
  · obtain ⟨rfl, ⟨ld, rfl⟩ | ⟨a, b, e1, e2, rfl⟩⟩ := eqM_ok e
    · obtain ⟨l, q, xs, ys, rfl, rfl, h1, h2, ne⟩ := lenDiff_inv R vx vy ld
      cases rx; cases ry
      obtain ⟨its, its2, i1, i2, i3⟩ := lens_ne I h1 h2 ne
      exact SeqAt.RcNeAt.lists_lengths i1 i2 i3 (by have := g.room.units; omega) X.prog X.w X.xe _ ⟨.bl true, H, I, rfl, Post.okB h R⟩
    · obtain ⟨a1, a2, a3⟩ := dp_of R 60 dx x a vx e1
      obtain ⟨b1, b2, b3⟩ := dp_of R 60 dy y b vy e2
      exact op_neD g.room.units pins s σ' H x y v u Q I rx ry ⟨a, b, hK ▸ a1, hK ▸ b1, shaped_of a2 a3, shaped_of b2 b3, Post.okB h R⟩
  · exact absurd e eqM_nox
/-! order -/
theorem lt_ok : OpR X (compareOp .Lt) (r2B p W (cmpB .lt)) := by
  intro pins s σ' H x y v u Q I rx ry h
  obtain ⟨σ, μ, S, dx, dy, R, vx, vy, h⟩ := h
  cases dx <;> cases dy <;> first | exact h.elim | skip
  · cases vx; cases vy
    exact op_lt pins s σ' H _ _ v u Q I rx ry ⟨_, _, rfl, rfl, Post.okB h R⟩
  · cases vx; cases vy
    exact op_lt_str pins s σ' H _ _ v u Q I rx ry ⟨_, _, rfl, rfl, Post.okB h R⟩
theorem le_ok : OpR X (compareOp .LtE) (r2B p W (cmpB .le)) := by
  intro pins s σ' H x y v u Q I rx ry h
  obtain ⟨σ, μ, S, dx, dy, R, vx, vy, h⟩ := h
  cases dx <;> cases dy <;> first | exact h.elim | skip
  · cases vx; cases vy
    exact op_le pins s σ' H _ _ v u Q I rx ry ⟨_, _, rfl, rfl, Post.okB h R⟩
theorem gt_ok : OpR X (compareOp .Gt) (r2B p W (cmpB .gt)) := by
  intro pins s σ' H x y v u Q I rx ry h
  obtain ⟨σ, μ, S, dx, dy, R, vx, vy, h⟩ := h
  cases dx <;> cases dy <;> first | exact h.elim | skip
  · cases vx; cases vy
    exact op_gt pins s σ' H _ _ v u Q I rx ry ⟨_, _, rfl, rfl, Post.okB h R⟩
theorem ge_ok : OpR X (compareOp .GtE) (r2B p W (cmpB .ge)) := by
  intro pins s σ' H x y v u Q I rx ry h
  obtain ⟨σ, μ, S, dx, dy, R, vx, vy, h⟩ := h
  cases dx <;> cases dy <;> first | exact h.elim | skip
  · cases vx; cases vy
    exact op_ge pins s σ' H _ _ v u Q I rx ry ⟨_, _, rfl, rfl, Post.okB h R⟩
theorem ref_ne_non {μ : List Addr} {H : Hp} {r : Nat} {v : V} (h : RV p μ H (.ref r) v) : v ≠ .non := by
  obtain ⟨a, rfl, _⟩ := h
  exact fun z => by cases z
theorem tup_ne_non {μ : List Addr} {H : Hp} {r : List D} {v : V} (h : RV p μ H (.tup r) v) : v ≠ .non := by
  obtain ⟨a, vs, rfl, _⟩ := h
  exact fun z => by cases z
theorem is_ok : OpR X (compareOp .Is) (r2B p W isM) := by
  intro pins s σ' H x y v u Q I rx ry h
  obtain ⟨σ, μ, S, dx, dy, R, vx, vy, h⟩ := h
  cases dx <;> cases dy <;> first | exact h.elim | skip
  · cases vx; cases vy
    exact op_isN pins s σ' H _ _ v u Q I rx ry ⟨rfl, Post.okB h R⟩
  · cases vx; cases vy
    exact op_isN pins s σ' H _ _ v u Q I rx ry ⟨rfl, Post.okB h R⟩
  · cases vx; cases vy
    exact op_isBl pins s σ' H _ _ v u Q I rx ry ⟨_, _, rfl, rfl, Post.okB h R⟩
  · cases vx; cases vy
    exact op_isN pins s σ' H _ _ v u Q I rx ry ⟨rfl, Post.okB h R⟩
  · cases vx; cases vy
    exact op_isN pins s σ' H _ _ v u Q I rx ry ⟨rfl, Post.okB h R⟩
  · cases vy
    exact op_isN pins s σ' H _ _ v u Q I rx ry ⟨rfl, by rw [decide_eq_false (tup_ne_non vx)]; exact Post.okB h R⟩
  · cases vy
    exact op_isN pins s σ' H _ _ v u Q I rx ry ⟨rfl, by rw [decide_eq_false (ref_ne_non vx)]; exact Post.okB h R⟩
theorem isnot_ok : OpR X (compareOp .IsNot) (r2B p W fun a b => do let k ← isM a b; pure (!k)) := by
  intro pins s σ' H x y v u Q I rx ry h
  obtain ⟨σ, μ, S, dx, dy, R, vx, vy, h⟩ := h
  cases dx <;> cases dy <;> first | exact h.elim | skip
  · cases vx; cases vy
    exact op_notN pins s σ' H _ _ v u Q I rx ry ⟨rfl, Post.okB h R⟩
  · cases vx; cases vy
    exact op_notN pins s σ' H _ _ v u Q I rx ry ⟨rfl, Post.okB h R⟩
  · cases vx; cases vy
    exact op_notBl pins s σ' H _ _ v u Q I rx ry ⟨_, _, rfl, rfl, Post.okB h R⟩
  · cases vx; cases vy
    exact op_notN pins s σ' H _ _ v u Q I rx ry ⟨rfl, Post.okB h R⟩
  · cases vx; cases vy
    exact op_notN pins s σ' H _ _ v u Q I rx ry ⟨rfl, Post.okB h R⟩
  · cases vy
    exact op_notN pins s σ' H _ _ v u Q I rx ry ⟨rfl, by rw [decide_eq_false (tup_ne_non vx)]; exact Post.okB h R⟩
  · cases vy
    exact op_notN pins s σ' H _ _ v u Q I rx ry ⟨rfl, by rw [decide_eq_false (ref_ne_non vx)]; exact Post.okB h R⟩
/-! in -/
theorem flat_of {μ : List Addr} {H : Hp} : ∀ {d : D} {v : V}, RV p μ H d v → flatD d = true → v = toV d ∧ flatV v = true
  | .non, _, h, _ => by cases h; exact ⟨rfl, rfl⟩
  | .bl _, _, h, _ => by cases h; exact ⟨rfl, rfl⟩
  | .int _, _, h, _ => by cases h; exact ⟨rfl, rfl⟩
  | .str _, _, h, _ => by cases h; exact ⟨rfl, rfl⟩
  | .tup _, _, _, e => by cases e
  | .ref _, _, _, e => by cases e
  | .fn _, _, _, e => by cases e
  | .clo _ _, _, _, e => by cases e
  | .fz _, _, _, e => by cases e
theorem flats_of {μ : List Addr} {H : Hp} : ∀ {ds : List D} {vs : List V}, RVs p μ H ds vs → ds.all flatD = true → vs = ds.map toV ∧ vs.all flatV = true
  | [], _, h, _ => by
    have h' : _ = [] := h
    rw [h']; exact ⟨rfl, rfl⟩
  | d :: ds, _, ⟨v, r, h1, h2, h3⟩, e => by
    rw [List.all_cons, Bool.and_eq_true] at e
    obtain ⟨a1, a2⟩ := flat_of h2 e.1
    obtain ⟨b1, b2⟩ := flats_of h3 e.2
    rw [h1, List.all_cons, a2, b2, a1, b1]
    exact ⟨rfl, rfl⟩
theorem in_gen (g : Gd p X) (neg : Bool) : OpR X (compareOp (if neg then .NotIn else .In)) (r2B p W fun a b => do let k ← inM a b; pure (if neg then !k else k)) := by
  intro pins s σ' H x y v u Q I rx ry h
  obtain ⟨σ, μ, S, dx, dy, R, vx, vy, h⟩ := h
  have hK := g.K
  have seq : ∀ (xs : List D) (vs : List V) (b : Addr), RVs p μ H xs vs → y = .ref b → (SqL X.K H b vs ∨ SqT X.K H b vs) → flatD dx = true → xs.all flatD = true → Q (.bl (if neg then !inFlat dx xs else inFlat dx xs)) H →
      wpAny (model X.prog X.w) X.A (compareOp (if neg then .NotIn else .In) v u) (EP X pins σ' Q) X.xe s := by
    intro xs vs b r e hs f1 f2 q
    obtain ⟨a1, a2⟩ := flat_of vx f1
    obtain ⟨b1, b2⟩ := flats_of r f2
    have ei : inV x vs = inFlat dx xs := by unfold inV inFlat; rw [a1, b1]
    cases neg with
    | true => exact op_notIn_seq pins s σ' H x y v u Q I rx ry ⟨b, vs, e, hs, a2, b2, by rw [ei]; exact q⟩
    | false => exact op_in_seq pins s σ' H x y v u Q I rx ry ⟨b, vs, e, hs, a2, b2, by rw [ei]; exact q⟩
  cases dy with
  | str z =>
    cases dx <;> first | exact h.elim | skip
    cases vx; cases vy
    cases neg with
    | true => exact op_notIn_str pins s σ' H _ _ v u Q I rx ry ⟨_, _, rfl, rfl, Post.okB h R⟩
    | false => exact op_in_str pins s σ' H _ _ v u Q I rx ry ⟨_, _, rfl, rfl, Post.okB h R⟩
  | tup xs =>
    have h' : Post p RB W σ H μ ((cond (flatD dx && xs.all flatD) (pure (inFlat dx xs)) >>= fun k => (pure (if neg then !k else k) : M Bool)) S) (fun b H' => Q (.bl b) H') := by
      cases dx <;> exact h
    obtain ⟨a, vs, e, sa, la, ra⟩ := vy
    rcases bd h' with ⟨k, S', e1, h2⟩ | ⟨z, S', e1⟩
    · unfold cond at e1
      split at e1
      · rename_i c
        cases e1
        rw [Bool.and_eq_true] at c
        exact seq xs vs a ra e (.inr (hK ▸ sa)) c.1 c.2 (Post.okB h2 R)
      · cases e1
    · unfold cond at e1; split at e1 <;> cases e1
  | ref r =>
    have h' : Post p RB W σ H μ (((getL r >>= fun ys => cond (flatD dx && ys.all flatD) (pure (inFlat dx ys))) >>= fun k => (pure (if neg then !k else k) : M Bool)) S) (fun b H' => Q (.bl b) H') := by
      cases dx <;> exact h
    rw [bind_assocM] at h'
    obtain ⟨ys, e0, h'⟩ := Post.getL h'
    obtain ⟨a, vs, e, _, ha, ra⟩ := R.lst e0 vy
    rcases bd h' with ⟨k, S', e1, h2⟩ | ⟨z, S', e1⟩
    · unfold cond at e1
      split at e1
      · rename_i c
        cases e1
        rw [Bool.and_eq_true] at c
        exact seq ys vs a ra e (.inl (SqL.of ha)) c.1 c.2 (Post.okB h2 R)
      · cases e1
    · unfold cond at e1; split at e1 <;> cases e1
  | _ => cases dx <;> exact h.elim
/-! truth -/
theorem truth_ref {r : Nat} {S : Store} : truth (.ref r) S = (match S[r]? with
    | some (.lst xs) => .ok (!xs.isEmpty) S
    | some (.dct kvs) => .ok (!kvs.isEmpty) S
    | _ => .stk) := rfl
theorem truth_ok (hK : X.K = p.K) : TruR X (fun x H Q => ∃ σ μ S dx, RepS p μ H S ∧ RV p μ H dx x ∧ Post p RB W σ H μ (truth dx S) Q) := by
  intro pins s σ' H x v Q I rx h
  obtain ⟨σ, μ, S, dx, R, vx, h⟩ := h
  have fin : ∀ k, TruV X.K x H k → Q k H → wpAny (model X.prog X.w) X.A (truthy v) (TP X pins σ' Q) X.xe s := fun k t q => tru_ok pins s σ' H x v Q I rx ⟨k, t, q⟩
  cases dx with
  | non => cases vx; exact fin false rfl (Post.ok h R rfl)
  | bl b => cases vx; exact fin b rfl (Post.ok h R rfl)
  | int i => cases vx; exact fin (i != 0) rfl (Post.ok h R rfl)
  | str y =>
    cases vx
    obtain ⟨h1, h2⟩ := Post.fits h
    refine fin (y.length != 0) ⟨h1, ?_⟩ (Post.ok h2 R rfl)
    cases e : y.length with
    | zero => rfl
    | succ n => simp; omega
  | tup xs =>
    obtain ⟨a, vs, rfl, sa, la, ra⟩ := vx
    refine fin (!xs.isEmpty) (.inr (.inl ⟨vs, hK ▸ sa, ?_⟩)) (Post.ok h R rfl)
    have := ra.len
    cases xs <;> cases vs <;> simp_all
  | ref r =>
    rw [truth_ref] at h
    split at h
    · rename_i xs e
      obtain ⟨a, vs, rfl, _, ha, ra⟩ := R.lst e vx
      refine fin (!xs.isEmpty) (.inl ⟨vs, SqL.of ha, ?_⟩) (Post.ok h R rfl)
      have := ra.len
      cases xs <;> cases vs <;> simp_all
    · rename_i kvs e
      obtain ⟨a, rfl, m⟩ := vx
      obtain ⟨r1, r2⟩ := R.ob r _ a e m
      subst r1
      exact fin false (.inr (.inr ⟨[], r2, rfl⟩)) (Post.ok h R rfl)
    · exact h.elim
  | fn f => exact h.elim
  | clo a b => exact h.elim
  | fz a => exact h.elim
/-! subscripts -/
theorem atI_rep {μ : List Addr} {H : Hp} {ds : List D} {vs : List V} {i : Int} {d : D} (r : RVs p μ H ds vs) (h : atI ds i = some d) : ∃ v, atI vs i = some v ∧ RV p μ H d v := by
  unfold atI at h ⊢
  rw [r.len]
  cases e : ixN ds.length i with
  | none => rw [e] at h; cases h
  | some j =>
    rw [e] at h
    obtain ⟨v, h1, h2⟩ := r.get (show ds[j]? = some d from h)
    exact ⟨v, h1, h2⟩
theorem ix_ok (hK : X.K = p.K) : IxR X (r2 p W ixM) := by
  intro va sl pins s σ' H x y v u Q I rx ry h hs
  obtain ⟨σ, μ, S, dx, dy, R, vx, vy, h⟩ := h
  cases dy <;> cases dx <;> first | exact h.elim | skip
  · rename_i i z
    cases vx; cases vy
    obtain ⟨h1, h⟩ := Post.fits h
    cases e : atI z.cps.toList i with
    | none => simp only [e] at h; exact h.elim
    | some c =>
      simp only [e] at h
      exact ix_str va sl pins s σ' H _ _ v u Q I rx ry ⟨z, i, c, rfl, rfl, h1, e, Post.ok h R rfl⟩ hs
  · rename_i i xs
    cases vy
    obtain ⟨a, vs, rfl, sa, la, ra⟩ := vx
    cases e : atI xs i with
    | none => simp only [ixM, e] at h; exact h.elim
    | some c =>
      simp only [ixM, e] at h
      obtain ⟨w, e1, e2⟩ := atI_rep ra e
      exact ix_tup va sl pins s σ' H _ _ v u Q I rx ry ⟨a, vs, i, w, rfl, rfl, hK ▸ sa, e1, Post.ok h R e2⟩ hs
  · rename_i i r
    cases vy
    obtain ⟨xs, e0, h⟩ := Post.getL h
    obtain ⟨a, vs, rfl, _, ha, ra⟩ := R.lst e0 vx
    cases e : atI xs i with
    | none => simp only [e] at h; exact h.elim
    | some c =>
      simp only [e] at h
      obtain ⟨w, e1, e2⟩ := atI_rep ra e
      exact ix_list va sl pins s σ' H _ _ v u Q I rx ry ⟨a, vs, i, w, rfl, rfl, SqL.of ha, e1, Post.ok h R e2⟩ hs
  · rename_i i xs
    cases vy
    obtain ⟨a, vs, rfl, sa, la, ra⟩ := vx
    cases e : atI xs i with
    | none => simp only [ixM, e] at h; exact h.elim
    | some c =>
      simp only [ixM, e] at h
      obtain ⟨w, e1, e2⟩ := atI_rep ra e
      exact ix_list va sl pins s σ' H _ _ v u Q I rx ry ⟨a, vs, i, w, rfl, rfl, hK ▸ sa.sq, e1, Post.ok h R e2⟩ hs
theorem cutV_all {xs : List V} {lo hi : Option Int} (h : HT.sIx xs.length 0 lo = 0 ∧ HT.sIx xs.length xs.length hi = xs.length) : cutV xs lo hi = xs := by
  unfold cutV
  rw [h.1, h.2]
  simp
theorem cutD_len (xs : List D) (lo hi : Option Int) : (cutD xs lo hi).length ≤ xs.length := by
  unfold cutD
  rw [List.length_take, List.length_drop]
  omega
theorem sl_ok (hK : X.K = p.K) : SlR X (fun x lo hi H Q => ∃ σ μ S dx, RepS p μ H S ∧ RV p μ H dx x ∧ Post p (RV p) W σ H μ (slM dx lo hi S) Q) := by
  intro pins s σ' H x v vl vu lo hi sl Q I rx hs pl pu h
  obtain ⟨σ, μ, S, dx, R, vx, h⟩ := h
  cases dx <;> first | exact h.elim | skip
  · rename_i xs
    obtain ⟨a, vs, rfl, sa, la, ra⟩ := vx
    have rc := ra.cut lo hi
    have hl : (cutD xs lo hi).length ≤ sizeLine := Nat.le_trans (cutD_len xs lo hi) la
    refine sl_tupA pins s σ' H _ v vl vu lo hi sl Q I rx hs pl pu ⟨a, vs, rfl, hK ▸ sa, fun e => ?_, fun e q hq => ?_⟩
    · rw [cutV_all e] at rc
      exact Post.ok h R ⟨a, vs, rfl, sa, hl, rc⟩
    · exact h (.ref q) _ μ (Ext.new hq) (List.prefix_refl _) (R.tup hq) ⟨q, _, rfl, SqT.of upd_same, hl, RVsc.ext (Ext.new hq) (List.prefix_refl _) _ _ rc⟩
  · rename_i r
    obtain ⟨xs, e0, h⟩ := Post.getL h
    obtain ⟨a, vs, rfl, _, ha, ra⟩ := R.lst e0 vx
    exact sl_list pins s σ' H _ v vl vu lo hi sl Q I rx hs pl pu ⟨a, vs, rfl, SqL.of ha, Post.newO R (ra.cut lo hi) h⟩
  · rename_i xs
    obtain ⟨a, vs, rfl, sa, la, ra⟩ := vx
    exact sl_list pins s σ' H _ v vl vu lo hi sl Q I rx hs pl pu ⟨a, vs, rfl, hK ▸ sa.sq, Post.newO R (ra.cut lo hi) h⟩
/-! stores -/
theorem set_ok : PSet X (fun o i v H Q => ∃ (σ : L2.St) (μ : List Addr) (S : Store) (do_ di dv : D), RepS p μ H S ∧ RV p μ H do_ o ∧ RV p μ H di i ∧ RV p μ H dv v ∧ Post p (fun _ _ (_ : Unit) (_ : Unit) => True) W σ H μ (setM do_ di dv S) (fun _ H' => Q H')) := by
  intro pins s σ' H o i v ov iv u Q I ro ri rv h
  obtain ⟨σ, μ, S, do_, di, dv, R, vo, vi, vv, h⟩ := h
  cases do_ <;> cases di <;> first | exact h.elim | skip
  rename_i r k
  cases vi
  obtain ⟨xs, e0, h⟩ := Post.getL h
  obtain ⟨a, vs, rfl, m, ha, ra⟩ := R.lst e0 vo
  cases e : ixN xs.length k with
  | none => simp only [e] at h; exact h.elim
  | some j =>
    simp only [e] at h
    refine set_list pins s σ' H _ _ v ov iv u Q I ro ri rv ⟨a, vs, k, j, rfl, rfl, ha, by rw [ra.len]; exact e, ?_⟩
    have rr : RVs p μ H (xs.set j dv) (vs.set j v) := ra.set j vv
    have P := R.put (o := .lst (vs.set j v)) (ob := .lst (xs.set j dv)) e0 m ⟨_, upd_same, RVsc.ext (Ext.set ha id) (List.prefix_refl _) _ _ rr⟩
    exact h () _ μ P.2 (List.prefix_refl _) P.1 trivial
/-! types -/
def tyVal : Ty → Value
  | .int => .type "int" | .bool => .type "bool" | .str => .type "str" | .tuple => .type "tuple" | .list => .type "list" | .dict => .type "dict"
def tyName : Ty → String
  | .int => "int" | .bool => "bool" | .str => "str" | .tuple => "tuple" | .list => "list" | .dict => "dict"
theorem kit_ty (K : PySem.W.Frag) : ∀ t u : Ty, PySem.W.kitOne K (tyVal t) (tyVal u) = some (isTy t u) := by
  intro t u
  cases t <;> cases u <;> kernel_rfl
theorem kit_non (K : PySem.W.Frag) : ∀ u : Ty, PySem.W.kitOne K (.type "NoneType") (tyVal u) = some false := by
  intro u
  cases u <;> kernel_rfl
end
end Pin

set_option Elab.async false
set_option linter.all false
set_option maxRecDepth 100000
set_option maxHeartbeats 1000000
/-! PinE: builtins and methods by values; expressions. -/
namespace Pin
open PySem PySem.Spec PyProof.Rows L2
section
variable {p : Pm} {X : Cx} {W : Wish}
def rC (p : Pm) (W : Wish) (f : List D → M D) : List V → Hp → VK → Prop := fun xs H Q => ∃ σ μ S ds, RepS p μ H S ∧ RVs p μ H ds xs ∧ Post p (RV p) W σ H μ (f ds S) Q
theorem rvs1 {μ : List Addr} {H : Hp} {d : D} {xs : List V} (h : RVs p μ H [d] xs) : ∃ v, xs = [v] ∧ RV p μ H d v := by
  obtain ⟨v, r, h1, h2, h3⟩ := h
  have h3' : r = [] := h3
  subst h3'
  exact ⟨v, h1, h2⟩
theorem rvs2 {μ : List Addr} {H : Hp} {d e : D} {xs : List V} (h : RVs p μ H [d, e] xs) : ∃ v w, xs = [v, w] ∧ RV p μ H d v ∧ RV p μ H e w := by
  obtain ⟨v, r, h1, h2, h3⟩ := h
  obtain ⟨w, rfl, h4⟩ := rvs1 h3
  exact ⟨v, w, h1, h2, h4⟩
theorem m1_inv {σ : L2.St} {H : Hp} {μ : List Addr} {S : Store} {Q : VK} {f : D → M D} {ds : List D} {xs : List V} (rv : RVs p μ H ds xs) (h : Post p (RV p) W σ H μ (m1 f ds S) Q) : ∃ d v, ds = [d] ∧ xs = [v] ∧ RV p μ H d v ∧ Post p (RV p) W σ H μ (f d S) Q := by
  match ds, rv, h with
  | [d], rv, h => obtain ⟨v, e, r⟩ := rvs1 rv; exact ⟨d, v, rfl, e, r, h⟩
  | [], _, h => exact False.elim h
  | _ :: _ :: _, _, h => exact False.elim h
theorem m2_inv {σ : L2.St} {H : Hp} {μ : List Addr} {S : Store} {Q : VK} {f : D → D → M D} {ds : List D} {xs : List V} (rv : RVs p μ H ds xs) (h : Post p (RV p) W σ H μ (m2 f ds S) Q) : ∃ d e v w, ds = [d, e] ∧ xs = [v, w] ∧ RV p μ H d v ∧ RV p μ H e w ∧ Post p (RV p) W σ H μ (f d e S) Q := by
  match ds, rv, h with
  | [d, e], rv, h => obtain ⟨v, w, e', r, q⟩ := rvs2 rv; exact ⟨d, e, v, w, rfl, e', r, q, h⟩
  | [], _, h => exact False.elim h
  | [_], _, h => exact False.elim h
  | _ :: _ :: _ :: _, _, h => exact False.elim h
theorem Post.opt {α β γ : Type} {R : List Addr → Hp → β → γ → Prop} {σ : L2.St} {H : Hp} {μ : List Addr} {S : Store} {Q : γ → Hp → Prop} {o : Option α} {k : α → M β} (h : Post p R W σ H μ (opt o k S) Q) : ∃ a, o = some a ∧ Post p R W σ H μ (k a S) Q := by
  cases o with
  | none => exact False.elim h
  | some a => exact ⟨a, rfl, h⟩
theorem len_ok (hK : X.K = p.K) : CallR X (.builtin "len") (rC p W (biM .len)) := by
  intro pins s σ' H xs us Q I r h
  obtain ⟨σ, μ, S, ds, R, rv, h⟩ := h
  obtain ⟨d, v, rfl, rfl, hv, h⟩ := m1_inv rv h
  cases d <;> first | exact False.elim h | skip
  · cases hv
    obtain ⟨h1, h2⟩ := Post.fits h
    exact call_len_str pins s σ' H _ us Q I r ⟨_, rfl, h1, Post.ok h2 R rfl⟩
  · obtain ⟨a, vs, rfl, sa, la, ra⟩ := hv
    have e := ra.len
    exact call_len_seq pins s σ' H _ us Q I r ⟨a, vs, rfl, .inr (hK ▸ sa), by rw [e]; exact Post.ok h R rfl⟩
  · obtain ⟨ys, e0, h⟩ := Post.getL h
    obtain ⟨a, vs, rfl, _, ha, ra⟩ := R.lst e0 hv
    have e := ra.len
    exact call_len_seq pins s σ' H _ us Q I r ⟨a, vs, rfl, .inl (SqL.of ha), by rw [e]; exact Post.ok h R rfl⟩
  · obtain ⟨a, vs, rfl, sa, la, ra⟩ := hv
    have e := ra.len
    exact call_len_seq pins s σ' H _ us Q I r ⟨a, vs, rfl, .inl (hK ▸ sa.sq), by rw [e]; exact Post.ok h R rfl⟩
theorem abs_ok : CallR X (.builtin "abs") (rC p W (biM .abs)) := by
  intro pins s σ' H xs us Q I r h
  obtain ⟨σ, μ, S, ds, R, rv, h⟩ := h
  obtain ⟨d, v, rfl, rfl, hv, h⟩ := m1_inv rv h
  cases d <;> first | exact False.elim h | skip
  cases hv
  exact call_abs pins s σ' H _ us Q I r ⟨_, rfl, Post.ok h R rfl⟩
theorem int_ok : CallR X (.type "int") (rC p W (biM .int)) := by
  intro pins s σ' H xs us Q I r h
  obtain ⟨σ, μ, S, ds, R, rv, h⟩ := h
  obtain ⟨d, v, rfl, rfl, hv, h⟩ := m1_inv rv h
  cases d <;> first | exact False.elim h | skip
  · cases hv
    exact call_int1 pins s σ' H _ us Q I r (.inr ⟨_, rfl, Post.ok h R rfl⟩)
  · cases hv
    exact call_int1 pins s σ' H _ us Q I r (.inl ⟨_, rfl, Post.ok h R rfl⟩)
theorem max_ok (hc : X.calm = true) : CallR X (.builtin "max") (rC p W (biM .max)) := by
  intro pins s σ' H xs us Q I r h
  obtain ⟨σ, μ, S, ds, R, rv, h⟩ := h
  obtain ⟨d, e, v, w, rfl, rfl, hv, hw, h⟩ := m2_inv rv h
  cases d <;> cases e <;> first | exact False.elim h | skip
  cases hv; cases hw
  exact call_max2 hc pins s σ' H _ us Q I r ⟨_, _, rfl, Post.ok h R rfl⟩
theorem min_ok (hc : X.calm = true) : CallR X (.builtin "min") (rC p W (biM .min)) := by
  intro pins s σ' H xs us Q I r h
  obtain ⟨σ, μ, S, ds, R, rv, h⟩ := h
  obtain ⟨d, e, v, w, rfl, rfl, hv, hw, h⟩ := m2_inv rv h
  cases d <;> cases e <;> first | exact False.elim h | skip
  cases hv; cases hw
  exact call_min2 hc pins s σ' H _ us Q I r ⟨_, _, rfl, Post.ok h R rfl⟩
theorem tuple_ok (hK : X.K = p.K) : CallR X (.type "tuple") (rC p W (biM .tuple)) := by
  intro pins s σ' H xs us Q I r h
  obtain ⟨σ, μ, S, ds, R, rv, h⟩ := h
  obtain ⟨d, v, rfl, rfl, hv, h⟩ := m1_inv rv h
  cases d <;> first | exact False.elim h | skip
  · have hv' := hv
    obtain ⟨a, vs, rfl, sa, la, ra⟩ := hv
    exact call_tuple_of pins s σ' H _ us Q I r ⟨a, vs, rfl, .inr ⟨hK ▸ sa, Post.ok h R hv'⟩⟩
  · obtain ⟨ys, e0, h⟩ := Post.getL h
    obtain ⟨a, vs, rfl, _, ha, ra⟩ := R.lst e0 hv
    exact call_tuple_of pins s σ' H _ us Q I r ⟨a, vs, rfl, .inl ⟨SqL.of ha, (Post.tupM R ra h).2⟩⟩
theorem list_ok (hK : X.K = p.K) : CallR X (.type "list") (rC p W (biM .list)) := by
  intro pins s σ' H xs us Q I r h
  obtain ⟨σ, μ, S, ds, R, rv, h⟩ := h
  obtain ⟨d, v, rfl, rfl, hv, h⟩ := m1_inv rv h
  cases d <;> first | exact False.elim h | skip
  · obtain ⟨a, vs, rfl, sa, la, ra⟩ := hv
    exact call_list_of pins s σ' H _ us Q I r ⟨a, vs, rfl, .inr (hK ▸ sa), (Post.lstM R ra h).2⟩
  · obtain ⟨ys, e0, h⟩ := Post.getL h
    obtain ⟨a, vs, rfl, _, ha, ra⟩ := R.lst e0 hv
    exact call_list_of pins s σ' H _ us Q I r ⟨a, vs, rfl, .inl (SqL.of ha), (Post.lstM R ra h).2⟩
theorem allBl_inv {μ : List Addr} {H : Hp} : ∀ {ds : List D} {vs : List V} {bs : List Bool}, RVs p μ H ds vs → allBl ds = some bs → vs = bs.map V.bl
  | [], _, _, r, e => by cases e; exact r
  | .bl b :: ds, _, _, ⟨v, w, h1, h2, h3⟩, e => by
    simp only [allBl, Option.map_eq_some_iff] at e
    obtain ⟨cs, e1, rfl⟩ := e
    cases h2
    rw [h1, allBl_inv h3 e1]; rfl
  | .non :: _, _, _, _, e => by cases e
  | .int _ :: _, _, _, _, e => by cases e
  | .str _ :: _, _, _, _, e => by cases e
  | .tup _ :: _, _, _, _, e => by cases e
  | .ref _ :: _, _, _, _, e => by cases e
  | .fn _ :: _, _, _, _, e => by cases e
  | .clo _ _ :: _, _, _, _, e => by cases e
  | .fz _ :: _, _, _, _, e => by cases e
theorem allInt_inv {μ : List Addr} {H : Hp} : ∀ {ds : List D} {vs : List V} {bs : List Int}, RVs p μ H ds vs → allInt ds = some bs → vs = bs.map V.int
  | [], _, _, r, e => by cases e; exact r
  | .int b :: ds, _, _, ⟨v, w, h1, h2, h3⟩, e => by
    simp only [allInt, Option.map_eq_some_iff] at e
    obtain ⟨cs, e1, rfl⟩ := e
    cases h2
    rw [h1, allInt_inv h3 e1]; rfl
  | .non :: _, _, _, _, e => by cases e
  | .bl _ :: _, _, _, _, e => by cases e
  | .str _ :: _, _, _, _, e => by cases e
  | .tup _ :: _, _, _, _, e => by cases e
  | .ref _ :: _, _, _, _, e => by cases e
  | .fn _ :: _, _, _, _, e => by cases e
  | .clo _ _ :: _, _, _, _, e => by cases e
  | .fz _ :: _, _, _, _, e => by cases e
theorem all_ok (hc : X.calm = true) : CallR X (.builtin "all") (rC p W (biM .all)) := by
  intro pins s σ' H xs us Q I r h
  obtain ⟨σ, μ, S, ds, R, rv, h⟩ := h
  obtain ⟨d, v, rfl, rfl, hv, h⟩ := m1_inv rv h
  cases d <;> first | exact False.elim h | skip
  obtain ⟨ys, e0, h⟩ := Post.getL h
  obtain ⟨bs, e1, h⟩ := Post.opt h
  obtain ⟨a, vs, rfl, _, ha, ra⟩ := R.lst e0 hv
  exact cr_all hc pins s σ' H _ us Q I r ⟨a, bs, rfl, by rw [← allBl_inv ra e1]; exact SqL.of ha, Post.ok h R rfl⟩
theorem any_ok (hc : X.calm = true) : CallR X (.builtin "any") (rC p W (biM .any)) := by
  intro pins s σ' H xs us Q I r h
  obtain ⟨σ, μ, S, ds, R, rv, h⟩ := h
  obtain ⟨d, v, rfl, rfl, hv, h⟩ := m1_inv rv h
  cases d <;> first | exact False.elim h | skip
  obtain ⟨ys, e0, h⟩ := Post.getL h
  obtain ⟨bs, e1, h⟩ := Post.opt h
  obtain ⟨a, vs, rfl, _, ha, ra⟩ := R.lst e0 hv
  exact cr_any hc pins s σ' H _ us Q I r ⟨a, bs, rfl, by rw [← allBl_inv ra e1]; exact SqL.of ha, Post.ok h R rfl⟩
theorem sum_ok (hc : X.calm = true) : CallR X (.builtin "sum") (rC p W (biM .sum)) := by
  intro pins s σ' H xs us Q I r h
  obtain ⟨σ, μ, S, ds, R, rv, h⟩ := h
  obtain ⟨d, v, rfl, rfl, hv, h⟩ := m1_inv rv h
  cases d <;> first | exact False.elim h | skip
  obtain ⟨ys, e0, h⟩ := Post.getL h
  obtain ⟨bs, e1, h⟩ := Post.opt h
  obtain ⟨a, vs, rfl, _, ha, ra⟩ := R.lst e0 hv
  exact cr_sum hc pins s σ' H _ us Q I r ⟨a, bs, rfl, by rw [← allInt_inv ra e1]; exact SqL.of ha, Post.ok h R rfl⟩
/-! isinstance -/
theorem isi_ok (hK : X.K = p.K) (t : Ty) : CallR X (.builtin "isinstance") (fun xs H Q => ∃ σ μ S d x, xs = [x, .ty (tyName t)] ∧ RepS p μ H S ∧ RV p μ H d x ∧ Post p RB W σ H μ (isiM d t S) (fun b H' => Q (.bl b) H')) := by
  intro pins s σ' H xs us Q I r h
  obtain ⟨σ, μ, S, d, x, rfl, R, hv, h⟩ := h
  have cl : ClsV (.ty (tyName t)) (tyVal t) := by cases t <;> exact .ty _
  have fin : ∀ u : Ty, TyX X.K H x (tyVal u) → Post p RB W σ H μ (.ok (isTy u t) S) (fun b H' => Q (.bl b) H') → wpAny (model X.prog X.w) X.A (call (.builtin "isinstance") us) (EP X pins σ' Q) X.xe s := fun u ty h =>
    call_isi pins s σ' H _ us Q I r ⟨x, _, tyVal u, tyVal t, isTy u t, rfl, cl, ty, kit_ty _ u t, Post.okB h R⟩
  cases d with
  | non =>
    cases hv
    exact call_isi pins s σ' H _ us Q I r ⟨_, _, .type "NoneType", tyVal t, false, rfl, cl, .base .non, kit_non _ t, Post.okB h R⟩
  | bl b => cases hv; exact fin .bool (.base (.bl b)) h
  | int i => cases hv; exact fin .int (.base (.int i)) h
  | str z => cases hv; exact fin .str (.base (.str z)) h
  | tup ds =>
    obtain ⟨a, vs, rfl, sa, la, ra⟩ := hv
    refine fin .tuple ?_ h
    rcases sa with (sa | ⟨o, sa⟩) | ⟨o, its, n, k1, k2, _⟩
    · exact .base (.tup sa)
    · exact .fTuple sa
    · exact .kTuple (hK ▸ k1) k2
  | ref q =>
    cases e : S[q]? with
    | none =>
      have z : isiM (.ref q) t S = .stk := by unfold isiM tyD; simp only [e]
      rw [z] at h
      exact False.elim h
    | some o =>
      obtain ⟨a, m, ro⟩ := R.addr e
      obtain ⟨a', rfl, m'⟩ := hv
      rw [m] at m'; cases m'
      cases o with
      | lst xs =>
        have z : isiM (.ref q) t S = .ok (isTy .list t) S := by unfold isiM tyD; simp only [e]
        rw [z] at h
        obtain ⟨vs, ha, _⟩ := ro
        exact fin .list (.base (.lst ha)) h
      | dct kvs =>
        have z : isiM (.ref q) t S = .ok (isTy .dict t) S := by unfold isiM tyD; simp only [e]
        rw [z] at h
        exact fin .dict (.base (.dK ro.2)) h
      | cell v => exact ro.elim
  | fn f =>
    have z : isiM (.fn f) t S = .stk := rfl
    rw [z] at h
    exact False.elim h
  | clo a b =>
    have z : isiM (.clo a b) t S = .stk := rfl
    rw [z] at h
    exact False.elim h
  | fz a =>
    have z : isiM (.fz a) t S = .stk := rfl
    rw [z] at h
    exact False.elim h
/-! methods -/
def rM (p : Pm) (W : Wish) (f : D → List D → M D) : V → List V → Hp → VK → Prop := fun x xs H Q => ∃ σ μ S d ds, RepS p μ H S ∧ RV p μ H d x ∧ RVs p μ H ds xs ∧ Post p (RV p) W σ H μ (f d ds S) Q
theorem Post.setO {R : List Addr → Hp → D → V → Prop} {σ : L2.St} {H H1 : Hp} {μ : List Addr} {S : Store} {Q : VK} {r : Nat} {o : Ob} {k : Unit → M D} (h : Post p R W σ H μ ((setO r o >>= k) S) Q) (e : Ext H H1) : Post p R W σ H1 μ (k () (S.set r o)) Q :=
  Post.base (by rw [bind_run] at h; exact h) e (List.prefix_refl _)
theorem append_ok : MtR X "list.append" (rM p W (meM .append)) := by
  intro pins s σ' H x xs v us Q I rx rs h
  obtain ⟨σ, μ, S, d, ds, R, hv, rv, h⟩ := h
  obtain ⟨e, w, rfl, rfl, hw, h⟩ := m1_inv rv h
  cases d <;> first | exact False.elim h | skip
  obtain ⟨ys, e0, h⟩ := Post.getL h
  obtain ⟨a, vs, rfl, m, ha, ra⟩ := R.lst e0 hv
  obtain ⟨h1, h⟩ := Post.fits h
  have rr : RVs p μ H (ys ++ [e]) (vs ++ [w]) := ra.app (.one hw)
  have P := R.put (o := .lst (vs ++ [w])) (ob := .lst (ys ++ [e])) e0 m ⟨_, upd_same, RVsc.ext (Ext.set ha id) (List.prefix_refl _) _ _ rr⟩
  exact mt_append pins s σ' H _ _ v us Q I rx rs ⟨a, vs, w, rfl, rfl, ha, by rw [ra.len]; omega, Post.ok (Post.setO h P.2) P.1 rfl⟩
theorem extend_ok : MtR X "list.extend" (rM p W (meM .extend)) := by
  intro pins s σ' H x xs v us Q I rx rs h
  obtain ⟨σ, μ, S, d, ds, R, hv, rv, h⟩ := h
  obtain ⟨e, w, rfl, rfl, hw, h⟩ := m1_inv rv h
  cases d <;> cases e <;> first | exact False.elim h | skip
  obtain ⟨ys, e0, h⟩ := Post.getL h
  obtain ⟨zs, e1, h⟩ := Post.getL h
  obtain ⟨a, vs, rfl, m, ha, ra⟩ := R.lst e0 hv
  obtain ⟨b, ws, rfl, mb, hb, rb⟩ := R.lst e1 hw
  obtain ⟨h1, h⟩ := Post.fits h
  have rr : RVs p μ H (ys ++ zs) (vs ++ ws) := ra.app rb
  have P := R.put (o := .lst (vs ++ ws)) (ob := .lst (ys ++ zs)) e0 m ⟨_, upd_same, RVsc.ext (Ext.set ha id) (List.prefix_refl _) _ _ rr⟩
  exact mt_extend pins s σ' H _ _ v us Q I rx rs ⟨a, b, vs, ws, rfl, rfl, ha, hb, by rw [ra.len, rb.len]; exact h1, Post.ok (Post.setO h P.2) P.1 rfl⟩
end
end Pin

set_option Elab.async false
set_option linter.all false
set_option maxRecDepth 100000
set_option maxHeartbeats 1000000
/-! PinF: the judgements of expressions, from those of their parts. -/
namespace Pin
open PySem PySem.Spec PyProof.Rows L2
theorem _root_.L2.PE.imp {X : Cx} {e : Expr} {t t' : TE} (h : PE X e t) (i : ∀ σ H Q, t' σ H Q → t σ H Q) : PE X e t' := ⟨fun pins s σ H Q I q => h.run pins s σ H Q I (i σ H Q q)⟩
theorem _root_.L2.PT.imp {X : Cx} {e : Expr} {t t' : TT} (h : PT X e t) (i : ∀ σ H Q, t' σ H Q → t σ H Q) : PT X e t' := ⟨fun pins s σ H Q I q => h.run pins s σ H Q I (i σ H Q q)⟩
theorem _root_.L2.PW.imp {X : Cx} {e : Expr} {t t' : TT} (h : PW X e t) (i : ∀ σ H Q, t' σ H Q → t σ H Q) : PW X e t' := ⟨fun wh pins s σ H Q I q => h.run wh pins s σ H Q I (i σ H Q q)⟩
theorem _root_.L2.PA.imp {X : Cx} {e : List Expr} {t t' : TA} (h : PA X e t) (i : ∀ σ H Q, t' σ H Q → t σ H Q) : PA X e t' := ⟨fun pos pins s σ H Q I q => h.run pos pins s σ H Q I (i σ H Q q)⟩
theorem _root_.L2.PO.imp {X : Cx} {e : Option Expr} {t t' : TO} (h : PO X e t) (i : ∀ σ H Q, t' σ H Q → t σ H Q) : PO X e t' := ⟨fun pins s σ H Q I q => h.run pins s σ H Q I (i σ H Q q)⟩
section
variable {p : Pm} {X : Cx} {W : Wish} {c : Cl}
section
variable {σ : L2.St} {H : Hp} {Q : VK}
theorem tI.of {ρ : Env} {μ : List Addr} {S : Store} {m : Env → M D} (R : RepS p μ H S) (E : RepE p μ H ρ σ) (h : Post p (RV p) W σ H μ (m ρ S) Q) : tI p W m σ H Q := ⟨ρ, μ, S, R, E, h⟩
/-- the first of two parts -/
theorem tI.first {ρ : Env} {μ : List Addr} {S : Store} {α β : Type} {R' : List Addr → Hp → α → β → Prop} {m : Env → M D} {k : D → M α} {Q' : β → Hp → Prop} {F : VK} (R : RepS p μ H S) (E : RepE p μ H ρ σ) (h : Post p R' W σ H μ ((m ρ >>= k) S) Q')
    (n : ∀ v H1 μ1 S1 d, RepS p μ1 H1 S1 → RepE p μ1 H1 ρ σ → Ext H H1 → μ <+: μ1 → RV p μ1 H1 d v → Post p R' W σ H1 μ1 (k d S1) Q' → F v H1) : tI p W m σ H F :=
  ⟨ρ, μ, S, R, E, (Post.bind (R := RV p) h).imp fun v H1 ⟨μ1, S1, d, A, h1⟩ => n v H1 μ1 S1 d A.rep (E.ext A.ex A.pre) A.ex A.pre A.val h1⟩
theorem tB.first {ρ : Env} {μ : List Addr} {S : Store} {α β : Type} {R' : List Addr → Hp → α → β → Prop} {m : Env → M Bool} {k : Bool → M α} {Q' : β → Hp → Prop} {F : Bool → Hp → Prop} (R : RepS p μ H S) (E : RepE p μ H ρ σ) (h : Post p R' W σ H μ ((m ρ >>= k) S) Q')
    (n : ∀ b H1 μ1 S1, RepS p μ1 H1 S1 → RepE p μ1 H1 ρ σ → Ext H H1 → μ <+: μ1 → Post p R' W σ H1 μ1 (k b S1) Q' → F b H1) : tB p W m σ H F :=
  ⟨ρ, μ, S, R, E, (Post.bind (R := RB) h).imp fun v H1 ⟨μ1, S1, d, A, h1⟩ => n v H1 μ1 S1 A.rep (E.ext A.ex A.pre) A.ex A.pre (by have e : d = v := A.val; rw [← e]; exact h1)⟩
theorem tL.first {ρ : Env} {μ : List Addr} {S : Store} {α β : Type} {R' : List Addr → Hp → α → β → Prop} {m : Env → M (List D)} {k : List D → M α} {Q' : β → Hp → Prop} {F : List V → Hp → Prop} (R : RepS p μ H S) (E : RepE p μ H ρ σ) (h : Post p R' W σ H μ ((m ρ >>= k) S) Q')
    (n : ∀ vs H1 μ1 S1 ds, RepS p μ1 H1 S1 → RepE p μ1 H1 ρ σ → Ext H H1 → μ <+: μ1 → RVs p μ1 H1 ds vs → Post p R' W σ H1 μ1 (k ds S1) Q' → F vs H1) : tL p W m σ H F :=
  ⟨ρ, μ, S, R, E, (Post.bind (R := RVs p) h).imp fun v H1 ⟨μ1, S1, d, A, h1⟩ => n v H1 μ1 S1 d A.rep (E.ext A.ex A.pre) A.ex A.pre A.val h1⟩
end
/-! names, constants -/
theorem varM_inv {ρ : Env} {i : Nat} {S : Store} {σ : L2.St} {H : Hp} {μ : List Addr} {Q : VK} (h : Post p (RV p) W σ H μ (varM ρ i S) Q) : ∃ d, ρ[i]? = some (some d) ∧ Post p (RV p) W σ H μ (.ok d S) Q := by
  unfold varM at h
  cases e : ρ[i]? with
  | none => simp only [e] at h; exact False.elim h
  | some o =>
    cases o with
    | none => simp only [e] at h; exact False.elim h
    | some d => simp only [e] at h; exact ⟨d, rfl, h⟩
theorem pe_nameL {i : Nat} {x : Str} {pos : Pos} (hN : X.N[i]? = some x) (hv : Vis X.env.scope x) (hd : (x == ("__debug__" : Str)) = false) (hcd : (x == ("__classdict__" : Str)) = false) : PE X (.Name x pos) (tI p W (eVar i c)) :=
  (pe_var hN hv hd hcd).imp fun σ H Q ⟨ρ, μ, S, R, E, h⟩ => by
    obtain ⟨d, e, h⟩ := varM_inv h
    obtain ⟨v, e1, e2⟩ := E.2 i d e
    exact ⟨v, e1, Post.ok h R e2⟩
theorem pe_nameG {d : D} {v : V} {u : Value} {x : Str} {pos : Pos} (hg : Gl X x) (hm : X.mg x = some u) (r : RelV v u) (hr : ∀ μ H, RV p μ H d v) (hd : (x == ("__debug__" : Str)) = false) : PE X (.Name x pos) (tI p W (eCon d c)) :=
  (pe_glob hg hm r hd).imp fun σ H Q ⟨ρ, μ, S, R, E, h⟩ => Post.ok h R (hr _ _)
theorem pe_cint {i : Int} {j : Nat} {pos : Pos} : PE X (.Constant (.int i) j pos) (tI p W (eCon (.int i) c)) := pe_int.imp fun σ H Q ⟨ρ, μ, S, R, E, h⟩ => Post.ok h R rfl
theorem pe_cbl {b : Bool} {j : Nat} {pos : Pos} : PE X (.Constant (.bool b) j pos) (tI p W (eCon (.bl b) c)) := pe_bl.imp fun σ H Q ⟨ρ, μ, S, R, E, h⟩ => Post.ok h R rfl
theorem pe_cnon {j : Nat} {pos : Pos} : PE X (.Constant .none j pos) (tI p W (eCon .non c)) := pe_non.imp fun σ H Q ⟨ρ, μ, S, R, E, h⟩ => Post.ok h R rfl
theorem pe_cstr {x : Str} {j : Nat} {pos : Pos} : PE X (.Constant (.str x) j pos) (tI p W (eCon (.str x) c)) := pe_str.imp fun σ H Q ⟨ρ, μ, S, R, E, h⟩ => Post.ok h R rfl
/-! operators -/
variable {a b d : Expr} {ma mb md : EM} {pos : Pos}
theorem pe_bin (g : Gd p X) (op : BOp) (ha : PE X a (tI p W (ma c))) (hb : PE X b (tI p W (mb c))) : PE X (.BinOp a (opOf op) b pos) (tI p W (eBin op ma mb c)) :=
  (pe_op (bin_ok (W := W) g op) ha hb).imp fun σ H Q ⟨ρ, μ, S, R, E, h⟩ =>
    tI.first R E h fun v H1 μ1 S1 x R1 E1 e1 m1 r1 h1 => tI.first R1 E1 h1 fun w H2 μ2 S2 y R2 E2 e2 m2 r2 h2 => ⟨σ, μ2, S2, x, y, R2, RVc.ext e2 m2 _ _ r1, r2, h2⟩
theorem pe_neg (ha : PE X a (tI p W (ma c))) : PE X (.UnaryOp .USub a pos) (tI p W (eNeg ma c)) :=
  (pe_un (neg_ok (p := p) (W := W)) ha).imp fun σ H Q ⟨ρ, μ, S, R, E, h⟩ =>
    tI.first R E h fun v H1 μ1 S1 x R1 E1 e1 m1 r1 h1 => ⟨σ, μ1, S1, x, R1, r1, h1⟩
def copOf : COp → CmpOp
  | .eq => .Eq | .ne => .NotEq | .lt => .Lt | .le => .LtE | .gt => .Gt | .ge => .GtE | .is => .Is | .isnot => .IsNot | .inn => .In | .notin => .NotIn
theorem cmp_ok (g : Gd p X) : ∀ op : COp, OpR X (compareOp (copOf op)) (r2B p W (cmpB op))
  | .eq => eq_ok g
  | .ne => ne_ok g
  | .lt => lt_ok
  | .le => le_ok
  | .gt => gt_ok
  | .ge => ge_ok
  | .is => is_ok
  | .isnot => isnot_ok
  | .inn => fun pins s σ H x y v u Q I rx ry ⟨σ', μ, S, dx, dy, R, vx, vy, h⟩ => in_gen (W := W) g false pins s σ H x y v u Q I rx ry ⟨σ', μ, S, dx, dy, R, vx, vy, by
      have e : (inM dx dy >>= fun k => (pure (if false = true then !k else k) : M Bool)) = inM dx dy := bind_pureM _
      show Post p RB W σ' H μ ((inM dx dy >>= fun k => (pure (if false = true then !k else k) : M Bool)) S) _
      rw [e]
      cases dx <;> cases dy <;> exact h⟩
  | .notin => fun pins s σ H x y v u Q I rx ry ⟨σ', μ, S, dx, dy, R, vx, vy, h⟩ => in_gen (W := W) g true pins s σ H x y v u Q I rx ry ⟨σ', μ, S, dx, dy, R, vx, vy, h⟩
theorem pe_cmpO (g : Gd p X) (op : COp) (ha : PE X a (tI p W (ma c))) (hb : PE X b (tI p W (mb c))) (hm : behindInMarks (copOf op) b = false) : PE X (.Compare a [copOf op] [b] pos) (tI p W (eCmp op ma mb c)) :=
  (pe_cmpR (cmp_ok (W := W) g op) ha hb hm).imp fun σ H Q ⟨ρ, μ, S, R, E, h⟩ =>
    tI.first R E h fun v H1 μ1 S1 x R1 E1 e1 m1 r1 h1 => tI.first R1 E1 h1 fun w H2 μ2 S2 y R2 E2 e2 m2 r2 h2 => ⟨σ, μ2, S2, x, y, R2, RVc.ext e2 m2 _ _ r1, r2,
      (Post.bind (R := RB) h2).imp fun k H3 ⟨μ3, S3, k', A, h3⟩ => by
        have e : k' = k := A.val
        rw [← e]
        exact Post.ok h3 A.rep rfl⟩
theorem pt_cmpO (g : Gd p X) (op : COp) (ha : PE X a (tI p W (ma c))) (hb : PE X b (tI p W (mb c))) (hm : behindInMarks (copOf op) b = false) : PT X (.Compare a [copOf op] [b] pos) (tB p W (tCmp op ma mb c)) :=
  (pt_cmpR (cmp_ok (W := W) g op) ha hb hm).imp fun σ H Q ⟨ρ, μ, S, R, E, h⟩ =>
    tI.first R E h fun v H1 μ1 S1 x R1 E1 e1 m1 r1 h1 => tI.first R1 E1 h1 fun w H2 μ2 S2 y R2 E2 e2 m2 r2 h2 => ⟨σ, μ2, S2, x, y, R2, RVc.ext e2 m2 _ _ r1, r2,
      h2.imp fun k H3 q => ⟨k, rfl, q⟩⟩
theorem pe_chainO (g : Gd p X) (op op' : COp) (ha : PE X a (tI p W (ma c))) (hb : PE X b (tI p W (mb c))) (hd : PE X d (tI p W (md c))) (hm : lastMarks [copOf op, copOf op'] [b, d] = false) :
    PE X (.Compare a [copOf op, copOf op'] [b, d] pos) (tI p W (eChain op op' ma mb md c)) :=
  (pe_chain (cmp_ok (W := W) g op) (cmp_ok (W := W) g op') ha hb hd hm).imp fun σ H Q ⟨ρ, μ, S, R, E, h⟩ =>
    tI.first R E h fun v H1 μ1 S1 x R1 E1 e1 m1 r1 h1 => tI.first R1 E1 h1 fun w H2 μ2 S2 y R2 E2 e2 m2 r2 h2 => ⟨σ, μ2, S2, x, y, R2, RVc.ext e2 m2 _ _ r1, r2,
      (Post.bind (R := RB) h2).imp fun k H3 ⟨μ3, S3, k', A, h3⟩ => by
        have e : k' = k := A.val
        subst e
        refine ⟨k', rfl, ?_⟩
        cases k' with
        | true =>
          rw [if_pos rfl] at h3 ⊢
          exact tI.first A.rep (E2.ext A.ex A.pre) h3 fun z H4 μ4 S4 dz R4 E4 e4 m4 r4 h4 => ⟨σ, μ4, S4, y, dz, R4, RVc.ext e4 m4 _ _ (RVc.ext A.ex A.pre _ _ r2), r4,
            (Post.bind (R := RB) h4).imp fun k H5 ⟨μ5, S5, k', A5, h5⟩ => by
              have e : k' = k := A5.val
              rw [← e]
              exact Post.ok h5 A5.rep rfl⟩
        | false =>
          rw [if_neg Bool.false_ne_true] at h3 ⊢
          exact Post.ok h3 A.rep rfl⟩
theorem pt_chainO (g : Gd p X) (op op' : COp) (ha : PE X a (tI p W (ma c))) (hb : PE X b (tI p W (mb c))) (hd : PE X d (tI p W (md c))) (hm : lastMarks [copOf op, copOf op'] [b, d] = false) :
    PT X (.Compare a [copOf op, copOf op'] [b, d] pos) (tB p W (tChain op op' ma mb md c)) :=
  (pt_chain (cmp_ok (W := W) g op) (cmp_ok (W := W) g op') ha hb hd hm).imp fun σ H Q ⟨ρ, μ, S, R, E, h⟩ =>
    tI.first R E h fun v H1 μ1 S1 x R1 E1 e1 m1 r1 h1 => tI.first R1 E1 h1 fun w H2 μ2 S2 y R2 E2 e2 m2 r2 h2 => ⟨σ, μ2, S2, x, y, R2, RVc.ext e2 m2 _ _ r1, r2,
      (Post.bind (R := RB) h2).imp fun k H3 ⟨μ3, S3, k', A, h3⟩ => by
        have e : k' = k := A.val
        subst e
        refine ⟨k', rfl, ?_⟩
        cases k' with
        | true =>
          rw [if_pos rfl] at h3 ⊢
          exact tI.first A.rep (E2.ext A.ex A.pre) h3 fun z H4 μ4 S4 dz R4 E4 e4 m4 r4 h4 => ⟨σ, μ4, S4, y, dz, R4, RVc.ext e4 m4 _ _ (RVc.ext A.ex A.pre _ _ r2), r4,
            h4.imp fun k H5 q => ⟨k, rfl, q⟩⟩
        | false =>
          rw [if_neg Bool.false_ne_true] at h3 ⊢
          exact ⟨false, rfl, Post.ok h3 A.rep rfl⟩⟩
/-! truth -/
theorem truD (hK : X.K = p.K) {x : V} {H : Hp} {μ : List Addr} {S : Store} {dx : D} {σ : L2.St} {Q : Bool → Hp → Prop} (R : RepS p μ H S) (vx : RV p μ H dx x) (h : Post p RB W σ H μ (truth dx S) Q) : ∃ k, TruV X.K x H k ∧ Q k H ∧ truth dx S = .ok k S := by
  cases dx with
  | non => cases vx; exact ⟨false, rfl, Post.ok h R rfl, rfl⟩
  | bl b => cases vx; exact ⟨b, rfl, Post.ok h R rfl, rfl⟩
  | int i => cases vx; exact ⟨i != 0, rfl, Post.ok h R rfl, rfl⟩
  | str y =>
    cases vx
    obtain ⟨h1, h2⟩ := Post.fits h
    refine ⟨y.length != 0, ⟨h1, ?_⟩, Post.ok h2 R rfl, by show fits _ _ S = _; unfold fits; rw [if_pos h1]; rfl⟩
    cases e : y.length with
    | zero => rfl
    | succ n => simp; omega
  | tup xs =>
    obtain ⟨a, vs, rfl, sa, la, ra⟩ := vx
    refine ⟨!xs.isEmpty, .inr (.inl ⟨vs, hK ▸ sa, ?_⟩), Post.ok h R rfl, rfl⟩
    have := ra.len
    cases xs <;> cases vs <;> simp_all
  | ref r =>
    rw [truth_ref] at h ⊢
    split at h
    · rename_i xs e
      obtain ⟨a, vs, rfl, _, ha, ra⟩ := R.lst e vx
      refine ⟨!xs.isEmpty, .inl ⟨vs, SqL.of ha, ?_⟩, Post.ok h R rfl, rfl⟩
      have := ra.len
      cases xs <;> cases vs <;> simp_all
    · rename_i kvs e
      obtain ⟨a, rfl, m⟩ := vx
      obtain ⟨r1, r2⟩ := R.ob r _ a e m
      subst r1
      exact ⟨false, .inr (.inr ⟨[], r2, rfl⟩), Post.ok h R rfl, rfl⟩
    · exact h.elim
  | fn f => exact False.elim h
  | clo a b => exact False.elim h
  | fz a => exact False.elim h
theorem pe_notO (hK : X.K = p.K) (ha : PE X a (tI p W (ma c))) : PE X (.UnaryOp .Not a pos) (tI p W (eNot ma c)) :=
  (pe_notT ha).imp fun σ H Q ⟨ρ, μ, S, R, E, h⟩ =>
    tI.first R E h fun v H1 μ1 S1 x R1 E1 e1 m1 r1 h1 => by
      obtain ⟨k, t, q, _⟩ := truD hK R1 r1 (Post.bind (R := RB) h1)
      obtain ⟨μ2, S2, k', A, h2⟩ := q
      have e : k' = k := A.val
      exact ⟨k, t, by rw [← e]; exact Post.ok h2 A.rep rfl⟩
theorem pe_andO {rest : List Expr} (hK : X.K = p.K) (ha : PE X a (tI p W (ma c))) (hb : PE X (.BoolOp .And (b :: rest) pos) (tI p W (mb c))) : PE X (.BoolOp .And (a :: b :: rest) pos) (tI p W (eAnd ma mb c)) :=
  (pe_andT ha hb).imp fun σ H Q ⟨ρ, μ, S, R, E, h⟩ =>
    tI.first R E h fun v H1 μ1 S1 x R1 E1 e1 m1 r1 h1 => by
      obtain ⟨k, t, q, e0⟩ := truD hK R1 r1 (Post.bind (R := RB) h1)
      rw [bind_run, e0] at h1
      refine ⟨k, t, ?_⟩
      cases k with
      | true => rw [if_pos rfl]; exact ⟨ρ, μ1, S1, R1, E1, h1⟩
      | false => rw [if_neg Bool.false_ne_true]; exact Post.ok h1 R1 r1
theorem pe_orO {rest : List Expr} (hK : X.K = p.K) (ha : PE X a (tI p W (ma c))) (hb : PE X (.BoolOp .Or (b :: rest) pos) (tI p W (mb c))) : PE X (.BoolOp .Or (a :: b :: rest) pos) (tI p W (eOr ma mb c)) :=
  (pe_orT ha hb).imp fun σ H Q ⟨ρ, μ, S, R, E, h⟩ =>
    tI.first R E h fun v H1 μ1 S1 x R1 E1 e1 m1 r1 h1 => by
      obtain ⟨k, t, q, e0⟩ := truD hK R1 r1 (Post.bind (R := RB) h1)
      rw [bind_run, e0] at h1
      refine ⟨k, t, ?_⟩
      cases k with
      | true => rw [if_pos rfl]; exact Post.ok h1 R1 r1
      | false => rw [if_neg Bool.false_ne_true]; exact ⟨ρ, μ1, S1, R1, E1, h1⟩
theorem pe_oneO {op : BoolOp} (ha : PE X a (tI p W (ma c))) : PE X (.BoolOp op [a] pos) (tI p W (ma c)) := pe_one ha
/-! tests -/
variable {ta tb : TM}
theorem pt_valO (hK : X.K = p.K) (ha : PE X a (tI p W (ma c))) (he : ∀ whole, isTrue a X.env whole = (do let v ← whole; standAt a.pos; holding [v] (truthy v))) : PT X a (tB p W (tVal ma c)) :=
  (pt_truth ha he).imp fun σ H Q ⟨ρ, μ, S, R, E, h⟩ =>
    tI.first R E h fun v H1 μ1 S1 x R1 E1 e1 m1 r1 h1 => by
      obtain ⟨k, t, q, e0⟩ := truD hK R1 r1 h1
      exact ⟨k, t, q⟩
theorem pt_notO (ha : PT X a (tB p W (ta c))) : PT X (.UnaryOp .Not a pos) (tB p W (tNot ta c)) :=
  (pt_not ha).imp fun σ H Q ⟨ρ, μ, S, R, E, h⟩ =>
    tB.first R E h fun k H1 μ1 S1 R1 E1 e1 m1 h1 => Post.ok h1 R1 rfl
theorem pw_and1O (ha : PT X a (tB p W (ta c))) : PW X (.BoolOp .And [a] pos) (tB p W (ta c)) := pw_and1 ha
theorem pw_or1O (ha : PT X a (tB p W (ta c))) : PW X (.BoolOp .Or [a] pos) (tB p W (ta c)) := pw_or1 ha
theorem pw_andO {rest : List Expr} (ha : PT X a (tB p W (ta c))) (hb : PW X (.BoolOp .And (b :: rest) pos) (tB p W (tb c))) : PW X (.BoolOp .And (a :: b :: rest) pos) (tB p W (tAnd ta tb c)) :=
  (pw_and ha hb).imp fun σ H Q ⟨ρ, μ, S, R, E, h⟩ =>
    tB.first R E h fun k H1 μ1 S1 R1 E1 e1 m1 h1 => by
      cases k with
      | true => rw [if_pos rfl] at h1 ⊢; exact ⟨ρ, μ1, S1, R1, E1, h1⟩
      | false => rw [if_neg Bool.false_ne_true] at h1 ⊢; exact Post.ok h1 R1 rfl
theorem pw_orO {rest : List Expr} (ha : PT X a (tB p W (ta c))) (hb : PW X (.BoolOp .Or (b :: rest) pos) (tB p W (tb c))) : PW X (.BoolOp .Or (a :: b :: rest) pos) (tB p W (tOr ta tb c)) :=
  (pw_or ha hb).imp fun σ H Q ⟨ρ, μ, S, R, E, h⟩ =>
    tB.first R E h fun k H1 μ1 S1 R1 E1 e1 m1 h1 => by
      cases k with
      | true => rw [if_pos rfl] at h1 ⊢; exact Post.ok h1 R1 rfl
      | false => rw [if_neg Bool.false_ne_true] at h1 ⊢; exact ⟨ρ, μ1, S1, R1, E1, h1⟩
theorem pe_ifO {t : Expr} (ht : PT X t (tB p W (ta c))) (ha : PE X a (tI p W (ma c))) (hb : PE X b (tI p W (mb c))) : PE X (.IfExp t a b pos) (tI p W (eIf ta ma mb c)) :=
  (pe_ifExp ht ha hb).imp fun σ H Q ⟨ρ, μ, S, R, E, h⟩ =>
    tB.first R E h fun k H1 μ1 S1 R1 E1 e1 m1 h1 => by
      cases k with
      | true => rw [if_pos rfl] at h1 ⊢; exact ⟨ρ, μ1, S1, R1, E1, h1⟩
      | false => rw [if_neg Bool.false_ne_true] at h1 ⊢; exact ⟨ρ, μ1, S1, R1, E1, h1⟩
/-! lists of arguments, displays -/
variable {es : List Expr} {ms : LM}
theorem pa_nilO : PA X [] (tL p W (lNil c)) := pa_nil.imp fun σ H Q ⟨ρ, μ, S, R, E, h⟩ => Post.ok h R rfl
theorem pa_consO (ha : PE X a (tI p W (ma c))) (hr : PA X es (tL p W (ms c))) (hs : starEach (a :: es) X.env = (false, eval a X.env) :: starEach es X.env) : PA X (a :: es) (tL p W (lCons ma ms c)) :=
  (pa_cons ha hr hs).imp fun σ H Q ⟨ρ, μ, S, R, E, h⟩ =>
    tI.first R E h fun v H1 μ1 S1 x R1 E1 e1 m1 r1 h1 => tL.first R1 E1 h1 fun vs H2 μ2 S2 xs R2 E2 e2 m2 r2 h2 => Post.ok h2 R2 (.cons (RVc.ext e2 m2 _ _ r1) r2)
theorem pe_tupO {k : Nat} (h : PA X es (tL p W (ms c))) : PE X (.Tuple es k pos) (tI p W (eTup ms c)) :=
  (pe_tup h).imp fun σ H Q ⟨ρ, μ, S, R, E, h⟩ => tL.first R E h fun vs H1 μ1 S1 xs R1 E1 e1 m1 r1 h1 => Post.tupM R1 r1 h1
theorem pe_lstO (h : PA X es (tL p W (ms c))) : PE X (.List es pos) (tI p W (eLst ms c)) :=
  (pe_lst h).imp fun σ H Q ⟨ρ, μ, S, R, E, h⟩ => tL.first R E h fun vs H1 μ1 S1 xs R1 E1 e1 m1 r1 h1 => Post.lstM R1 r1 h1
theorem Post.newD {σ : L2.St} {H : Hp} {μ : List Addr} {S : Store} {Q : VK} (R : RepS p μ H S) (h : Post p (RV p) W σ H μ (Pin.newO (Ob.dct []) S) Q) : ∀ q, H q = none → Q (.ref q) (upd H q (.dK [])) := by
  intro q hq
  refine h (.ref q) _ (μ ++ [q]) (Ext.new hq) (List.prefix_append _ _) (R.push hq ⟨rfl, upd_same⟩) ⟨q, rfl, ?_⟩
  rw [List.getElem?_append_right (by rw [R.len]; exact Nat.le_refl _), R.len]
  simp
theorem pe_dctO : PE X (.Dict [] [] pos) (tI p W (eDct0 c)) :=
  pe_dnewK.imp fun σ H Q ⟨ρ, μ, S, R, E, h⟩ => fun q hq => Post.newD R h q hq
/-! subscripts -/
theorem pe_ixO (hK : X.K = p.K) (ha : PE X a (tI p W (ma c))) (hb : PE X b (tI p W (mb c))) (hs : PlainIx b) : PE X (.Subscript a b pos) (tI p W (eIx ma mb c)) :=
  (pe_ix (ix_ok (W := W) hK) ha hb hs).imp fun σ H Q ⟨ρ, μ, S, R, E, h⟩ =>
    tI.first R E h fun v H1 μ1 S1 x R1 E1 e1 m1 r1 h1 => tI.first R1 E1 h1 fun w H2 μ2 S2 y R2 E2 e2 m2 r2 h2 => ⟨σ, μ2, S2, x, y, R2, RVc.ext e2 m2 _ _ r1, r2, h2⟩
variable {lo hi : Option Expr} {mlo mhi : OM}
theorem po_noneO : PO X none (tO p W (oNone c)) := po_none.imp fun σ H Q ⟨ρ, μ, S, R, E, h⟩ => Post.ok h R rfl
theorem po_someO (ha : PE X a (tI p W (ma c))) : PO X (some a) (tO p W (oSome ma c)) :=
  (po_some ha).imp fun σ H Q ⟨ρ, μ, S, R, E, h⟩ =>
    tI.first R E h fun v H1 μ1 S1 x R1 E1 e1 m1 r1 h1 => by
      cases x <;> first | exact False.elim h1 | skip
      cases r1
      exact ⟨_, rfl, Post.ok h1 R1 rfl⟩
theorem tO.first {σ : L2.St} {H : Hp} {ρ : Env} {μ : List Addr} {S : Store} {α β : Type} {R' : List Addr → Hp → α → β → Prop} {m : Env → M (Option Int)} {k : Option Int → M α} {Q' : β → Hp → Prop} {F : Option Int → Hp → Prop} (R : RepS p μ H S) (E : RepE p μ H ρ σ) (h : Post p R' W σ H μ ((m ρ >>= k) S) Q')
    (n : ∀ b H1 μ1 S1, RepS p μ1 H1 S1 → RepE p μ1 H1 ρ σ → Ext H H1 → μ <+: μ1 → Post p R' W σ H1 μ1 (k b S1) Q' → F b H1) : tO p W m σ H F :=
  ⟨ρ, μ, S, R, E, (Post.bind (R := fun _ _ a b => a = b) h).imp fun v H1 ⟨μ1, S1, d, A, h1⟩ => n v H1 μ1 S1 A.rep (E.ext A.ex A.pre) A.ex A.pre (by have e : d = v := A.val; rw [← e]; exact h1)⟩
theorem pe_slO {p2 : Pos} (hK : X.K = p.K) (ha : PE X a (tI p W (ma c))) (hl : PO X lo (tO p W (mlo c))) (hh : PO X hi (tO p W (mhi c))) : PE X (.Subscript a (.Slice lo hi none p2) pos) (tI p W (eSl ma mlo mhi c)) :=
  (pe_slice (sl_ok (W := W) hK) ha hl hh).imp fun σ H Q ⟨ρ, μ, S, R, E, h⟩ =>
    tI.first R E h fun v H1 μ1 S1 x R1 E1 e1 m1 r1 h1 => tO.first R1 E1 h1 fun l H2 μ2 S2 R2 E2 e2 m2 h2 => tO.first R2 E2 h2 fun u H3 μ3 S3 R3 E3 e3 m3 h3 =>
      ⟨σ, μ3, S3, x, R3, RVc.ext (e2.trans e3) (m2.trans m3) _ _ r1, h3⟩
/-! builtins, types, methods -/
variable {x : Str} {q : Pos}
theorem pe_biB {id : String} {bi : Bi} (hc : CallR X (.builtin id) (rC p W (biM bi))) (hg : Gl X x) (hm : X.mg x = none) (hv : bootBuiltins x = some (.builtin id)) (ha : PA X (a :: es) (tL p W (ms c))) (hn : x ≠ "__name__") (hdb : (x == ("__debug__" : Str)) = false)
    (he : starEach (a :: es) X.env = (false, eval a X.env) :: starEach es X.env) (hpl : (backTo pos (starEach es X.env)).any (·.1) = false) : PE X (.Call (.Name x q) (a :: es) [] pos) (tI p W (eBi bi ms c)) :=
  (pe_callB hc hg hm hv ha hn hdb he hpl).imp fun σ H Q ⟨ρ, μ, S, R, E, h⟩ => tL.first R E h fun vs H1 μ1 S1 xs R1 E1 e1 m1 r1 h1 => ⟨σ, μ1, S1, xs, R1, r1, h1⟩
theorem pe_biT {T : String} {bi : Bi} (hc : CallR X (.type T) (rC p W (biM bi))) (hg : Gl X x) (hm : X.mg x = none) (hv : bootBuiltins x = some (.type T)) (ha : PA X (a :: es) (tL p W (ms c))) (hn : x ≠ "__name__") (hdb : (x == ("__debug__" : Str)) = false)
    (he : starEach (a :: es) X.env = (false, eval a X.env) :: starEach es X.env) (hpl : (backTo pos (starEach es X.env)).any (·.1) = false) : PE X (.Call (.Name x q) (a :: es) [] pos) (tI p W (eBi bi ms c)) :=
  (pe_callTy hc hg hm hv ha hn hdb he hpl).imp fun σ H Q ⟨ρ, μ, S, R, E, h⟩ => tL.first R E h fun vs H1 μ1 S1 xs R1 E1 e1 m1 r1 h1 => ⟨σ, μ1, S1, xs, R1, r1, h1⟩
theorem pe_isiO {t : Ty} {T : Str} {q2 : Pos} (hK : X.K = p.K) (hg : Gl X "isinstance") (hm : X.mg "isinstance" = none) (hgT : Gl X T) (hmT : X.mg T = none) (hvT : bootBuiltins T = some (.type (tyName t))) (hnT : T ≠ "__name__") (hdT : (T == ("__debug__" : Str)) = false)
    (ha : PE X a (tI p W (ma c))) (he : starEach (a :: [.Name T q2]) X.env = (false, eval a X.env) :: starEach [.Name T q2] X.env) : PE X (.Call (.Name "isinstance" q) [a, .Name T q2] [] pos) (tI p W (eIsi ma t c)) :=
  (pe_callB (isi_ok (p := p) (W := W) hK t) hg hm (by decide +kernel) (pa_cons ha (pa_cons (pe_bltn (v := .ty (tyName t)) hgT hmT hvT rfl hnT hdT) pa_nil) he) (by decide) (by decide) he).imp fun σ H Q ⟨ρ, μ, S, R, E, h⟩ =>
    tI.first R E h fun v H1 μ1 S1 x R1 E1 e1 m1 r1 h1 => ⟨σ, μ1, S1, x, v, rfl, R1, r1, (Post.bind (R := RB) h1).imp fun k H3 ⟨μ3, S3, k', A, h3⟩ => by
        have e : k' = k := A.val
        rw [← e]
        exact Post.ok h3 A.rep rfl⟩
end
end Pin

set_option Elab.async false
set_option linter.all false
set_option maxRecDepth 100000
set_option maxHeartbeats 1000000
/-! PinG: side conditions by the syntax; calls; targets; what is walked. -/
namespace Pin
open PySem PySem.Spec PyProof.Rows L2
/-! ### side conditions -/
def noStar : Expr → Bool
  | .Starred .. => false
  | _ => true
theorem star_cons {e : Expr} {es : List Expr} {env : PySem.Env} (h : noStar e = true) : starEach (e :: es) env = (false, eval e env) :: starEach es env := by
  cases e <;> first | rfl | (simp [noStar] at h)
theorem star_plain {env : PySem.Env} {pos : Pos} : ∀ {es : List Expr}, es.all noStar = true → (backTo pos (starEach es env)).any (·.1) = false
  | [], _ => rfl
  | e :: es, h => by
    rw [List.all_cons, Bool.and_eq_true] at h
    rw [star_cons h.1]
    show (false || (backTo pos (starEach es env)).any (·.1)) = false
    rw [star_plain h.2]; rfl
theorem star_all {env : PySem.Env} {pos : Pos} : ∀ {es : List Expr}, es.all noStar = true → (backTo pos (starEach es env)).all (fun x => !x.1) = true
  | [], _ => rfl
  | e :: es, h => by
    rw [List.all_cons, Bool.and_eq_true] at h
    rw [star_cons h.1]
    show (!false && (backTo pos (starEach es env)).all (fun x => !x.1)) = true
    rw [star_all h.2]; rfl
def plainT : Expr → Bool
  | .UnaryOp .Not _ _ => false
  | .BoolOp .. => false
  | .IfExp .. => false
  | .Compare .. => false
  | _ => true
theorem plainT_ok {e : Expr} {env : PySem.Env} (h : plainT e = true) : ∀ whole, isTrue e env whole = (do let v ← whole; standAt e.pos; holding [v] (truthy v)) := by
  intro whole
  cases e <;> first | rfl | (simp [plainT] at h; done) | skip
  rename_i op x pos
  cases op <;> first | rfl | (simp [plainT] at h)
def noSet : Expr → Bool
  | .Set .. => false
  | _ => true
theorem noSet_in {e : Expr} {op : CmpOp} (h : noSet e = true) : behindInMarks op e = false := by
  cases e <;> first | rfl | (simp [noSet] at h)
theorem noSet_fold {e : Expr} {env : PySem.Env} (h : noSet e = true) : ∀ x, foldedSetIterable e env x = pure x := by
  intro x
  cases e <;> first | rfl | (simp [noSet] at h)
def noComp : Expr → Bool
  | .ListComp .. | .SetComp .. | .DictComp .. => false
  | _ => true
theorem noComp_swap {e : Expr} {t : Option Expr} {l : Nat} {env : PySem.Env} (h : noComp e = true) : swapsWith e t l env = pure false := by
  cases e <;> first | rfl | (simp [noComp] at h)
def noSl : Expr → Bool
  | .Slice .. => false
  | _ => true
theorem noSl_ix {e : Expr} (h : noSl e = true) : PlainIx e := by
  intro o i
  cases e <;> first | rfl | (simp [noSl] at h)
def recv : Expr → Bool
  | .Call .. => false
  | _ => true
theorem recv_base {o : Expr} {m : Str} {env : PySem.Env} (h : recv o = true) : attributeBase o m env (eval o env) = eval o env := by
  cases o <;> first | rfl | (simp [recv] at h)
def okName (x : Str) : Bool := !(x == ("__debug__" : Str)) && !(x == ("__classdict__" : Str)) && !(x == ("__name__" : Str))
theorem okName_ne {x : Str} (h : okName x = true) : (x == ("__debug__" : Str)) = false ∧ (x == ("__classdict__" : Str)) = false ∧ x ≠ "__name__" := by
  unfold okName at h
  simp only [Bool.and_eq_true, Bool.not_eq_true'] at h
  exact ⟨h.1.1, h.1.2, fun e => by rw [e] at h; simp at h⟩
/-! ### calls -/
def lv (k : Nat) : Nat := 4 * k + 2
def PostX (p : Pm) (r : Res D) (H : Hp) (μ : List Addr) (Q : VK) (E : XK) : Prop := match r with
  | .ok d S' => ∀ v H' μ', Ext H H' → μ <+: μ' → RepS p μ' H' S' → RV p μ' H' d v → Q v H'
  | .exc x S' => ∀ cls dd H' μ', Ext H H' → μ <+: μ' → RepS p μ' H' S' → RX p μ' H' x cls dd → E cls dd H'
  | .stk => False
def spF (p : Pm) (P : Nat → Option Fn) (k f : Nat) : Sp := fun vs H Q E => ∃ rs fn μ S ds, P f = some fn ∧ ds.length = fn.ar ∧ RepS (p.at rs) μ H S ∧ RVs (p.at rs) μ H ds vs ∧ PostX (p.at rs) (callF P k f ds S) H μ Q E
/-- the wish of the machine, as the layer has it -/
def WXof (p : Pm) (W : Wish) : WX := fun cls dd σ H => ∃ x μ S, RepS p μ H S ∧ RX p μ H x cls dd ∧ W x μ S σ H
def TakesW (p : Pm) (X : Cx) (W : Wish) : Prop := Takes X (WXof p W)
theorem Post.toX {p : Pm} {W : Wish} {σ : L2.St} {H : Hp} {μ : List Addr} {r : Res D} {Q : VK} (h : Post p (RV p) W σ H μ r Q) : PostX p r H μ Q (WE (WXof p W) σ) := by
  cases r with
  | ok d S' => exact h
  | exc x S' => exact fun cls dd H' μ' e m R rx => ⟨x, μ', S', R, rx, h H' μ' e m R⟩
  | stk => exact h
/-- a def as it stands, kept to what the machine says -/
structure FnAt (p : Pm) (P : Nat → Option Fn) (X : Cx) (k : Nat) (f : Nat) (fn : Fn) (fa : Addr) : Prop where
  at_ : P f = some fn
  loc : p.fa f = some fa
  kp : PySem.W.keepIn X.K (.ref fa) = true
  ok : ∃ fd ps dvs dsv, FnOk X.prog X.w X.K X.mg X.base (L2.CX X.prog X.w) (lv k) fa fd ps (spF p P k f) ∧ ps.length = fn.ar ∧ Vals dvs dsv ∧ (∀ μ H, RVs p μ H fn.dv dvs) ∧ fn.dv.length ≤ fn.ar ∧ ∀ j, j ≤ dsv.length → Binds X.K fd ps (dsv.drop j)
theorem callF_full {P : Nat → Option Fn} {k f : Nat} {fn : Fn} {ds : List D} (h : P f = some fn) (hl : (fullA fn ds).length = fn.ar) : callF P k f (fullA fn ds) = callF P k f ds := by
  have e : fullA fn (fullA fn ds) = fullA fn ds := by
    have e0 : fn.dv.length - (fn.ar - (fullA fn ds).length) = fn.dv.length := by omega
    show fullA fn ds ++ fn.dv.drop (fn.dv.length - (fn.ar - (fullA fn ds).length)) = _
    rw [e0, List.drop_length, List.append_nil]
  cases k with
  | zero => rfl
  | succ k => simp only [callF, h, e]
theorem callF_len {P : Nat → Option Fn} {k f : Nat} {fn : Fn} {ds : List D} {S : Store} (h : P f = some fn) (hc : callF P k f ds S ≠ .stk) : (fullA fn ds).length = fn.ar := by
  cases k with
  | zero => exact absurd rfl hc
  | succ k =>
    simp only [callF, h] at hc
    split at hc
    · assumption
    · exact absurd rfl hc
section
variable {p : Pm} {P : Nat → Option Fn} {X : Cx} {W : Wish} {k f : Nat} {fn : Fn} {fa : Addr}
theorem Post.ne {α β : Type} {R : List Addr → Hp → α → β → Prop} {σ : L2.St} {H : Hp} {μ : List Addr} {r : Res α} {Q : β → Hp → Prop} (h : Post p R W σ H μ r Q) : r ≠ .stk := fun e => by rw [e] at h; exact h
/-- a def that is known is called with values -/
theorem run_def (F : FnAt p P X k f fn fa) (room : Room (lv k) X.A) (tk : TakesW p X W) {pins : List (Addr × Obj)} {σ : L2.St} {H : Hp} {s : Shared} {Q : VK} {us : List Value} {vs : List V} {μ : List Addr} {S : Store} {ds : List D}
    (I : Inv X pins σ H s) (r : Vals vs us) (R : RepS p μ H S) (rv : RVs p μ H ds vs) (h : Post p (RV p) W σ H μ (callF P k f ds S) Q) : wpAny (model X.prog X.w) X.A (call (.ref fa) us) (EP X pins σ Q) X.xe s := by
  obtain ⟨fd, ps, dvs, dsv, Fk, hps, rd, rdv, hle, hb⟩ := F.ok
  have hl := callF_len F.at_ h.ne
  have hlen : (fullA fn ds).length = ds.length + (fn.dv.length - (fn.dv.length - (fn.ar - ds.length))) := by unfold fullA; rw [List.length_append, List.length_drop]
  refine run_fnSD (E := WE (WXof p W)) (dvs := dvs.drop (fn.dv.length - (fn.ar - ds.length))) (ds := dsv.drop (fn.dv.length - (fn.ar - ds.length))) Fk room (hb _ ?_) (rd.drop _) (passAt tk σ) I r ?_
  · have e1 := rd.length
    have e2 := (rdv [] H).len
    omega
  · refine ⟨p.rs, fn, μ, S, fullA fn ds, F.at_, hl, R, ?_, ?_⟩
    · exact rv.app ((rdv μ H).drop _)
    · rw [callF_full F.at_ hl]
      exact h.toX
variable {c : Cl} {a : Expr} {es : List Expr} {ms : LM} {pos q : Pos} {x : Str}
theorem pe_defO (F : FnAt p P X k f fn fa) (room : Room (lv k) X.A) (tk : TakesW p X W) (hg : Gl X x) (hm : X.mg x = some (.ref fa)) (ha : PA X (a :: es) (tL p W (ms (callF P k)))) (hdb : (x == ("__debug__" : Str)) = false)
    (he : starEach (a :: es) X.env = (false, eval a X.env) :: starEach es X.env) (hpl : (backTo pos (starEach es X.env)).any (·.1) = false) : PE X (.Call (.Name x q) (a :: es) [] pos) (tI p W (eCall f ms (callF P k))) := by
  refine ⟨fun pins s σ H Q I h => ?_⟩
  obtain ⟨ρ, μ, S, R, E, h⟩ := h
  refine wpAny_Call_Name_kw (ld_glob I hg hm ?_ hdb)
  refine PySem.W.callWith_K (h₀ := X.base) I.ok.mod.kin F.kp (thn (ha.run pos pins s σ H (fun vs H1 => ∃ μ1 S1 ds, RepS p μ1 H1 S1 ∧ RVs p μ1 H1 ds vs ∧ Post p (RV p) W σ H1 μ1 (callF P k f ds S1) Q) I ?_) fun us s1 ⟨vs, H1, I1, r, q⟩ => ⟨I1.kIn, ?_⟩) he hpl
  · exact tL.first R E h fun vs H1 μ1 S1 ds R1 E1 e1 m1 r1 h1 => ⟨μ1, S1, ds, R1, r1, h1⟩
  · obtain ⟨μ1, S1, ds, R1, r1, h1⟩ := q
    exact run_def F room tk I1 r R1 r1 h1
theorem pe_def0 (F : FnAt p P X k f fn fa) (room : Room (lv k) X.A) (tk : TakesW p X W) (hg : Gl X x) (hm : X.mg x = some (.ref fa)) (hdb : (x == ("__debug__" : Str)) = false) : PE X (.Call (.Name x q) [] [] pos) (tI p W (eCall f lNil (callF P k))) := by
  refine ⟨fun pins s σ H Q I h => ?_⟩
  obtain ⟨ρ, μ, S, R, E, h⟩ := h
  refine wpAny_Call_Name_kw (ld_glob I hg hm ?_ hdb)
  exact PySem.W.callWith_K0 I.kIn F.kp (run_def (us := []) F room tk I .nil R RVsc.nil h)
end
/-! ### methods -/
section
variable {p : Pm} {X : Cx} {W : Wish} {c : Cl} {o a : Expr} {mo ma : EM} {pos apos : Pos}
theorem lstOf_inv {μ : List Addr} {H : Hp} {S : Store} {d : D} {x : V} {α β : Type} {R' : List Addr → Hp → α → β → Prop} {σ : L2.St} {Q : β → Hp → Prop} {k : List D → M α} (R : RepS p μ H S) (h : RV p μ H d x) (q : Post p R' W σ H μ ((lstOf d >>= k) S) Q) :
    tyV X.K "list" x H ∧ ∃ ys, Post p R' W σ H μ (k ys S) Q := by
  cases d <;> first | exact False.elim q | skip
  obtain ⟨ys, e, q⟩ := Post.getL q
  obtain ⟨b, vs, rfl, _, hb, _⟩ := R.lst e h
  exact ⟨.inl ⟨rfl, _, .inl (.inl hb)⟩, ys, q⟩
theorem pe_meO {m : Me} {name : Str} {id : String} {es : List Expr} {ms : LM} (slot : Slot "list" name id) (hty : typeOf (.builtin id) = pure (.type "method_descriptor")) (hm : MtR X id (rM p W (meM m))) (ho : PE X o (tI p W (mo c))) (ha : PA X (a :: es) (tL p W (ms c)))
    (hr : recv o = true) (hs : (a :: es).all noStar = true) (hl : (a :: es).length < 30) (hline : (apos.endLine == pos.line) = true) : PE X (.Call (.Attribute o name apos) (a :: es) [] pos) (tI p W (eMe m mo ms c)) := by
  have hs' := hs
  rw [List.all_cons, Bool.and_eq_true] at hs'
  refine (pe_bm PySem.F.plainAttrs_list slot hty hm ho ha (recv_base hr) ?_ hline (star_cons hs'.1) (star_plain hs'.2)).imp fun σ H Q ⟨ρ, μ, S, R, E, h⟩ =>
    tI.first R E h fun v H1 μ1 S1 x R1 E1 e1 m1 r1 h1 => by
      obtain ⟨t, ys, h2⟩ := lstOf_inv (X := X) R1 r1 h1
      exact ⟨t, tL.first R1 E1 h2 fun vs H2 μ2 S2 xs R2 E2 e2 m2 r2 h3 => ⟨σ, μ2, S2, x, xs, R2, RVc.ext e2 m2 _ _ r1, r2, h3⟩⟩
  rw [star_all hs, Bool.true_and, Bool.and_eq_true]
  exact ⟨rfl, decide_eq_true (by simpa using hl)⟩
theorem pe_append (ho : PE X o (tI p W (mo c))) {ms : LM} (ha : PA X [a] (tL p W (ms c))) (hr : recv o = true) (hs : noStar a = true) (hline : (apos.endLine == pos.line) = true) : PE X (.Call (.Attribute o "append" apos) [a] [] pos) (tI p W (eMe .append mo ms c)) :=
  pe_meO PySem.F.slot_list_append PySem.F.type_list_append append_ok ho ha hr (by simp [hs]) (by simp) hline
theorem pe_extend (ho : PE X o (tI p W (mo c))) {ms : LM} (ha : PA X [a] (tL p W (ms c))) (hr : recv o = true) (hs : noStar a = true) (hline : (apos.endLine == pos.line) = true) : PE X (.Call (.Attribute o "extend" apos) [a] [] pos) (tI p W (eMe .extend mo ms c)) :=
  pe_meO PySem.F.slot_list_extend PySem.F.type_list_extend extend_ok ho ha hr (by simp [hs]) (by simp) hline
end
/-! ### targets -/
section
variable {p : Pm} {X : Cx} {W : Wish} {c : Cl}
/-- a store of a value at a target, as the machine has it; vs: the slots that may change -/
def tG (p : Pm) (vs : List Nat) (g : GM) : TG := fun v σ H Q => ∃ ρ μ S d, RepS p μ H S ∧ RepE p μ H ρ σ ∧ RV p μ H d v ∧ ∃ ρ', (∀ T, g d ρ T = .ok ρ' T) ∧ ∀ σ', RepE p μ H ρ' σ' → L2.wipe σ' vs = L2.wipe σ vs → Q σ' H
def tGs (p : Pm) (vs : List Nat) (g : GsM) : TGs := fun ws σ H Q => ∃ ρ μ S ds, RepS p μ H S ∧ RepE p μ H ρ σ ∧ RVs p μ H ds ws ∧ ∃ ρ', (∀ T, g ds ρ T = .ok ρ' T) ∧ ∀ σ', RepE p μ H ρ' σ' → L2.wipe σ' vs = L2.wipe σ vs → Q σ' H
theorem wipe_get {σ : L2.St} {i : Nat} : ∀ {vs : List Nat}, (L2.wipe σ vs)[i]? = if i ∈ vs ∧ i < σ.length then some none else σ[i]?
  | [] => by simp [L2.wipe]
  | v :: vs => by
    unfold L2.wipe
    by_cases hv : v = i
    · subst hv
      by_cases hl : v < σ.length
      · rw [List.getElem?_set_self (by rw [L2.wipe_length]; exact hl), if_pos ⟨List.mem_cons_self, hl⟩]
      · rw [if_neg (fun z => hl z.2), List.getElem?_eq_none (by rw [List.length_set, L2.wipe_length]; omega), List.getElem?_eq_none (by omega)]
    · rw [List.getElem?_set_ne hv, wipe_get]
      have e : (i ∈ v :: vs ∧ i < σ.length) ↔ (i ∈ vs ∧ i < σ.length) := by simp [Ne.symm hv]
      simp only [e]
theorem wipe_wipe (σ : L2.St) (vs : List Nat) : L2.wipe (L2.wipe σ vs) vs = L2.wipe σ vs := by
  apply List.ext_getElem?
  intro i
  rw [wipe_get, wipe_get, L2.wipe_length]
  by_cases h : i ∈ vs ∧ i < σ.length
  · rw [if_pos h]; simp [h]
  · rw [if_neg h, if_neg h]
theorem wipe_set {σ : L2.St} {i : Nat} {o : Option V} {vs : List Nat} (h : i ∈ vs) : L2.wipe (σ.set i o) vs = L2.wipe σ vs := by
  apply List.ext_getElem?
  intro j
  rw [wipe_get, wipe_get, List.length_set]
  by_cases hj : j ∈ vs ∧ j < σ.length
  · rw [if_pos hj, if_pos hj]
  · rw [if_neg hj, if_neg hj]
    by_cases e : i = j
    · subst e
      have : ¬ i < σ.length := fun z => hj ⟨h, z⟩
      rw [List.getElem?_eq_none (by simpa using this), List.getElem?_eq_none (by simpa using this)]
    · rw [List.getElem?_set_ne e]
theorem _root_.L2.PG.imp {e : Expr} {t t' : TG} (h : PG X e t) (i : ∀ v σ H Q, t' v σ H Q → t v σ H Q) : PG X e t' := ⟨fun pins s σ H v u Q I r q => h.run pins s σ H v u Q I r (i v σ H Q q)⟩
theorem _root_.L2.PGs.imp {e : List Expr} {t t' : TGs} (h : PGs X e t) (i : ∀ v σ H Q, t' v σ H Q → t v σ H Q) : PGs X e t' := ⟨fun pins s σ H v u Q I r q => h.run pins s σ H v u Q I r (i v σ H Q q)⟩
/-- targets give the same at each store -/
def Still (g : GM) : Prop := ∀ d ρ, (∃ ρ', ∀ T, g d ρ T = .ok ρ' T) ∨ ∀ T, g d ρ T = .stk
def Stills (g : GsM) : Prop := ∀ d ρ, (∃ ρ', ∀ T, g d ρ T = .ok ρ' T) ∨ ∀ T, g d ρ T = .stk
theorem still_name (i : Nat) : Still (gName i) := fun d ρ => by
  unfold gName
  split
  · exact .inl ⟨_, fun _ => rfl⟩
  · exact .inr fun _ => rfl
theorem still_nil : Stills gNil := fun ds ρ => by
  cases ds with
  | nil => exact .inl ⟨_, fun _ => rfl⟩
  | cons d ds => exact .inr fun _ => rfl
theorem still_cons {g : GM} {r : GsM} (a : Still g) (b : Stills r) : Stills (gCons g r) := fun ds ρ => by
  cases ds with
  | nil => exact .inr fun _ => rfl
  | cons d ds =>
    rcases a d ρ with ⟨ρ1, h⟩ | h
    · rcases b ds ρ1 with ⟨ρ2, h2⟩ | h2
      · exact .inl ⟨ρ2, fun T => by show (g d ρ >>= fun ρ' => r ds ρ') T = _; rw [bind_run, h]; exact h2 T⟩
      · exact .inr fun T => by show (g d ρ >>= fun ρ' => r ds ρ') T = _; rw [bind_run, h]; exact h2 T
    · exact .inr fun T => by show (g d ρ >>= fun ρ' => r ds ρ') T = _; rw [bind_run, h]
theorem still_tup {n : Nat} {g : GsM} (a : Stills g) : Still (gTup n g) := fun d ρ => by
  cases d <;> first | exact .inr fun _ => rfl | skip
  rename_i xs
  by_cases e : xs.length = n
  · rcases a xs ρ with ⟨ρ1, h⟩ | h
    · exact .inl ⟨ρ1, fun T => by show (if xs.length = n then g xs ρ else stk) T = _; rw [if_pos e]; exact h T⟩
    · exact .inr fun T => by show (if xs.length = n then g xs ρ else stk) T = _; rw [if_pos e]; exact h T
  · exact .inr fun T => by show (if xs.length = n then g xs ρ else stk) T = _; rw [if_neg e]; rfl
theorem pg_nameO {i : Nat} {x : Str} {pos : Pos} (hN : X.N.Nodup) (hi : X.N[i]? = some x) (hx : Loc X.env.scope x) (hf : X.fn x = true ∨ X.env.scope.names.lookup x = some .local) {vs : List Nat} (hv : i ∈ vs) : PG X (.Name x pos) (tG p vs (gName i)) :=
  (pg_name hN hi hx hf).imp fun v σ H Q ⟨ρ, μ, S, d, R, E, r, ρ', hg, q⟩ => by
    have h := hg []
    unfold gName at h
    split at h
    · cases h; exact q _ (E.set r) (wipe_set hv)
    · cases h
theorem pgs_nilO {vs : List Nat} : PGs X [] (tGs p vs gNil) := pgs_nil.imp fun v σ H Q ⟨ρ, μ, S, ds, R, E, r, ρ', hg, q⟩ => by
  have h := hg []
  cases ds with
  | nil => cases h; exact ⟨r, q _ E rfl⟩
  | cons d ds => cases h
theorem pgs_consO {e : Expr} {es : List Expr} {g : GM} {gs : GsM} {vv : List Nat} (sg : Still g) (sr : Stills gs) (h1 : PG X e (tG p vv g)) (h2 : PGs X es (tGs p vv gs)) (hs : noStar e = true) : PGs X (e :: es) (tGs p vv (gCons g gs)) := by
  have ha : (assignEach (e :: es) X.env).map (·.2) = assign e X.env :: (assignEach es X.env).map (·.2) := by
    cases e <;> first | rfl | (simp [noStar] at hs)
  refine (pgs_cons h1 h2 ha).imp fun vs σ H Q ⟨ρ, μ, S, ds, R, E, r, ρ', hg, q⟩ => ?_
  cases ds with
  | nil => have z := hg []; cases z
  | cons d ds =>
    obtain ⟨v, w, rfl, r1, r2⟩ := r
    refine ⟨v, w, rfl, ?_⟩
    rcases sg d ρ with ⟨ρ1, k1⟩ | k1
    · rcases sr ds ρ1 with ⟨ρ2, k2⟩ | k2
      · have e2 : ρ2 = ρ' := by
          have z : (g d ρ >>= fun ρ' => gs ds ρ') [] = .ok ρ' [] := hg []
          rw [bind_run, k1, ] at z
          have z' : gs ds ρ1 [] = .ok ρ' [] := z
          rw [k2] at z'
          cases z'; rfl
        subst e2
        exact ⟨ρ, μ, S, d, R, E, r1, ρ1, k1, fun σ1 E1 w1 => ⟨ρ1, μ, S, ds, R, E1, r2, ρ2, k2, fun σ2 E2 w2 => q σ2 E2 (w2.trans w1)⟩⟩
      · have z : (g d ρ >>= fun ρ' => gs ds ρ') [] = .ok ρ' [] := hg []
        rw [bind_run, k1] at z
        have z' : gs ds ρ1 [] = .ok ρ' [] := z
        rw [k2] at z'; cases z'
    · have z : (g d ρ >>= fun ρ' => gs ds ρ') [] = .ok ρ' [] := hg []
      rw [bind_run, k1] at z; cases z
theorem assignEach_len {env : PySem.Env} : ∀ {es : List Expr}, (assignEach es env).length = es.length
  | [] => rfl
  | e :: es => by
    cases e <;> (show (_ :: assignEach es env).length = _; rw [List.length_cons, List.length_cons, assignEach_len])
theorem assignEach_star {env : PySem.Env} : ∀ {es : List Expr}, es.all noStar = true → (assignEach es env).findIdx? (·.1) = none
  | [], _ => rfl
  | e :: es, h => by
    rw [List.all_cons, Bool.and_eq_true] at h
    have : assignEach (e :: es) env = (false, assign e env) :: assignEach es env := by
      obtain ⟨h1, _⟩ := h
      cases e <;> first | rfl | (simp [noStar] at h1)
    rw [this, List.findIdx?_cons, assignEach_star h.2]
    rfl
theorem pg_tupO {es : List Expr} {k : Nat} {gs : GsM} {pos : Pos} {vv : List Nat} (hK : X.K = p.K) (hc : X.calm = true) (h : PGs X es (tGs p vv gs)) (hs : es.all noStar = true) : PG X (.Tuple es k pos) (tG p vv (gTup es.length gs)) :=
  (pg_tup hc h assignEach_len (assignEach_star hs)).imp fun v σ H Q ⟨ρ, μ, S, d, R, E, r, ρ', hg, q⟩ => by
    cases d <;> first | (have z := hg []; cases z; done) | skip
    rename_i xs
    obtain ⟨a, vs, rfl, sa, la, ra⟩ := r
    have hg' : ∀ T, (if xs.length = es.length then gs xs ρ else stk) T = .ok ρ' T := hg
    by_cases e : xs.length = es.length
    · exact ⟨a, vs, rfl, hK ▸ sa, ra.len.trans e, ρ, μ, S, xs, R, E, ra, ρ', fun T => by have z := hg' T; rw [if_pos e] at z; exact z, q⟩
    · have z := hg' []
      rw [if_neg e] at z; cases z
end
end Pin

set_option Elab.async false
set_option linter.all false
set_option maxRecDepth 100000
set_option maxHeartbeats 2000000
/-! PinH: enumerate over a tuple; what is walked, as the machine has it. -/
namespace Pin
open PySem PySem.Spec PyProof.Rows L2
/-! ### enumerate(tuple) -/
section
open PySem.Sem (wp)
open AutoSeq1 (wpAny_loadPart')
theorem meets_enumerate_newT (l : Addr) (items : Array Value) :
    Meets (Builtin.«enumerate.__new__» ⟨[.type "enumerate", .ref l], []⟩) (fun _ R s => s.heap.IsTuple l items ∧
      R (.ok (.ret (.ref (s.heap.push { cls := .type "tuple_iterator", data := .fields #[.ref l, .int 0 0] }).objs.size)))
        { s with heap := (s.heap.push { cls := .type "tuple_iterator", data := .fields #[.ref l, .int 0 0] }).push { cls := .type "enumerate", data := .fields #[.none, .bool false, .ref s.heap.objs.size, rawInt 0, .none, .none] } }) :=
  .of_wp fun prog w A R s h => by
    obtain ⟨hp, g, d, tk, os⟩ := s; obtain ⟨hl, h⟩ := h
    have hsub := sub_enumerate
    have hL : Heap.IsTuple (Shared.heap ⟨hp, g, d, tk, os⟩) l items := hl
    wp_walk using wpAny_pyIter_tuple hL
    refine wpAny_stack_any fun st => wpAny_pure ?_
    split
    · rename_i c _ _ _ _ _
      cases (c == Value.type "enumerate")
      · wp_walk using wpAny_pyIter_tuple hL
        exact ⟨_, rfl, h⟩
      · wp_walk using wpAny_pyIter_tuple hL
        exact ⟨_, rfl, h⟩
    · wp_walk using wpAny_pyIter_tuple hL
      exact ⟨_, rfl, h⟩
variable {prog : Program} {w : World} {A : Around} {E : Value → Shared → Prop} {s : Shared}
theorem call_enumerate_tup {l : Addr} {items : Array Value} {Q : Value → Shared → Prop} (hL : s.heap.IsTuple l items)
    (h : ∀ h', IsEnum h' (s.heap.objs.size + 1) s.heap.objs.size 0 .none → h'.IsTupleIter s.heap.objs.size l 0 → h'.objs.size = s.heap.objs.size + 2 →
      (∀ b o, s.heap.get? b = some o → h'.get? b = some o) → Q (.ref (s.heap.objs.size + 1)) { s with heap := h' }) :
    wpAny (model prog w) A (call (.type "enumerate") [.ref l]) Q E s := by
  refine callType_new F.called_enumerate (by decide) (F.typeCall_enumerate_1 _) (F.newCall_enumerate_1 _) (fun obj => F.args_object_init_2 obj _) F.entry_enumerate_new
    (meets_enumerate_newT l items) ⟨hL, ?_⟩
  have hz : (s.heap.push { cls := .type "tuple_iterator", data := .fields #[.ref l, .int 0 0] }).objs.size = s.heap.objs.size + 1 := Heap.size_push ..
  show _ ∧ _
  rw [hz]
  have he : IsEnum ((s.heap.push { cls := .type "tuple_iterator", data := .fields #[.ref l, .int 0 0] }).push
      { cls := .type "enumerate", data := .fields #[.none, .bool false, .ref s.heap.objs.size, rawInt 0, .none, .none] }) (s.heap.objs.size + 1) s.heap.objs.size 0 .none := by
    have := Heap.get?_push_size (s.heap.push { cls := .type "tuple_iterator", data := .fields #[.ref l, .int 0 0] })
      (o := { cls := .type "enumerate", data := .fields #[.none, .bool false, .ref s.heap.objs.size, rawInt 0, .none, .none] }) rfl
    rw [hz] at this; exact this
  refine ⟨⟨_, he, rfl⟩, h _ he ⟨_, Heap.get?_push_of_some _ (Heap.get?_push_size _ rfl), rfl, rfl⟩ (by rw [Heap.size_push, hz]) fun b o x => Heap.get?_push_of_some _ (Heap.get?_push_of_some _ x)⟩
theorem draws_tup (hh : A.handled = none) (it a : Addr) (items : Array Value) (hne : a ≠ it) : Draws prog w A.in1 it [it, a] items.size (fun i x => items[i]? = some x) (fun i h => h.IsTupleIter it a i ∧ h.IsTuple a items) where
  live := fun i h ⟨⟨o, e, _⟩, _⟩ => ⟨o, e⟩
  frame := fun i h h' st k => ⟨st.1.at fun o e => k it (by simp) o e, by obtain ⟨o, e, r⟩ := st.2; exact ⟨o, k a (by simp) o e, r⟩⟩
  item := fun i s Q E hi st hQ => RZ.nextOf_tuple_item st.1 st.2 (x := items[i]) (by simp [hi]) fun h' it' sb => hQ _ h' s.toks (by simp [hi]) ⟨it', by obtain ⟨o, e, r⟩ := st.2; exact ⟨o, (sb.2 a hne).trans e, r⟩⟩ sb
  done := fun s Q E st hE => RZ.nextOf_tuple_end (by exact hh) st.1 st.2 (by simp) hE
end
/-- the tuple at a, each item in a new pair with its place -/
def IteT (K : PySem.W.Frag) (a : Addr) : It :=
  ⟨fun i H => ∃ (xs : List V) (x : V), SqT K H a xs ∧ xs[i]? = some x, fun i H v H' => ∃ T x, v = .ref T ∧ H T = none ∧ H' = upd H T (.tup [.int (i : Nat), x]) ∧ ∀ xs, SqT K H a xs → xs[i]? = some x, fun i H => ∃ xs : List V, SqT K H a xs ∧ xs.length ≤ i⟩
theorem turn_enumT {P : Program} {w : World} {K : PySem.W.Frag} {elts : List Expr} {kk : Nat} {tpos : Pos} (a e it : Addr) :
    Turn P w K (.Tuple elts kk tpos) (IteT K a) [e, it] e (fun i h => (∃ old, IsEnum h e it ((i : Nat) : Int) old) ∧ h.IsTupleIter it a i ∧ e ≠ it ∧ a ≠ it ∧ a ≠ e) where
  mem := by simp
  obj := fun i h st b hb => by
    obtain ⟨⟨old, he⟩, ⟨o, ho, hc, hd⟩, _⟩ := st
    have e' : b = e ∨ b = it := by simpa using hb
    rcases e' with z | z
    · rw [z]; exact ⟨_, he, fun v q => nomatch q⟩
    · rw [z]; exact ⟨o, ho, fun v q => by rw [hd] at q; cases q⟩
  keep := fun i h h' st k => let ⟨⟨old, he⟩, hi, hne⟩ := st; ⟨⟨old, k e (by simp) _ he⟩, hi.at fun o q => k it (by simp) o q, hne⟩
  item := by
    intro X hP hw hK hc i pins s σ H E I hf st hg
    subst hP hw hK
    obtain ⟨⟨old, he⟩, hit, hne, hai, hae⟩ := st
    obtain ⟨xs, x, hq, hx⟩ := hg
    obtain ⟨its, rv, p, hz⟩ := I.tuple hq
    obtain ⟨u, hu, ru⟩ := rv.get hx
    have hel : e < s.heap.objs.size := Heap.lt_size he
    have hil : it < s.heap.objs.size := by obtain ⟨_, q, _⟩ := hit; exact Heap.lt_size q
    have hi : i < its.toArray.size := by simpa using (List.getElem?_eq_some_iff.mp hu).1
    refine wpAny_pyNext_enum_itemD (draws_tup (I.ok.hd hc) it a its.toArray hai) he ⟨hit, p⟩ hi hne (by simp [hne, Ne.symm hae]) fun u2 h' tk hu2 ho hst2 hT hsz hk => ?_
    have eu : u2 = u := by
      have : its.toArray[i]? = some u := by simpa using hu
      rw [this] at hu2; exact (Option.some.inj hu2).symm
    subst eu
    refine ⟨_, rfl, wpAny_letOwnedTupleGo_enum (s := { s with heap := h', toks := tk + 1 }) ho fun h'' he' sb => ?_⟩
    have hT2 : h''.get? s.heap.objs.size = some { cls := .type "tuple", data := .seq #[.int i tk, u2] } := (sb.2 _ (Nat.ne_of_gt hel)).trans hT
    have new : ObjOk X.prog X.w (upd H s.heap.objs.size (.tup [.int (i : Nat), x])) h'' s.heap.objs.size (.tup [.int (i : Nat), x]) :=
      ⟨by show 2 ≤ sizeLine; decide, [.int i tk, u2], .cons ⟨_, rfl⟩ (.cons ru .nil), ⟨_, hT2, rfl, _, rfl⟩⟩
    have I1 : Inv X pins σ (upd H s.heap.objs.size (.tup [.int (i : Nat), x])) { s with heap := h'', toks := tk + 1 } :=
      I.turnedNew (ch := [e, it]) (fun b ob hb q => (sb.2 b (fun z => hb (by simp [z]))).trans (hk b ob (fun z => hb (by simp [z])) (fun z => hb (by simp [z])) q)) hf (Nat.le_refl _) new
    refine ⟨.ref s.heap.objs.size, _, I1, rfl, ⟨_, x, rfl, I.hok.fresh (Nat.le_refl _), rfl, fun ys hy => by rw [I.tuple_inj hy hq]; exact hx⟩, ⟨⟨u2, ?_⟩, hst2.1.at fun o q => (sb.2 it (Ne.symm hne)).trans q, hne, hai, hae⟩, fun b hb => ?_⟩
    · have e1 : ((i + 1 : Nat) : Int) = (i : Int) + 1 := by omega
      rw [e1]; exact he'
    · have hb' : b < s.heap.objs.size := by
        have e' : b = e ∨ b = it := by simpa using hb
        rcases e' with z | z
        · rw [z]; exact hel
        · rw [z]; exact hil
      rw [upd_ne (Nat.ne_of_lt hb')]
      exact (hf b hb).1
  done := by
    intro X hP hw hK hc i pins s σ H E I hf st hg
    subst hP hw hK
    obtain ⟨⟨old, he⟩, hit, hne, hai, hae⟩ := st
    obtain ⟨xs, hq, hx⟩ := hg
    obtain ⟨its, rv, p, hz⟩ := I.tuple hq
    obtain ⟨f0, f1, f2, f3, f4, f5⟩ := hf it (by simp)
    have hl := rv.length
    unfold pyNext
    have hT : s.TypeIs (.ref e) "enumerate" := ⟨_, he, rfl⟩
    refine wpAny_bind (wpAny_attempt (wpAny_callSpecial?_slot (name := Str.ofString "__next__") hT F.slot_enumerate_next
      (wpAny_call_entry F.slot_enumerate_next hT F.entry_enumerate_next ?_ (F.args_enumerate_next_1 _))))
    show wpAny _ _ (field (.ref e) 2 >>= _) _ _ _
    refine wpAny_bind (wpAny_field he rfl (x := .ref it) rfl ?_)
    refine wpAny_bind (RZ.nextOf_tuple_end (by exact I.ok.hd hc) hit p (by simp; omega) fun h' x he' hx' => ?_)
    obtain ⟨o, ho, hc⟩ := hx'
    refine wpAny_bind (wpAny_isInstance (T := "StopIteration") (b := true) ⟨o, ho, hc⟩ isSubtype_stop ?_)
    exact wpAny_pure ⟨rfl, I.turned (t' := s.toks) (fun b o hb q => he' b o hb q) f0 f1 f3 f4 f5⟩
  self := fun A i s Q E st h => let ⟨⟨_, he⟩, _⟩ := st; wpAny_pyIter_enum he h
theorem walk_enumT {K : PySem.W.Frag} {a : Addr} {xs : List V} : Walk (IteT K a) xs.length (fun H => SqT K H a xs) (YPair (fun i => some (.int (i : Nat))) (fun i => xs[i]?)) :=
  ⟨fun i _ hi q => ⟨xs, xs[i], q, by simp [hi]⟩, fun _ q => ⟨xs, q, Nat.le_refl _⟩, fun i H v H' _ q ⟨T, x, e1, e2, e3, e4⟩ => ⟨T, .int (i : Nat), x, e1, e2, e3, rfl, e4 xs q⟩⟩
theorem walk_zipT {K : PySem.W.Frag} {a b : Addr} {xs ys : List V} {n : Nat} (hn : n = min xs.length ys.length) : Walk (RZ.ItzT K a b) n (fun H => SqT K H a xs ∧ SqT K H b ys) (YPair (fun i => xs[i]?) (fun i => ys[i]?)) := by
  refine ⟨fun i H hi q => ⟨xs, ys, xs[i]'(by omega), ys[i]'(by omega), q.1, q.2, by simp [show i < xs.length by omega], by simp [show i < ys.length by omega]⟩, fun H q => ⟨xs, ys, q.1, q.2, by omega⟩, fun i H v H' _ q ⟨T, x, y, e1, e2, e3, e4, e5⟩ => ⟨T, x, y, e1, e2, e3, e4 xs q.1, e5 ys q.2⟩⟩
section
variable {X : Cx}
def iEnumA (K : PySem.W.Frag) (ta : TA) : TI := fun σ H R => ta σ H fun vs H1 => ∃ a xs, vs = [.ref a] ∧ ((SqL K H1 a xs ∧ R (Ite K a) H1) ∨ (SqT K H1 a xs ∧ R (IteT K a) H1))
theorem pi_enumA {e : Expr} {ta : TA} {p pos tpos : Pos} {elts : List Expr} {kk : Nat} (hg : Gl X "enumerate") (hm : X.mg "enumerate" = none) (ha : PA X [e] ta) (hs : starEach [e] X.env = [(false, eval e X.env)]) :
    PI X (.Tuple elts kk tpos) (.Call (.Name "enumerate" p) [e] [] pos) (iEnumA X.K ta) := by
  refine ⟨fun pins s σ H R I h => ?_⟩
  refine Call_ (ld_blt I hg hm boot_enumerate (PyProof.Rows.callWith_type1 (thn (ha.run pos pins s σ H _ I h) fun us s1 ⟨vs, H1, I1, r1, q1⟩ => ?_) hs rfl))
  obtain ⟨a, xs, ex, q1⟩ := q1
  subst ex
  cases r1 with
  | cons r rr =>
    cases rr
    cases r
    have fr : ∀ b, b ∈ [s1.heap.objs.size + 1, s1.heap.objs.size] → FpOk X pins H1 b := fun b hb => by
      have e' : b = s1.heap.objs.size + 1 ∨ b = s1.heap.objs.size := by simpa using hb
      have hle : s1.heap.objs.size ≤ b := by
        rcases e' with z | z
        · rw [z]; exact Nat.le_add_right _ _
        · rw [z]; exact Nat.le_refl _
      exact I1.fpOk hle (I1.hok.fresh hle)
    rcases q1 with ⟨hq, q⟩ | ⟨hq, q⟩
    · obtain ⟨its, rv, p', hz⟩ := I1.list hq
      refine call_enumerate_list p'.isList fun h' he hit hsz hk => wpAny_pyIter_enum he ?_
      have I2 : Inv X pins σ H1 { s1 with heap := h' } := I1.kept (t' := s1.toks) hk
      exact ⟨s1.heap.objs.size + 1, [s1.heap.objs.size + 1, s1.heap.objs.size], _, _, H1, rfl, I2, turn_enum a (s1.heap.objs.size + 1) s1.heap.objs.size, ⟨⟨.none, he⟩, hit, Nat.succ_ne_self _⟩, fr, q⟩
    · obtain ⟨its, rv, p', hz⟩ := I1.tuple hq
      have hlt : a < s1.heap.objs.size := by obtain ⟨o, e, _⟩ := p'; exact Heap.lt_size e
      refine call_enumerate_tup (show s1.heap.IsTuple a its.toArray from p') fun h' he hit hsz hk => wpAny_pyIter_enum he ?_
      have I2 : Inv X pins σ H1 { s1 with heap := h' } := I1.kept (t' := s1.toks) hk
      exact ⟨s1.heap.objs.size + 1, [s1.heap.objs.size + 1, s1.heap.objs.size], _, _, H1, rfl, I2, turn_enumT a (s1.heap.objs.size + 1) s1.heap.objs.size, ⟨⟨.none, he⟩, hit, Nat.succ_ne_self _, Nat.ne_of_lt hlt, Nat.ne_of_lt (Nat.lt_succ_of_lt hlt)⟩, fr, q⟩
/-- a list or a tuple, walked -/
def iAny (K : PySem.W.Frag) (tl : TE) : TI := fun σ H R => tl σ H fun x H1 => ∃ a xs, x = .ref a ∧ ((SqL K H1 a xs ∧ R (Itl K a) H1) ∨ (SqT K H1 a xs ∧ R (Itt K a) H1))
theorem pi_any {tg l : Expr} {tl : TE} (hl : PE X l tl) : PI X tg l (iAny X.K tl) := by
  refine ⟨fun pins s σ H R I h => ?_⟩
  refine thn (hl.run pins s σ H _ I h) fun v s1 ⟨x, H1, I1, r1, q1⟩ => ?_
  obtain ⟨a, xs, e, q⟩ := q1
  subst e
  cases r1
  rcases q with ⟨hq, q⟩ | ⟨hq, q⟩
  · obtain ⟨its, rv, p, hz⟩ := I1.list hq
    refine wpAny_pyIter_list p.isList ?_
    refine ⟨s1.heap.objs.size, [s1.heap.objs.size], _, _, H1, rfl, I1.kept (t' := s1.toks) fun b o e => Heap.get?_push_of_some _ e, turn_list a _, ⟨_, Heap.get?_push_size _ rfl, rfl, rfl⟩, fun b hb => ?_, q⟩
    have e : b = s1.heap.objs.size := by simpa using hb
    subst e
    exact I1.fpOk (Nat.le_refl _) (I1.hok.fresh (Nat.le_refl _))
  · obtain ⟨its, rv, p, hz⟩ := I1.tuple hq
    refine wpAny_pyIter_tuple (show s1.heap.IsTuple a its.toArray from p) ?_
    refine ⟨s1.heap.objs.size, [s1.heap.objs.size], _, _, H1, rfl, I1.kept (t' := s1.toks) fun b o e => Heap.get?_push_of_some _ e, turn_tuple a _, ⟨_, Heap.get?_push_size _ rfl, rfl, rfl⟩, fun b hb => ?_, q⟩
    have e : b = s1.heap.objs.size := by simpa using hb
    subst e
    exact I1.fpOk (Nat.le_refl _) (I1.hok.fresh (Nat.le_refl _))
end
/-! ### t[::-1] -/
section
open PySem.SeqAt
open PySem.AutoSeq1 (wpAny_loadPart')
open PySem.MeetsSeq PySem.MeetsSeq2 PySem.MeetsSeq3
variable {prog : Program} {w : World} {A : Around} {E : Value → Shared → Prop} {s : Shared}
theorem sliceApplied_rev {sl : Addr} {vl vu vs : Value} {n : Nat} {Q : Int × Int × Nat → Shared → Prop} (hs : s.heap.IsSliceOf sl vl vu vs) (pl : IsPart vl none) (pu : IsPart vu none) (ps : IsPart vs (some (-1)))
    (h : Q ((n : Int) - 1, -1, n) s) : wpAny (model prog w) A (Builtin.Slice.sliceApplied (.ref sl) (pure (n : Int))) Q E s := by
  obtain ⟨os, hos, hcs, hds⟩ := id hs
  unfold Builtin.Slice.sliceApplied Builtin.Slice.sliceFields
  refine wpAny_bind (wpAny_bind (wpAny_field hos hds (x := vl) rfl (wpAny_bind (wpAny_field hos hds (x := vu) rfl (wpAny_bind (wpAny_field hos hds (x := vs) rfl (wpAny_pure ?_)))))))
  refine wpAny_bind (HT.slicePart_ ps ?_)
  show wpAny _ _ (if ((-1 : Int) == 0) = true then _ else _) _ _ s
  rw [if_neg (by decide)]
  refine wpAny_bind (HT.slicePart_ pl (wpAny_bind (HT.slicePart_ pu (wpAny_bind (wpAny_pure ?_)))))
  show wpAny _ _ (pure ((n : Int) - 1, (-1 : Int), Builtin.Slice.slicePlaces ((n : Int) - 1) (-1) (-1))) _ _ s
  have e : Builtin.Slice.slicePlaces ((n : Int) - 1) (-1) (-1) = n := by
    unfold Builtin.Slice.slicePlaces
    rw [if_neg (by decide)]
    split
    · rw [show (-(-1) : Int) = 1 by decide, Int.ediv_one]
      omega
    · show Int.toNat 0 = n
      omega
  rw [e]
  exact wpAny_pure h
theorem fm_map {α β : Type} {f : α → Option β} {g : α → β} : ∀ {l : List α}, (∀ m ∈ l, f m = some (g m)) → l.filterMap f = l.map g
  | [], _ => rfl
  | a :: l, h => by
    rw [List.filterMap_cons, h a List.mem_cons_self, List.map_cons, fm_map fun m hm => h m (List.mem_cons_of_mem _ hm)]
theorem pick_rev (xs : Array Value) : ((List.range xs.size).filterMap fun (m : Nat) => xs[((xs.size : Int) - 1 + (m : Int) * -1).toNat]?).toArray = xs.toList.reverse.toArray := by
  congr 1
  apply List.ext_getElem?
  intro i
  have e : (List.range xs.size).filterMap (fun (m : Nat) => xs[((xs.size : Int) - 1 + (m : Int) * -1).toNat]?) = (List.range xs.size).map (fun m => (xs[xs.size - 1 - m]?).getD .none) := by
    apply fm_map
    intro m hm
    have hm := List.mem_range.mp hm
    have : ((xs.size : Int) - 1 + (m : Int) * -1).toNat = xs.size - 1 - m := by omega
    rw [this]
    have h2 : xs.size - 1 - m < xs.size := by omega
    simp [h2]
  rw [e]
  by_cases hi : i < xs.size
  · have h2 : xs.size - 1 - i < xs.size := by omega
    rw [List.getElem?_map, List.getElem?_range hi, List.getElem?_reverse (by simpa using hi)]
    simp [h2]
  · rw [List.getElem?_eq_none (by simp; omega), List.getElem?_eq_none (by simp; omega)]
theorem getItem_tuple_rev {t sl : Addr} {items : Array Value} {vl vu vs : Value} {Q : Value → Shared → Prop} (ht : IsTup s.heap t items) (hs : s.heap.IsSliceOf sl vl vu vs) (pl : IsPart vl none) (pu : IsPart vu none) (ps : IsPart vs (some (-1)))
    (h : Q (.ref s.heap.objs.size) { s with heap := s.heap.push { cls := .type "tuple", data := .seq items.toList.reverse.toArray } })
    (hsz : items.size ≤ sizeLine) : wpAny (model prog w) A (getItem (.ref t) (.ref sl)) Q E s := by
  have htake : sizeOk (.seq items.toList.reverse.toArray) := by
    show items.toList.reverse.toArray.size ≤ sizeLine
    simpa using hsz
  obtain ⟨os, hos, hcs, hds⟩ := id hs
  have hTs : s.TypeIs (.ref sl) "slice" := ⟨os, hos, hcs⟩
  unfold getItem
  try with_reducible refine wpAny_holding ?_
  first | refine wpAny_bind (wpAny_pure ?_) | skip
  refine wpAny_bind (wpAny_sequenceKey ht.typeIs (by decide) ?_)
  refine wpAny_bind (wpAny_callSpecial?_slot (name := Str.ofString "__getitem__") ht.typeIs PyProof.Rows.slot_tuple_getitem
    (wpAny_call_entry PyProof.Rows.slot_tuple_getitem ht.typeIs entry_tuple_getitem ?_ (args_tuple_getitem _ _)))
  show wpAny _ _ (Builtin.Tuple.tupleItemsOf (.ref t) >>= _) _ _ s
  refine wpAny_bind (tupleItemsOf_ ht ?_)
  refine wpAny_bind (wpAny_typeOf hTs ?_)
  rw [if_pos (by decide)]
  refine wpAny_bind (sliceApplied_rev hs pl pu ps ?_)
  show wpAny _ _ (if ((items.size : Int) - 1 == 0 && (-1 : Int) == 1 && items.size == items.size) = true then _ else _) _ _ s
  rw [if_neg (by rw [show ((-1 : Int) == 1) = false by decide]; simp), pick_rev]
  first
    | exact wpAny_bind (m := Builtin.Tuple.tupleExact _) (wpAny_newObj_type (wpAny_pure ⟨_, rfl, wpAny_pure h⟩) htake)
    | exact wpAny_bind (m := Builtin.Tuple.tupleExact _) (wpAny_newObj_type (wpAny_bind (wpAny_pure (wpAny_pure ⟨_, rfl, wpAny_pure h⟩))) htake)
    | exact wpAny_bind (wpAny_bind (m := Builtin.Tuple.tupleExact _) (wpAny_newObj_type (wpAny_pure (wpAny_pure ⟨_, rfl, wpAny_pure h⟩)) htake))
    | exact wpAny_bind (wpAny_bind (m := Builtin.Tuple.tupleExact _) (wpAny_newObj_type (wpAny_pure ⟨_, rfl, wpAny_pure h⟩) htake))
end
def tRevA (K : PySem.W.Frag) (te : TE) : TE := fun σ H Q => te σ H fun x H1 => ∃ a xs, x = .ref a ∧ ((SqL K H1 a xs ∧ ∀ p, H1 p = none → Q (.ref p) (upd H1 p (.lst xs.reverse))) ∨ (SqT K H1 a xs ∧ ∀ p, H1 p = none → Q (.ref p) (upd H1 p (.tup xs.reverse))))
theorem pe_revA {X : Cx} {e : Expr} {te : TE} {k : Nat} {p1 p2 p3 pos : Pos} (he : PE X e te) : PE X (.Subscript e (.Slice none none (some (.UnaryOp .USub (.Constant (.int 1) k p1) p2)) p3) pos) (tRevA X.K te) := by
  refine ⟨fun pins s σ H Q I h => ?_⟩
  refine Subscript_ (thn (he.run pins s σ H _ I h) fun v s1 ⟨x, H1, I1, r1, q1⟩ => ?_)
  obtain ⟨a, xs, ex, q⟩ := q1
  subst ex
  cases r1
  have hst : PO X (some (.UnaryOp .USub (.Constant (.int 1) k p1) p2)) (tPart (tUn (rU fun i => .int (-i)) (tC (.int 1)))) := po_some (pe_un un_neg pe_int)
  refine wpAny_Slice (thn (po_none.run pins s1 σ H1 (fun o H2 => o = none ∧ H2 = H1) I1 ⟨rfl, rfl⟩) fun vl s2 ⟨l, H2, I2, pl, el, e2⟩ => ?_)
  subst el e2
  refine thn (po_none.run pins s2 σ H2 (fun o H3 => o = none ∧ H3 = H2) I2 ⟨rfl, rfl⟩) fun vu s3 ⟨u, H3, I3, pu, eu, e3⟩ => ?_
  subst eu e3
  refine thn (hst.run pins s3 σ H3 (fun o H4 => o = some (-1) ∧ H4 = H3) I3 ⟨1, rfl, -1, rfl, rfl, rfl⟩) fun vs s4 ⟨o, H4, I4, ps, eo, e4⟩ => ?_
  subst eo e4
  have I5 : Inv X pins σ H4 { s4 with heap := s4.heap.push { cls := .type "slice", data := .fields #[vl, vu, vs] } } := I4.kept (t' := s4.toks) fun b ob q => Heap.get?_push_of_some _ q
  show wpAny (model X.prog X.w) X.A (subscriptTail e (.Slice none none (some (.UnaryOp .USub (.Constant (.int 1) k p1) p2)) p3) (.ref a) (.ref s4.heap.objs.size)) (EP X pins σ Q) X.xe { s4 with heap := s4.heap.push { cls := .type "slice", data := .fields #[vl, vu, vs] } }
  rcases q with ⟨hx, q⟩ | ⟨hx, q⟩
  · obtain ⟨its, r, ht, hz⟩ := I5.list hx
    have hlen := r.length
    refine tail_any (ops := [.ref a, .ref s4.heap.objs.size]) ht.isList.typeIs (PySem.slot_list_getitem.lookup) ?_ (by with_unfolding_all rfl)
    refine wpAny_getItem_list_slice ht.isList (Heap.IsSliceOf.new _ vl vu vs) pl pu ps (by decide) ?_ (by rw [List.size_toArray]; omega)
    rw [PySem.W.krv_pick]
    refine ⟨.ref _, _, I5.laid (t' := s4.toks) (o := .lst xs.reverse) (fun b ob q => Heap.get?_push_of_some _ q) (Nat.le_refl _) ?_, rfl, q _ (I5.hok.fresh (Nat.le_refl _))⟩
    exact ⟨by rw [List.length_reverse]; exact hz, _, 0, r.reverse, Heap.get?_push_size _ rfl⟩
  · obtain ⟨its, r, ht, hz⟩ := I5.tuple hx
    have hlen := r.length
    refine tail_any (ops := [.ref a, .ref s4.heap.objs.size]) ht.typeIs (PyProof.Rows.slot_tuple_getitem.lookup) ?_ (by with_unfolding_all rfl)
    refine getItem_tuple_rev ht (Heap.IsSliceOf.new _ vl vu vs) pl pu ps ?_ (by rw [List.size_toArray]; omega)
    refine ⟨.ref _, _, I5.laid (t' := s4.toks) (o := .tup xs.reverse) (fun b ob q => Heap.get?_push_of_some _ q) (Nat.le_refl _) ?_, rfl, q _ (I5.hok.fresh (Nat.le_refl _))⟩
    exact ⟨by rw [List.length_reverse]; exact hz, _, by simpa using r.reverse, IsTup.new _ _⟩
theorem pe_revO {p : Pm} {W : Wish} {X : Cx} {e : Expr} {m : EM} {c : Cl} {k : Nat} {p1 p2 p3 pos : Pos} (hK : X.K = p.K) (he : PE X e (tI p W (m c))) : PE X (.Subscript e (.Slice none none (some (.UnaryOp .USub (.Constant (.int 1) k p1) p2)) p3) pos) (tI p W (eRev m c)) :=
  (pe_revA he).imp fun σ H Q ⟨ρ, μ, S, R, E, h⟩ => tI.first R E h fun v H1 μ1 S1 x R1 E1 e1 m1 r1 h1 => by
    cases x <;> first | exact False.elim h1 | skip
    · rename_i xs
      obtain ⟨a, vs, rfl, sa, la, ra⟩ := r1
      refine ⟨a, vs, rfl, .inr ⟨hK ▸ sa, fun q hq => ?_⟩⟩
      exact h1 (.ref q) _ μ1 (Ext.new hq) (List.prefix_refl _) (R1.tup hq) ⟨q, _, rfl, SqT.of upd_same, by simpa using la, RVsc.ext (Ext.new hq) (List.prefix_refl _) _ _ ra.reverse⟩
    · rename_i r
      obtain ⟨xs, e0, h1⟩ := Post.getL h1
      obtain ⟨a, vs, rfl, _, ha, ra⟩ := R1.lst e0 r1
      exact ⟨a, vs, rfl, .inl ⟨SqL.of ha, Post.newO R1 ra.reverse h1⟩⟩
end Pin

set_option Elab.async false
set_option linter.all false
set_option maxRecDepth 100000
set_option maxHeartbeats 2000000
/-! PinI: loops and comprehensions. -/
namespace Pin
open PySem PySem.Spec PyProof.Rows L2
/-- J gives the items xs while the lists of gd stand -/
def WkAt (p : Pm) (μ1 : List Addr) (H1 : Hp) (w : Items) (J : It) : Prop :=
  ∃ (G : Hp → Prop) (Y : Nat → Hp → V → Hp → Prop), Walk J w.xs.length G Y ∧ (∀ rs μ H S, Ext H1 H → μ1 <+: μ → RepS (p.at rs) μ H S → GdOk w.gd S → G H) ∧
    ∀ rs i H v H' μ S, i < w.xs.length → Ext H1 H → μ1 <+: μ → RepS (p.at rs) μ H S → GdOk w.gd S → Y i H v H' → Ext H H' ∧ RepS (p.at rs) μ H' S ∧ ∃ d, w.xs[i]? = some d ∧ RV p μ H' d v
def tIt (p : Pm) (W : Wish) (m : Env → M Items) : TI := fun σ H R => ∃ ρ μ S, RepS p μ H S ∧ RepE p μ H ρ σ ∧ Post p (WkAt p) W σ H μ (m ρ S) R
theorem _root_.L2.PI.imp {X : Cx} {tg e : Expr} {t t' : TI} (h : PI X tg e t) (i : ∀ σ H Q, t' σ H Q → t σ H Q) : PI X tg e t' := ⟨fun pins s σ H Q I q => h.run pins s σ H Q I (i σ H Q q)⟩
section
variable {p : Pm}
theorem wk_tup {μ : List Addr} {H : Hp} {a : Addr} {ds : List D} {vs : List V} (sa : SqT p.K H a vs) (ra : RVs p μ H ds vs) : WkAt p μ H ⟨[], ds⟩ (Itt p.K a) := by
  refine ⟨fun H => SqT p.K H a vs, YAt vs, by rw [← ra.len]; exact walk_tup, fun rs μ' H' S e m _ _ => SqT.ext e sa, fun rs i H' v H'' μ' S hi e m R g y => ?_⟩
  obtain ⟨rfl, y⟩ := y
  obtain ⟨d, h1, h2⟩ := ra.getR y
  exact ⟨Ext.refl _, R, d, h1, RVc.ext e m _ _ h2⟩
theorem wk_lst {μ : List Addr} {H : Hp} {r : Nat} {a : Addr} {ds : List D} (m0 : μ[r]? = some a) : WkAt p μ H ⟨[(r, ds)], ds⟩ (Itl p.K a) := by
  refine ⟨fun H => ∃ vs μ', SqL p.K H a vs ∧ vs.length = ds.length ∧ μ <+: μ' ∧ RVs p μ' H ds vs, fun i H x H' => H' = H ∧ ∀ vs, SqL p.K H a vs → vs[i]? = some x, ?_, fun rs μ' H' S e m R g => ?_, fun rs i H' v H'' μ' S hi e m R g y => ?_⟩
  · refine ⟨fun i H (hi : i < ds.length) ⟨vs, μ', q, l, _⟩ => ⟨vs, vs[i]'(by omega), q, by simp [show i < vs.length by omega]⟩, fun H ⟨vs, μ', q, l, _⟩ => ⟨vs, q, by show vs.length ≤ ds.length; omega⟩, fun i H x H' hi _ y => y⟩
  · obtain ⟨vs, h1, h2⟩ := R.ob r _ a (g (r, ds) (by simp)) (pre_get m m0)
    exact ⟨vs, μ', SqL.of h1, h2.len, m, h2⟩
  · obtain ⟨rfl, y⟩ := y
    obtain ⟨vs, h1, h2⟩ := R.ob r _ a (g (r, ds) (by simp)) (pre_get m m0)
    obtain ⟨d, h3, h4⟩ := h2.getR (y vs (SqL.of h1))
    exact ⟨Ext.refl _, R, d, h3, h4⟩
theorem rangeD_get {lo : Int} {n i : Nat} (h : i < n) : (rangeD lo n)[i]? = some (.int (lo + (i : Nat))) := by
  unfold rangeD
  rw [List.getElem?_map, List.getElem?_range h]
  rfl
theorem rangeD_len {lo : Int} {n : Nat} : (rangeD lo n).length = n := by unfold rangeD; simp
theorem wk_rng {μ : List Addr} {H : Hp} {lo : Int} {n : Nat} : WkAt p μ H ⟨[], rangeD lo n⟩ (Itr lo n) := by
  refine ⟨fun _ => True, YFn fun i => .int (lo + i), by rw [rangeD_len]; exact walk_range, fun _ _ _ _ _ _ _ _ => trivial, fun rs i H' v H'' μ' S hi e m R g y => ?_⟩
  obtain ⟨rfl, rfl⟩ := y
  rw [rangeD_len] at hi
  exact ⟨Ext.refl _, R, _, rangeD_get hi, rfl⟩
/-- a new pair is represented -/
theorem pair_rep {rs : Hp} {μ : List Addr} {H : Hp} {S : Store} {T : Addr} {x y : V} {d e : D} (R : RepS (p.at rs) μ H S) (hT : H T = none) (h1 : RV p μ H d x) (h2 : RV p μ H e y) :
    Ext H (upd H T (.tup [x, y])) ∧ RepS (p.at rs) μ (upd H T (.tup [x, y])) S ∧ RV p μ (upd H T (.tup [x, y])) (.tup [d, e]) (.ref T) :=
  ⟨Ext.new hT, R.tup hT, T, [x, y], rfl, SqT.of upd_same, by show 2 ≤ sizeLine; decide, .cons (RVc.ext (Ext.new hT) (List.prefix_refl _) _ _ h1) (.one (RVc.ext (Ext.new hT) (List.prefix_refl _) _ _ h2))⟩
theorem enumD_get {ds : List D} {i : Nat} {d : D} (h : ds[i]? = some d) : (enumD ds)[i]? = some (.tup [.int (i : Nat), d]) := by
  have hi := (List.getElem?_eq_some_iff.mp h).1
  unfold enumD
  rw [List.getElem?_zipWith, List.getElem?_range hi, h]
theorem enumD_len {ds : List D} : (enumD ds).length = ds.length := by unfold enumD; simp
theorem pairsD_get {xs ys : List D} {i : Nat} {d e : D} (h : xs[i]? = some d) (h' : ys[i]? = some e) : (pairsD xs ys)[i]? = some (.tup [d, e]) := by
  unfold pairsD
  have z : (xs.zip ys)[i]? = some (d, e) := List.getElem?_zip_eq_some.mpr ⟨h, h'⟩
  rw [List.getElem?_map, z]
  rfl
theorem pairsD_len {xs ys : List D} : (pairsD xs ys).length = min xs.length ys.length := by unfold pairsD; simp
theorem wk_enumT {μ : List Addr} {H : Hp} {a : Addr} {ds : List D} {vs : List V} (sa : SqT p.K H a vs) (ra : RVs p μ H ds vs) : WkAt p μ H ⟨[], enumD ds⟩ (IteT p.K a) := by
  refine ⟨fun H => SqT p.K H a vs, YPair (fun i => some (.int (i : Nat))) (fun i => vs[i]?), by rw [enumD_len, ← ra.len]; exact walk_enumT, fun rs μ' H' S e m _ _ => SqT.ext e sa, fun rs i H' v H'' μ' S hi e m R g y => ?_⟩
  obtain ⟨T, x, z, rfl, hT, rfl, hx, hz⟩ := y
  cases hx
  obtain ⟨d, h1, h2⟩ := ra.getR hz
  obtain ⟨q1, q2, q3⟩ := pair_rep (d := .int (i : Nat)) R hT rfl (RVc.ext e m _ _ h2)
  exact ⟨q1, q2, _, enumD_get h1, q3⟩
theorem wk_enumL {μ : List Addr} {H : Hp} {r : Nat} {a : Addr} {ds : List D} (m0 : μ[r]? = some a) : WkAt p μ H ⟨[(r, ds)], enumD ds⟩ (Ite p.K a) := by
  refine ⟨fun H => ∃ vs, SqL p.K H a vs ∧ vs.length = ds.length, fun i H v H' => ∃ T x, v = .ref T ∧ H T = none ∧ H' = upd H T (.tup [.int (i : Nat), x]) ∧ ∀ vs, SqL p.K H a vs → vs[i]? = some x, ?_, fun rs μ' H' S e m R g => ?_, fun rs i H' v H'' μ' S hi e m R g y => ?_⟩
  · rw [enumD_len]
    exact ⟨fun i H hi ⟨vs, q, l⟩ => ⟨vs, vs[i]'(by omega), q, by simp [show i < vs.length by omega]⟩, fun H ⟨vs, q, l⟩ => ⟨vs, q, by omega⟩, fun i H x H' hi _ y => y⟩
  · obtain ⟨vs, h1, h2⟩ := R.ob r _ a (g (r, ds) (by simp)) (pre_get m m0)
    exact ⟨vs, SqL.of h1, h2.len⟩
  · obtain ⟨T, x, rfl, hT, rfl, y⟩ := y
    obtain ⟨vs, h1, h2⟩ := R.ob r _ a (g (r, ds) (by simp)) (pre_get m m0)
    obtain ⟨d, h3, h4⟩ := h2.getR (y vs (SqL.of h1))
    obtain ⟨q1, q2, q3⟩ := pair_rep (d := .int (i : Nat)) R hT rfl h4
    exact ⟨q1, q2, _, enumD_get h3, q3⟩
theorem wk_zipT {μ : List Addr} {H : Hp} {a b : Addr} {ds es : List D} {vs ws : List V} (sa : SqT p.K H a vs) (ra : RVs p μ H ds vs) (sb : SqT p.K H b ws) (rb : RVs p μ H es ws) : WkAt p μ H ⟨[], pairsD ds es⟩ (RZ.ItzT p.K a b) := by
  refine ⟨fun H => SqT p.K H a vs ∧ SqT p.K H b ws, YPair (fun i => vs[i]?) (fun i => ws[i]?), walk_zipT (by rw [pairsD_len, ra.len, rb.len]), fun rs μ' H' S e m _ _ => ⟨SqT.ext e sa, SqT.ext e sb⟩, fun rs i H' v H'' μ' S hi e m R g y => ?_⟩
  obtain ⟨T, x, z, rfl, hT, rfl, hx, hz⟩ := y
  obtain ⟨d, h1, h2⟩ := ra.getR hx
  obtain ⟨d', h3, h4⟩ := rb.getR hz
  obtain ⟨q1, q2, q3⟩ := pair_rep R hT (RVc.ext e m _ _ h2) (RVc.ext e m _ _ h4)
  exact ⟨q1, q2, _, pairsD_get h1 h3, q3⟩
theorem wk_zipL {μ : List Addr} {H : Hp} {r q : Nat} {a b : Addr} {ds es : List D} (m0 : μ[r]? = some a) (m1 : μ[q]? = some b) : WkAt p μ H ⟨[(r, ds), (q, es)], pairsD ds es⟩ (Itz p.K a b) := by
  refine ⟨fun H => ∃ vs ws, SqL p.K H a vs ∧ SqL p.K H b ws ∧ vs.length = ds.length ∧ ws.length = es.length,
    fun i H v H' => ∃ T x y, v = .ref T ∧ H T = none ∧ H' = upd H T (.tup [x, y]) ∧ (∀ vs, SqL p.K H a vs → vs[i]? = some x) ∧ ∀ ws, SqL p.K H b ws → ws[i]? = some y, ?_, fun rs μ' H' S e m R g => ?_, fun rs i H' v H'' μ' S hi e m R g y => ?_⟩
  · rw [pairsD_len]
    exact ⟨fun i H hi ⟨vs, ws, q1, q2, l1, l2⟩ => ⟨vs, ws, vs[i]'(by omega), ws[i]'(by omega), q1, q2, by simp [show i < vs.length by omega], by simp [show i < ws.length by omega]⟩, fun H ⟨vs, ws, q1, q2, l1, l2⟩ => ⟨vs, ws, q1, q2, by omega⟩, fun i H x H' hi _ y => y⟩
  · obtain ⟨vs, h1, h2⟩ := R.ob r _ a (g (r, ds) (by simp)) (pre_get m m0)
    obtain ⟨ws, h3, h4⟩ := R.ob q _ b (g (q, es) (by simp)) (pre_get m m1)
    exact ⟨vs, ws, SqL.of h1, SqL.of h3, h2.len, h4.len⟩
  · obtain ⟨T, x, z, rfl, hT, rfl, y1, y2⟩ := y
    obtain ⟨vs, h1, h2⟩ := R.ob r _ a (g (r, ds) (by simp)) (pre_get m m0)
    obtain ⟨ws, h3, h4⟩ := R.ob q _ b (g (q, es) (by simp)) (pre_get m m1)
    obtain ⟨d, e1, e2⟩ := h2.getR (y1 vs (SqL.of h1))
    obtain ⟨d', e3, e4⟩ := h4.getR (y2 ws (SqL.of h3))
    obtain ⟨q1, q2, q3⟩ := pair_rep R hT e2 e4
    exact ⟨q1, q2, _, pairsD_get e1 e3, q3⟩
end
section
variable {p : Pm} {X : Cx} {W : Wish} {c : Cl} {tg a b : Expr} {ma mb : EM} {pos q : Pos}
theorem pi_seqO (hK : X.K = p.K) (ha : PE X a (tI p W (ma c))) : PI X tg a (tIt p W (iSeq ma c)) :=
  (pi_any ha).imp fun σ H Q ⟨ρ, μ, S, R, E, h⟩ => tI.first R E h fun v H1 μ1 S1 x R1 E1 e1 m1 r1 h1 => by
    cases x <;> first | exact False.elim h1 | skip
    · obtain ⟨b, vs, rfl, sa, la, ra⟩ := r1
      refine ⟨b, vs, rfl, .inr ⟨hK ▸ sa, ?_⟩⟩
      rw [hK]
      exact Post.ok h1 R1 (wk_tup sa ra)
    · obtain ⟨ys, e0, h1⟩ := Post.getL h1
      obtain ⟨b, vs, rfl, m, hb, ra⟩ := R1.lst e0 r1
      refine ⟨b, vs, rfl, .inl ⟨SqL.of hb, ?_⟩⟩
      rw [hK]
      exact Post.ok h1 R1 (wk_lst m)
theorem rng_ok {i : Int} (h : rngOk i = true) : -(2 ^ 62) ≤ i ∧ i < 2 ^ 62 := by
  unfold rngOk at h
  simpa only [Bool.and_eq_true, decide_eq_true_eq] using h
theorem pi_rng1O (hg : Gl X "range") (hm : X.mg "range" = none) (ha : PE X a (tI p W (ma c))) (hs : noStar a = true) : PI X tg (.Call (.Name "range" q) [a] [] pos) (tIt p W (iRng1 ma c)) :=
  (pi_range1 hg hm (pa_cons ha pa_nil (star_cons hs)) (star_cons hs)).imp fun σ H Q ⟨ρ, μ, S, R, E, h⟩ => tI.first R E h fun v H1 μ1 S1 x R1 E1 e1 m1 r1 h1 => by
    cases x <;> first | exact False.elim h1 | skip
    cases r1
    obtain ⟨k, h2⟩ := Post.cond h1
    obtain ⟨k1, k2⟩ := rng_ok k
    exact ⟨_, rfl, k1, k2, Post.ok h2 R1 wk_rng⟩
theorem pi_rng2O (hg : Gl X "range") (hm : X.mg "range" = none) (ha : PE X a (tI p W (ma c))) (hb : PE X b (tI p W (mb c))) (hs : noStar a = true) (hs2 : noStar b = true) : PI X tg (.Call (.Name "range" q) [a, b] [] pos) (tIt p W (iRng2 ma mb c)) :=
  (pi_range2 hg hm (pa_cons ha (pa_cons hb pa_nil (star_cons hs2)) (star_cons hs)) (by rw [star_cons hs, star_cons hs2]; rfl) (star_cons hs2)).imp fun σ H Q ⟨ρ, μ, S, R, E, h⟩ =>
    tI.first R E h fun v H1 μ1 S1 x R1 E1 e1 m1 r1 h1 => tI.first R1 E1 h1 fun w H2 μ2 S2 y R2 E2 e2 m2 r2 h2 => by
      cases x <;> first | exact False.elim h2 | skip
      cases y <;> first | exact False.elim h2 | skip
      cases r1
      cases r2
      obtain ⟨k, h3⟩ := Post.cond h2
      rw [Bool.and_eq_true] at k
      obtain ⟨k1, k2⟩ := rng_ok k.1
      obtain ⟨k3, k4⟩ := rng_ok k.2
      exact ⟨_, _, rfl, ⟨k1, k2, k3, k4⟩, Post.ok h3 R2 wk_rng⟩
variable {elts : List Expr} {kk : Nat} {tpos : Pos}
theorem pi_enumO (hK : X.K = p.K) (hg : Gl X "enumerate") (hm : X.mg "enumerate" = none) (ha : PE X a (tI p W (ma c))) (hs : noStar a = true) : PI X (.Tuple elts kk tpos) (.Call (.Name "enumerate" q) [a] [] pos) (tIt p W (iEnum ma c)) :=
  (pi_enumA hg hm (pa_cons ha pa_nil (star_cons hs)) (star_cons hs)).imp fun σ H Q ⟨ρ, μ, S, R, E, h⟩ => tI.first R E h fun v H1 μ1 S1 x R1 E1 e1 m1 r1 h1 => by
    cases x <;> first | exact False.elim h1 | skip
    · obtain ⟨b, vs, rfl, sa, la, ra⟩ := r1
      refine ⟨b, vs, rfl, .inr ⟨hK ▸ sa, ?_⟩⟩
      rw [hK]
      exact Post.ok h1 R1 (wk_enumT sa ra)
    · rename_i rr
      have h1' : Post p (WkAt p) W σ H1 μ1 ((getL rr >>= fun xs => (pure ⟨[(rr, xs)], enumD xs⟩ : M Items)) S1) Q := by
        have z : (walkD (D.ref rr) >>= fun w => (pure ⟨w.gd, enumD w.xs⟩ : M Items)) = (getL rr >>= fun xs => (pure ⟨[(rr, xs)], enumD xs⟩ : M Items)) := by
          show ((getL rr >>= fun xs => (pure ⟨[(rr, xs)], xs⟩ : M Items)) >>= _) = _
          rw [bind_assocM]; rfl
        rw [← z]; exact h1
      obtain ⟨ys, e0, h1⟩ := Post.getL h1'
      obtain ⟨b, vs, rfl, m, hb, ra⟩ := R1.lst e0 r1
      refine ⟨b, vs, rfl, .inl ⟨SqL.of hb, ?_⟩⟩
      rw [hK]
      exact Post.ok h1 R1 (wk_enumL m)
theorem pi_zipO (hK : X.K = p.K) (hg : Gl X "zip") (hm : X.mg "zip" = none) (ha : PE X a (tI p W (ma c))) (hb : PE X b (tI p W (mb c))) (hs : noStar a = true) (hs2 : noStar b = true) : PI X (.Tuple elts kk tpos) (.Call (.Name "zip" q) [a, b] [] pos) (tIt p W (iZip ma mb c)) :=
  (RZ.pi_zipA hg hm (pa_cons ha (pa_cons hb pa_nil (star_cons hs2)) (star_cons hs)) (star_cons hs) (star_plain (by simp [hs2]))).imp fun σ H Q ⟨ρ, μ, S, R, E, h⟩ =>
    tI.first R E h fun v H1 μ1 S1 x R1 E1 e1 m1 r1 h1 => tI.first R1 E1 h1 fun w H2 μ2 S2 y R2 E2 e2 m2 r2 h2 => by
      have r1' := RVc.ext e2 m2 _ _ r1
      cases x <;> cases y <;> first | exact False.elim h2 | skip
      · obtain ⟨a1, vs, rfl, sa, la, ra⟩ := r1'
        obtain ⟨b1, ws, rfl, sb, lb, rb⟩ := r2
        refine ⟨a1, b1, vs, ws, rfl, .inr ⟨hK ▸ sa, hK ▸ sb, ?_⟩⟩
        rw [hK]
        exact Post.ok h2 R2 (wk_zipT sa ra sb rb)
      · obtain ⟨xs, e3, h2⟩ := Post.getL h2
        obtain ⟨ys, e4, h2⟩ := Post.getL h2
        obtain ⟨a1, vs, rfl, m3, ha1, ra⟩ := R2.lst e3 r1'
        obtain ⟨b1, ws, rfl, m4, hb1, rb⟩ := R2.lst e4 r2
        refine ⟨a1, b1, vs, ws, rfl, .inl ⟨SqL.of ha1, SqL.of hb1, ?_⟩⟩
        rw [hK]
        exact Post.ok h2 R2 (wk_zipL m3 m4)
end
end Pin

set_option Elab.async false
set_option linter.all false
set_option maxRecDepth 100000
set_option maxHeartbeats 2000000
/-! PinJ: comprehensions. -/
namespace Pin
open PySem PySem.Spec PyProof.Rows L2
def W0 : Wish := fun _ _ _ _ _ => False
def rsD (p : Pm) (D : Addr) (acc : List V) : Hp := fun a => if a = D then some (.lst acc) else p.rs a
section
variable {p : Pm} {μ : List Addr} {H : Hp} {S : Store} {D : Addr} {acc acc' : List V}
/-- a new list is kept apart -/
theorem RepS.reserve (R : RepS p μ H S) (hD : H D = none) : RepS (p.at (rsD p D acc)) μ (upd H D (.lst acc)) S := by
  have R' := R.tup (o := .lst acc) hD
  refine ⟨R'.len, R'.nd, R'.ob, R'.tab, fun a o e => ?_⟩
  have e' : (if a = D then some (HO.lst acc) else p.rs a) = some o := e
  by_cases h : a = D
  · rw [if_pos h] at e'
    cases e'
    subst h
    refine ⟨upd_same, fun z => ?_⟩
    obtain ⟨i, hi, q⟩ := List.getElem_of_mem z
    have hs : i < S.length := by rw [← R.len]; exact hi
    obtain ⟨u, hu, _⟩ := (R.ob i S[i] a (by simp [hs]) (by rw [List.getElem?_eq_getElem hi, q])).there
    rw [hD] at hu; cases hu
  · rw [if_neg h] at e'
    exact R'.res a o e'
theorem rsD_at (R : RepS (p.at (rsD p D acc)) μ H S) : H D = some (.lst acc) ∧ D ∉ μ := R.res D _ (by show (if D = D then some (HO.lst acc) else p.rs D) = _; rw [if_pos rfl])
/-- the kept list grows -/
theorem RepS.regrow (R : RepS (p.at (rsD p D acc)) μ H S) (hp : ∀ o, p.rs D ≠ some o) : RepS (p.at (rsD p D acc')) μ (upd H D (.lst acc')) S ∧ Ext H (upd H D (.lst acc')) := by
  obtain ⟨h1, h2⟩ := rsD_at R
  have ex : Ext H (upd H D (.lst acc')) := Ext.set h1 id
  refine ⟨⟨R.len, R.nd, fun i o a e1 e2 => ?_, tabs_upd R.tab (.inr ⟨_, h1, id, fun ps z => by cases z⟩), fun a o e => ?_⟩, ex⟩
  · have ne : a ≠ D := fun z => h2 (by rw [← z]; exact List.mem_of_getElem? e2)
    exact (R.ob i o a e1 e2).ext ex (List.prefix_refl _) (upd_ne ne)
  · have e' : (if a = D then some (HO.lst acc') else p.rs a) = some o := e
    by_cases h : a = D
    · rw [if_pos h] at e'
      cases e'
      subst h
      exact ⟨upd_same, h2⟩
    · rw [if_neg h] at e'
      have := R.res a o (by show (if a = D then some (HO.lst acc) else p.rs a) = _; rw [if_neg h]; exact e')
      exact ⟨by rw [upd_ne h]; exact this.1, this.2⟩
/-- the heap without the kept list -/
def hpNo (H : Hp) (D : Addr) : Hp := fun a => if a = D then none else H a
theorem RepS.without (R : RepS (p.at (rsD p D acc)) μ H S) (hp : ∀ o, p.rs D ≠ some o) : RepS p μ (hpNo H D) S ∧ Ext H (hpNo H D) ∧ hpNo H D D = none ∧ upd (hpNo H D) D (.lst acc) = H := by
  obtain ⟨h1, h2⟩ := rsD_at R
  have at_ : ∀ a, a ≠ D → hpNo H D a = H a := fun a n => by unfold hpNo; rw [if_neg n]
  have ex : Ext H (hpNo H D) := fun a o e k => by
    by_cases h : a = D
    · subst h; rw [h1] at e; cases e; exact k.elim
    · rw [at_ a h]; exact e
  refine ⟨⟨R.len, R.nd, fun i o a e1 e2 => ?_, fun P hP => ?_, fun a o e => ?_⟩, ex, by unfold hpNo; rw [if_pos rfl], ?_⟩
  · have ne : a ≠ D := fun z => h2 (by rw [← z]; exact List.mem_of_getElem? e2)
    exact (R.ob i o a e1 e2).ext ex (List.prefix_refl _) (at_ a ne)
  · obtain ⟨ps, q1, q2, q3⟩ := R.tab P hP
    refine ⟨ps, by rw [at_ _ (fun z => by rw [z, h1] at q1; cases q1)]; exact q1, q2, fun pos cv hc => ?_⟩
    obtain ⟨c, e1, e2⟩ := q3 pos cv hc
    exact ⟨c, e1, by rw [at_ _ (fun z => by rw [z, h1] at e2; cases e2)]; exact e2⟩
  · have h : a ≠ D := fun z => by subst z; exact hp o e
    have := R.res a o (by show (if a = D then some (HO.lst acc) else p.rs a) = _; rw [if_neg h]; exact e)
    exact ⟨by rw [at_ a h]; exact this.1, this.2⟩
  · funext a
    by_cases h : a = D
    · subst h; rw [upd_same, h1]
    · rw [upd_ne h, at_ a h]
end
section
variable {p : Pm} {X : Cx} {W : Wish} {c : Cl}
theorem noX_ok {α : Type} {m : M α} {S S' : Store} {a : α} : noX m S = .ok a S' ↔ m S = .ok a S' := by
  unfold noX
  cases m S <;> simp
theorem noX_exc {α : Type} {m : M α} {S S' : Store} {x : Exc} : noX m S ≠ .exc x S' := by
  unfold noX
  cases m S <;> simp
theorem bind_ok {α β : Type} {m : M α} {k : α → M β} {S : Store} {r : Res β} (h : (m >>= k) S = r) (hr : r ≠ .stk) (hx : ∀ x S', m S ≠ .exc x S') : ∃ a S', m S = .ok a S' ∧ k a S' = r := by
  rw [bind_run] at h
  cases e : m S with
  | ok a S' => rw [e] at h; exact ⟨a, S', rfl, h⟩
  | exc x S' => exact absurd e (hx x S')
  | stk => rw [e] at h; exact absurd h.symm hr
theorem chk_ok {gd : List (Nat × List D)} {S S' : Store} {u : Unit} (h : chk gd S = .ok u S') : GdOk gd S ∧ S' = S := by
  unfold chk at h
  split at h
  · cases h; exact ⟨by assumption, rfl⟩
  · cases h
theorem chk_exc {gd : List (Nat × List D)} {S S' : Store} {x : Exc} : chk gd S ≠ .exc x S' := by
  unfold chk
  split <;> simp
theorem lcL_gd {gd : List (Nat × List D)} {g : GM} {t : TM} {e : EM} {ρ : Env} {xs : List D} {α : Type} {k : List D → M α} {S : Store} {r : Res α} (h : (lcL gd g t e c ρ xs >>= k) S = r) (hr : r ≠ .stk) : GdOk gd S := by
  cases xs with
  | nil =>
    unfold lcL at h
    rw [bind_assocM] at h
    obtain ⟨u, S', e1, _⟩ := bind_ok h hr fun x S' => chk_exc
    exact (chk_ok e1).1
  | cons x xs =>
    unfold lcL at h
    rw [bind_assocM] at h
    obtain ⟨u, S', e1, _⟩ := bind_ok h hr fun x S' => chk_exc
    exact (chk_ok e1).1
theorem lcL_exc {gd : List (Nat × List D)} {g : GM} {t : TM} {e : EM} {ρ : Env} (sg : Still g) : ∀ {xs : List D} {S S' : Store} {x : Exc}, lcL gd g t e c ρ xs S ≠ .exc x S'
  | [], S, S', x, h => by
    unfold lcL at h
    rw [bind_run] at h
    cases q : chk gd S with
    | ok u S1 => rw [q] at h; cases h
    | exc z S1 => exact chk_exc q
    | stk => rw [q] at h; cases h
  | y :: xs, S, S', x, h => by
    unfold lcL at h
    rw [bind_run] at h
    cases q : chk gd S with
    | exc z S1 => exact chk_exc q
    | stk => rw [q] at h; cases h
    | ok u S1 =>
      rw [q] at h
      replace h : (g y ρ >>= _) S1 = _ := h
      rw [bind_run] at h
      rcases sg y ρ with ⟨ρ', k⟩ | k
      · rw [k] at h
        replace h : (noX (t c ρ') >>= _) S1 = _ := h
        rw [bind_run] at h
        cases q2 : noX (t c ρ') S1 with
        | exc z S2 => exact noX_exc q2
        | stk => rw [q2] at h; cases h
        | ok b S2 =>
          rw [q2] at h
          cases b with
          | false => exact lcL_exc sg (h : lcL gd g t e c ρ xs S2 = _)
          | true =>
            replace h : (noX (e c ρ') >>= _) S2 = _ := h
            rw [bind_run] at h
            cases q3 : noX (e c ρ') S2 with
            | exc z S3 => exact noX_exc q3
            | stk => rw [q3] at h; cases h
            | ok d S3 =>
              rw [q3] at h
              replace h : (lcL gd g t e c ρ xs >>= _) S3 = _ := h
              rw [bind_run] at h
              cases q4 : lcL gd g t e c ρ xs S3 with
              | exc z S4 => exact lcL_exc sg q4
              | stk => rw [q4] at h; cases h
              | ok ds S4 => rw [q4] at h; cases h
      · rw [k] at h; cases h
def outL (ds : List D) : M D := fits ds.length (newO (.lst ds))
theorem eLc_eq {it : IM} {own : List Nat} {g : GM} {t : TM} {e : EM} {ρ : Env} : eLc (cLc it own g t e) c ρ = (it c ρ >>= fun w => lcL w.gd g t e c (wipeE ρ own) w.xs >>= outL) := by
  unfold eLc cLc
  rw [bind_assocM]
  congr 1
  funext w
  rw [bind_assocM]
  congr 1
  funext ys
  unfold outL fits
  by_cases h : ys.length ≤ sizeLine
  · rw [if_pos h, if_pos h]; rfl
  · rw [if_neg h, if_neg h]; rfl
theorem outL_ok {ds : List D} {S : Store} {r : Res D} (h : outL ds S = r) (hr : r ≠ .stk) : ds.length ≤ sizeLine := by
  unfold outL fits at h
  split at h
  · assumption
  · exact absurd h.symm hr
theorem ext_of_none {H : Hp} {D : Addr} {o : HO} (h : H D = none) : Ext H (upd H D o) := Ext.new h
variable {elt tg iter : Expr} {ifs : List Expr} {scope : Scope} {own : List (Str × Nat)} {pos : Pos} {it : IM} {g : GM} {t : TM} {e : EM}
/-- the reading of the loop of a comprehension -/
theorem lc_read (sg : Still g) {σ : L2.St} {H1 : Hp} {Q : VK} {ρ : Env} {μ1 : List Addr} {S1 : Store} {w : Items} {J : It} (vs : List Nat) (hp : ∀ a o, p.rs a = some o → H1 a = some o) (R1 : RepS p μ1 H1 S1) (E1 : RepE p μ1 H1 ρ σ) (wk : WkAt p μ1 H1 w J)
    (h : Post p (RV p) W σ H1 μ1 ((lcL w.gd g t e c (wipeE ρ vs) w.xs >>= outL) S1) Q) {D : Addr} (hD : H1 D = none) :
    ∃ WW : Nat → Nat → Hp → Prop, (∃ m, WW 0 m (upd H1 D (.lst []))) ∧ ∀ i m H, WW i m H →
      (J.stop i H ∧ Q (.ref D) H) ∨ (J.go i H ∧ ∃ Nx : Hp → Prop, (∀ H', Nx H' → ∃ m', m' < m ∧ WW (i + 1) m' H') ∧ ∀ x H', J.yld i H x H' → (∃ rs, tG (p.at rs) vs g x (L2.wipe σ vs) H' fun σ2 H2 => L2.wipe σ2 vs = L2.wipe σ vs ∧ ∃ rs, tB (p.at rs) W0 (t c) σ2 H2 fun b H3 =>
        if b = true then ∃ rs, tI (p.at rs) W0 (e c) σ2 H3 fun y H4 => ∃ acc, H4 D = some (.lst acc) ∧ acc.length < sizeLine ∧ Nx (upd H4 D (.lst (acc ++ [y]))) else Nx H3)) := by
  have hrs : ∀ o, p.rs D ≠ some o := fun o z => by rw [hp D o z] at hD; cases hD
  obtain ⟨r, hr⟩ : ∃ r, (lcL w.gd g t e c (wipeE ρ vs) w.xs >>= outL) S1 = r := ⟨_, rfl⟩
  rw [hr] at h
  have hne : r ≠ .stk := h.ne
  obtain ⟨G, Y, wlk, hG, hY⟩ := wk
  refine lc_it (vs := vs) (σ := σ) (H1 := H1) (D := D) (Qd := fun H => Q (.ref D) H)
    (g := fun v σ H Q => ∃ rs, tG (p.at rs) vs g v σ H Q) (tt := fun σ H Q => ∃ rs, tB (p.at rs) W0 (t c) σ H Q) (te := fun σ H Q => ∃ rs, tI (p.at rs) W0 (e c) σ H Q) wlk
    (fun i H' => ∃ μ' S' ds acc, Ext H1 H' ∧ μ1 <+: μ' ∧ RepS (p.at (rsD p D acc)) μ' H' S' ∧ RVs p μ' H' ds acc ∧ (lcL w.gd g t e c (wipeE ρ vs) (w.xs.drop i) >>= fun ys => outL (ds ++ ys)) S' = r)
    ?_ ?_ ?_ ?_
  · exact ⟨μ1, S1, [], [], Ext.new hD, List.prefix_refl _, R1.reserve hD, rfl, by simpa using hr⟩
  · rintro i H' hi ⟨μ', S', ds, acc, ex, pre, R, rv, eq⟩
    exact hG _ μ' H' S' ex pre R (lcL_gd eq hne)
  · rintro i x H' H'' hi ⟨μ', S', ds, acc, ex, pre, R, rv, eq⟩ y
    obtain ⟨ex2, R2, d, hd, vd⟩ := hY _ i H' x H'' μ' S' hi ex pre R (lcL_gd eq hne) y
    have hdr : w.xs.drop i = d :: w.xs.drop (i + 1) := by
      rw [List.drop_eq_getElem_cons hi]
      rw [List.getElem?_eq_getElem hi] at hd
      rw [Option.some.inj hd]
    rw [hdr] at eq
    unfold lcL at eq
    rw [bind_assocM] at eq
    obtain ⟨u, S2, e1, eq'⟩ := bind_ok eq hne fun x S' => chk_exc
    clear eq
    obtain ⟨_, rfl⟩ := chk_ok e1
    have eq : ((g d (wipeE ρ vs) >>= _) >>= _) S2 = r := eq'
    clear eq'
    rw [bind_assocM] at eq
    obtain ⟨ρ', hg⟩ : ∃ ρ', ∀ T, g d (wipeE ρ vs) T = .ok ρ' T := by
      rcases sg d (wipeE ρ vs) with hg | hg
      · exact hg
      · rw [bind_run, hg] at eq
        exact absurd eq.symm hne
    rw [bind_run, hg] at eq
    replace eq : ((noX (t c ρ') >>= _) >>= _) S2 = r := eq
    rw [bind_assocM] at eq
    obtain ⟨k, S3, e2, eq⟩ := bind_ok eq hne fun x S' => noX_exc
    have ek : t c ρ' S2 = .ok k S3 := noX_ok.mp e2
    have Ew : RepE p μ' H'' (wipeE ρ vs) (L2.wipe σ vs) := (E1.ext (ex.trans ex2) pre).wipe vs
    refine ⟨_, wipeE ρ vs, μ', S2, d, R2, Ew, vd, ρ', hg, fun σ2 E2 w2 => ⟨by rw [w2, wipe_wipe], _, ρ', μ', S2, R2, E2, ?_⟩⟩
    rw [ek]
    rintro b H3 μ3 e3 m3 R3 hb
    have hb' : k = b := hb
    subst hb'
    cases k with
    | false =>
      rw [if_neg Bool.false_ne_true] at eq ⊢
      exact ⟨μ3, S3, ds, acc, (ex.trans ex2).trans e3, pre.trans m3, R3, RVsc.ext (ex2.trans e3) m3 _ _ rv, eq⟩
    | true =>
      rw [if_pos rfl] at eq ⊢
      rw [bind_assocM] at eq
      obtain ⟨y', S4, e4, eq⟩ := bind_ok eq hne fun x S' => noX_exc
      have ey : e c ρ' S3 = .ok y' S4 := noX_ok.mp e4
      refine ⟨_, ρ', μ3, S3, R3, E2.ext e3 m3, ?_⟩
      rw [ey]
      intro yv H4 μ4 e5 m5 R4 ry
      rw [bind_assocM] at eq
      have eq' : (lcL w.gd g t e c (wipeE ρ vs) (w.xs.drop (i + 1)) >>= fun ys => outL ((ds ++ [y']) ++ ys)) S4 = r := by
        have z : ∀ ys : List Pin.D, outL ((ds ++ [y']) ++ ys) = ((pure (y' :: ys) : M (List Pin.D)) >>= fun ys => outL (ds ++ ys)) := fun ys => by rw [List.append_assoc]; rfl
        simp only [z]
        exact eq
      have rv4 : RVs p μ4 H4 (ds ++ [y']) (acc ++ [yv]) := (RVsc.ext ((ex2.trans e3).trans e5) (m3.trans m5) _ _ rv).app (.one ry)
      obtain ⟨R5, e6⟩ := R4.regrow (acc' := acc ++ [yv]) hrs
      refine ⟨acc, (rsD_at R4).1, ?_, μ4, S4, ds ++ [y'], acc ++ [yv], (((ex.trans ex2).trans e3).trans e5).trans e6, (pre.trans m3).trans m5, R5, RVsc.ext e6 (List.prefix_refl _) _ _ rv4, eq'⟩
      obtain ⟨ys, S5, e7, e8⟩ := bind_ok eq' hne fun x S' => lcL_exc sg
      have hl := outL_ok e8 hne
      have hl2 := rv.len
      simp only [List.length_append, List.length_cons, List.length_nil] at hl
      omega
  · rintro H' ⟨μ', S', ds, acc, ex, pre, R, rv, eq⟩
    obtain ⟨Rn, en, hno, hup⟩ := R.without hrs
    rw [List.drop_length] at eq
    unfold lcL at eq
    rw [bind_assocM] at eq
    obtain ⟨u, S2, e1, eq'⟩ := bind_ok eq hne fun x S' => chk_exc
    clear eq
    obtain ⟨_, rfl⟩ := chk_ok e1
    have eq : outL (ds ++ []) S2 = r := eq'
    rw [List.append_nil] at eq
    have hb : Post p (RV p) W σ (hpNo H' D) μ' r Q := h.base (fun a o q k => by
      have := ex a o q k
      exact en a o this k) pre
    rw [← eq] at hb
    have := (Post.lstM (W := W) (σ := σ) Rn (RVsc.ext en (List.prefix_refl _) _ _ rv) hb).2 D hno
    rw [hup] at this
    exact this
/-- [elt for tg in iter if ..] -/
theorem PG.some {tg : Expr} {t : Hp → TG} (h : ∀ rs, PG X tg (t rs)) : PG X tg (fun v σ H Q => ∃ rs, t rs v σ H Q) := ⟨fun pins s σ H v u Q I r ⟨rs, q⟩ => (h rs).run pins s σ H v u Q I r q⟩
theorem PTs.some {ifs : List Expr} {t : Hp → TT} (h : ∀ rs, PTs X ifs (t rs)) : PTs X ifs (fun σ H Q => ∃ rs, t rs σ H Q) := ⟨fun pins s σ H Q I ⟨rs, q⟩ => (h rs).run pins s σ H Q I q⟩
theorem PE.some {e : Expr} {t : Hp → TE} (h : ∀ rs, PE X e (t rs)) : PE X e (fun σ H Q => ∃ rs, t rs σ H Q) := ⟨fun pins s σ H Q I ⟨rs, q⟩ => (h rs).run pins s σ H Q I q⟩
theorem lc_imp (sg : Still g) {σ : L2.St} {H : Hp} {Q : VK} (vs : List Nat) (h : tI p W (eLc (cLc it vs g t e) c) σ H Q) :
    tLc (tIt p W (it c)) (fun v σ H Q => ∃ rs, tG (p.at rs) vs g v σ H Q) (fun σ H Q => ∃ rs, tB (p.at rs) W0 (t c) σ H Q) (fun σ H Q => ∃ rs, tI (p.at rs) W0 (e c) σ H Q) vs σ H Q := by
  obtain ⟨ρ, μ, S, R, E, h⟩ := h
  rw [eLc_eq] at h
  refine ⟨ρ, μ, S, R, E, (Post.bind (R := WkAt p) h).imp fun J H1 ⟨μ1, S1, w, A, h1⟩ => fun D hD => ?_⟩
  exact lc_read sg vs (fun a o z => (A.rep.res a o z).1) A.rep (E.ext A.ex A.pre) A.val h1 hD
theorem pe_lcO (hc : X.calm = true) (hN : X.N.Nodup) (sg : Still g) (hi : PI X tg iter (tIt p W (it c))) (ok : BlkOk X.N X.env.scope scope own)
    (hg : ∀ rs (s : Shared) (H : Hp) (C : Addr) (cl : List (Str × Addr)) (fp : List Addr), PG (X.blk s H scope (compEnvC scope cl C X.env) fp) tg (tG (p.at rs) (own.map (·.2)) g))
    (ht : ∀ rs (s : Shared) (H : Hp) (C : Addr) (cl : List (Str × Addr)) (fp : List Addr), PTs (X.blk s H scope (compEnvC scope cl C X.env) fp) ifs (tB (p.at rs) W0 (t c)))
    (he : ∀ rs (s : Shared) (H : Hp) (C : Addr) (cl : List (Str × Addr)) (fp : List Addr), PE (X.blk s H scope (compEnvC scope cl C X.env) fp) elt (tI (p.at rs) W0 (e c))) (hs : noSet iter = true) :
    PE X (.ListComp elt [⟨tg, iter, ifs, 0⟩] scope pos) (tI p W (eLc (cLc it (own.map (·.2)) g t e) c)) :=
  (pe_lc hc hN hi ok (fun s H C cl fp => PG.some fun rs => hg rs s H C cl fp) (fun s H C cl fp => PTs.some fun rs => ht rs s H C cl fp) (fun s H C cl fp => PE.some fun rs => he rs s H C cl fp) (noSet_fold hs)).imp fun σ H Q h => lc_imp sg _ h
theorem pts_nilO : PTs X [] (tB p W (tYes c)) := ⟨fun pins s σ H Q I ⟨ρ, μ, S, R, E, h⟩ => pts_nil.run pins s σ H Q I (Post.ok h R rfl)⟩
theorem pts_oneO {a : Expr} {t : TM} (h : PT X a (tB p W (t c))) : PTs X [a] (tB p W (t c)) := pts_one h
end
end Pin

set_option Elab.async false
set_option linter.all false
set_option maxRecDepth 100000
set_option maxHeartbeats 2000000
/-! PinK: statements. -/
namespace Pin
open PySem PySem.Spec PyProof.Rows L2
theorem noComp_sole {e t : Expr} {l : Nat} {env : PySem.Env} (h : noComp e = true) : swapsWithSole [t] e l env = pure false := by
  unfold swapsWithSole
  exact noComp_swap h
/-- what follows, as the machine has it, is what is wanted -/
structure KOk (p : Pm) (W : Wish) (K : Kt) (r : Res D) (H : Hp) (μ : List Addr) (De : Ends) : Prop where
  nx : ∀ ρ' σ' H' μ' S', Ext H H' → μ <+: μ' → RepS p μ' H' S' → RepE p μ' H' ρ' σ' → K.nx ρ' S' = r → De.nx σ' H'
  bk : ∀ ρ' σ' H' μ' S', Ext H H' → μ <+: μ' → RepS p μ' H' S' → RepE p μ' H' ρ' σ' → K.bk ρ' S' = r → De.bk σ' H'
  ct : ∀ ρ' σ' H' μ' S', Ext H H' → μ <+: μ' → RepS p μ' H' S' → RepE p μ' H' ρ' σ' → K.ct ρ' S' = r → De.ct σ' H'
  rt : ∀ d v H' μ' S', Ext H H' → μ <+: μ' → RepS p μ' H' S' → RV p μ' H' d v → K.rt d S' = r → De.rt v H'
  ex : ∀ x S', r = .exc x S' → ∀ σ' H' μ', Ext H H' → μ <+: μ' → RepS p μ' H' S' → W x μ' S' σ' H'
def tS (p : Pm) (W : Wish) (m : Env → Kt → M D) : TS := fun De σ H => ∃ ρ μ S K r, RepS p μ H S ∧ RepE p μ H ρ σ ∧ m ρ K S = r ∧ r ≠ .stk ∧ KOk p W K r H μ De
theorem _root_.L2.PS.imp {X : Cx} {e : Stmt} {t t' : TS} (h : PS X e t) (i : ∀ De σ H, t' De σ H → t De σ H) : PS X e t' := ⟨fun pins s σ H De I q => h.run pins s σ H De I (i De σ H q)⟩
theorem _root_.L2.PSs.imp {X : Cx} {e : List Stmt} {t t' : TS} (h : PSs X e t) (i : ∀ De σ H, t' De σ H → t De σ H) : PSs X e t' := ⟨fun pins s σ H De I q => h.run pins s σ H De I (i De σ H q)⟩
section
variable {p : Pm} {W : Wish} {K : Kt} {r : Res D} {H H1 : Hp} {μ μ1 : List Addr} {De : Ends}
theorem KOk.base (k : KOk p W K r H μ De) (e : Ext H H1) (m : μ <+: μ1) : KOk p W K r H1 μ1 De :=
  ⟨fun ρ' σ' H' μ' S' e' m' => k.nx ρ' σ' H' μ' S' (e.trans e') (m.trans m'), fun ρ' σ' H' μ' S' e' m' => k.bk ρ' σ' H' μ' S' (e.trans e') (m.trans m'), fun ρ' σ' H' μ' S' e' m' => k.ct ρ' σ' H' μ' S' (e.trans e') (m.trans m'),
    fun d v H' μ' S' e' m' => k.rt d v H' μ' S' (e.trans e') (m.trans m'), fun x S' q σ' H' μ' e' m' => k.ex x S' q σ' H' μ' (e.trans e') (m.trans m')⟩
/-- a part, then what follows -/
theorem run_bind {α β : Type} {R : List Addr → Hp → α → β → Prop} {σ : L2.St} {m : M α} {k : α → M D} {S : Store} (h : (m >>= k) S = r) (hr : r ≠ .stk) (kk : KOk p W K r H μ De) :
    Post p R W σ H μ (m S) (fun v H1 => ∃ μ1 S1 d, At p R H μ v H1 μ1 S1 d ∧ k d S1 = r) := by
  rw [bind_run] at h
  cases e : m S with
  | ok d S1 =>
    rw [e] at h
    exact fun v H1 μ1 e1 m1 r1 x1 => ⟨μ1, S1, d, ⟨e1, m1, r1, x1⟩, h⟩
  | exc x S1 =>
    rw [e] at h
    exact fun H' μ' e1 m1 r1 => kk.ex x S1 h.symm σ H' μ' e1 m1 r1
  | stk => rw [e] at h; exact absurd h.symm hr
end
section
variable {p : Pm} {X : Cx} {W : Wish} {c : Cl} {st : Stmt} {rest sts sts' : List Stmt} {pos : Pos} {ms mt : SM} {a b tg : Expr} {ma mb mo : EM} {ta : TM}
/-- an expression ahead of what follows -/
theorem tI.then {ρ : Env} {μ : List Addr} {S : Store} {K : Kt} {r : Res D} {De : Ends} {σ : L2.St} {H : Hp} {m : Env → M D} {k : D → M D} {F : VK} (R : RepS p μ H S) (E : RepE p μ H ρ σ) (h : (m ρ >>= k) S = r) (hr : r ≠ .stk) (kk : KOk p W K r H μ De)
    (n : ∀ v H1 μ1 S1 d, RepS p μ1 H1 S1 → RepE p μ1 H1 ρ σ → RV p μ1 H1 d v → Ext H H1 → μ <+: μ1 → KOk p W K r H1 μ1 De → k d S1 = r → F v H1) : tI p W m σ H F :=
  ⟨ρ, μ, S, R, E, (run_bind (R := RV p) h hr kk).imp fun v H1 ⟨μ1, S1, d, A, h1⟩ => n v H1 μ1 S1 d A.rep (E.ext A.ex A.pre) A.val A.ex A.pre (kk.base A.ex A.pre) h1⟩
theorem tB.then {ρ : Env} {μ : List Addr} {S : Store} {K : Kt} {r : Res D} {De : Ends} {σ : L2.St} {H : Hp} {m : Env → M Bool} {k : Bool → M D} {F : Bool → Hp → Prop} (R : RepS p μ H S) (E : RepE p μ H ρ σ) (h : (m ρ >>= k) S = r) (hr : r ≠ .stk) (kk : KOk p W K r H μ De)
    (n : ∀ v H1 μ1 S1, RepS p μ1 H1 S1 → RepE p μ1 H1 ρ σ → Ext H H1 → μ <+: μ1 → KOk p W K r H1 μ1 De → k v S1 = r → F v H1) : tB p W m σ H F :=
  ⟨ρ, μ, S, R, E, (run_bind (R := RB) h hr kk).imp fun v H1 ⟨μ1, S1, d, A, h1⟩ => n v H1 μ1 S1 A.rep (E.ext A.ex A.pre) A.ex A.pre (kk.base A.ex A.pre) (by have e : d = v := A.val; rw [← e]; exact h1)⟩
theorem tL.then {ρ : Env} {μ : List Addr} {S : Store} {K : Kt} {r : Res D} {De : Ends} {σ : L2.St} {H : Hp} {m : Env → M (List D)} {k : List D → M D} {F : List V → Hp → Prop} (R : RepS p μ H S) (E : RepE p μ H ρ σ) (h : (m ρ >>= k) S = r) (hr : r ≠ .stk) (kk : KOk p W K r H μ De)
    (n : ∀ v H1 μ1 S1 d, RepS p μ1 H1 S1 → RepE p μ1 H1 ρ σ → RVs p μ1 H1 d v → Ext H H1 → μ <+: μ1 → KOk p W K r H1 μ1 De → k d S1 = r → F v H1) : tL p W m σ H F :=
  ⟨ρ, μ, S, R, E, (run_bind (R := RVs p) h hr kk).imp fun v H1 ⟨μ1, S1, d, A, h1⟩ => n v H1 μ1 S1 d A.rep (E.ext A.ex A.pre) A.val A.ex A.pre (kk.base A.ex A.pre) h1⟩
theorem pss_nilO : PSs X [] (tS p W (sPass c)) := pss_nil.imp fun De σ H ⟨ρ, μ, S, K, r, R, E, h, hr, k⟩ => k.nx ρ σ H μ S (Ext.refl _) (List.prefix_refl _) R E h
theorem ps_passO : PS X (.Pass pos) (tS p W (sPass c)) := ps_pass.imp fun De σ H ⟨ρ, μ, S, K, r, R, E, h, hr, k⟩ => k.nx ρ σ H μ S (Ext.refl _) (List.prefix_refl _) R E h
theorem ps_breakO : PS X (.Break pos) (tS p W (sBreak c)) := ps_break.imp fun De σ H ⟨ρ, μ, S, K, r, R, E, h, hr, k⟩ => k.bk ρ σ H μ S (Ext.refl _) (List.prefix_refl _) R E h
theorem ps_contO : PS X (.Continue pos) (tS p W (sCont c)) := ps_continue.imp fun De σ H ⟨ρ, μ, S, K, r, R, E, h, hr, k⟩ => k.ct ρ σ H μ S (Ext.refl _) (List.prefix_refl _) R E h
theorem ps_neverO : PS X st (tS p W (sNever c)) := ps_never.imp fun De σ H ⟨ρ, μ, S, K, r, R, E, h, hr, k⟩ => absurd h.symm hr
theorem pss_consO (h1 : PS X st (tS p W (ms c))) (h2 : PSs X rest (tS p W (mt c))) : PSs X (st :: rest) (tS p W (sSeq ms mt c)) :=
  (pss_cons h1 h2).imp fun De σ H ⟨ρ, μ, S, K, r, R, E, h, hr, k⟩ => ⟨ρ, μ, S, { K with nx := fun ρ' => mt c ρ' K }, r, R, E, h, hr,
    ⟨fun ρ' σ' H' μ' S' e m R' E' h' => ⟨ρ', μ', S', K, r, R', E', h', hr, k.base e m⟩, k.bk, k.ct, k.rt, k.ex⟩⟩
theorem pss_oneO (h1 : PS X st (tS p W (ms c))) : PSs X [st] (tS p W (ms c)) := pss_one h1
theorem ps_retO (he : PE X a (tI p W (ma c))) : PS X (.Return (some a) pos) (tS p W (sRet ma c)) :=
  (ps_ret he).imp fun De σ H ⟨ρ, μ, S, K, r, R, E, h, hr, k⟩ => tI.then R E h hr k fun v H1 μ1 S1 d R1 E1 v1 e1 m1 k1 h1 => k1.rt d v H1 μ1 S1 (Ext.refl _) (List.prefix_refl _) R1 v1 h1
theorem ps_retNO : PS X (.Return none pos) (tS p W (sRetN c)) := ps_retN.imp fun De σ H ⟨ρ, μ, S, K, r, R, E, h, hr, k⟩ => k.rt .non .non H μ S (Ext.refl _) (List.prefix_refl _) R rfl h
theorem ps_exprO (he : PE X a (tI p W (ma c))) (hs : noComp a = true) : PS X (.Expr a pos) (tS p W (sExpr ma c)) :=
  (ps_expr he (noComp_swap hs)).imp fun De σ H ⟨ρ, μ, S, K, r, R, E, h, hr, k⟩ => tI.then R E h hr k fun v H1 μ1 S1 d R1 E1 v1 e1 m1 k1 h1 => k1.nx ρ σ H1 μ1 S1 (Ext.refl _) (List.prefix_refl _) R1 E1 h1
theorem ps_docO {x : Str} {j : Nat} {pos' : Pos} : PS X (.Expr (.Constant (.str x) j pos) pos') (tS p W (sPass c)) := ps_doc.imp fun De σ H ⟨ρ, μ, S, K, r, R, E, h, hr, k⟩ => k.nx ρ σ H μ S (Ext.refl _) (List.prefix_refl _) R E h
theorem ps_ifO (ht : PT X a (tB p W (ta c))) (h1 : PSs X sts (tS p W (ms c))) (h2 : PSs X sts' (tS p W (mt c))) : PS X (.If a sts sts' pos) (tS p W (sIf ta ms mt c)) :=
  (ps_if ht h1 h2).imp fun De σ H ⟨ρ, μ, S, K, r, R, E, h, hr, k⟩ => tB.then R E h hr k fun b H1 μ1 S1 R1 E1 e1 m1 k1 h1 => by
    cases b with
    | true => rw [if_pos rfl] at h1 ⊢; exact ⟨ρ, μ1, S1, K, r, R1, E1, h1, hr, k1⟩
    | false => rw [if_neg Bool.false_ne_true] at h1 ⊢; exact ⟨ρ, μ1, S1, K, r, R1, E1, h1, hr, k1⟩
/-- the end of a store at a target -/
theorem g_end {g : GM} (sg : Still g) {vs : List Nat} {ρ : Env} {μ : List Addr} {S : Store} {K : Kt} {r : Res D} {De : Ends} {σ : L2.St} {H : Hp} {d : D} {v : V} (R : RepS p μ H S) (E : RepE p μ H ρ σ) (rv : RV p μ H d v) (h : (g d ρ >>= fun ρ' => K.nx ρ') S = r) (hr : r ≠ .stk) (k : KOk p W K r H μ De) :
    tG p vs g v σ H De.nx := by
  rcases sg d ρ with ⟨ρ', q⟩ | q
  · rw [bind_run, q] at h
    exact ⟨ρ, μ, S, d, R, E, rv, ρ', q, fun σ' E' _ => k.nx ρ' σ' H μ S (Ext.refl _) (List.prefix_refl _) R E' h⟩
  · rw [bind_run, q] at h
    exact absurd h.symm hr
theorem ps_asgO {g : GM} {vs : List Nat} (sg : Still g) (he : PE X a (tI p W (ma c))) (hg : PG X tg (tG p vs g)) (hs : swapsWithSole [tg] a pos.line X.env = pure false) (hw : swappedStores [tg] a X.env = pure none) (h1 : noStar tg = true) : PS X (.Assign [tg] a pos) (tS p W (sAsg ma g c)) :=
  (ps_asg he hg hs hw (by cases tg <;> first | rfl | (simp [noStar] at h1))).imp fun De σ H ⟨ρ, μ, S, K, r, R, E, h, hr, k⟩ => tI.then R E h hr k fun v H1 μ1 S1 d R1 E1 v1 e1 m1 k1 h1 => g_end sg R1 E1 v1 h1 hr k1
theorem name_end {i : Nat} {ρ : Env} {μ : List Addr} {S : Store} {K : Kt} {r : Res D} {De : Ends} {σ : L2.St} {H : Hp} {d : D} {v : V} (R : RepS p μ H S) (E : RepE p μ H ρ σ) (rv : RV p μ H d v) (h : (gName i d ρ >>= fun ρ' => K.nx ρ') S = r) (hr : r ≠ .stk) (k : KOk p W K r H μ De) :
    De.nx (σ.set i (some v)) H := by
  unfold gName at h
  split at h
  · exact k.nx _ _ H μ S (Ext.refl _) (List.prefix_refl _) R (E.set rv) h
  · exact absurd h.symm hr
theorem ps_setO {i : Nat} {x : Str} {q : Pos} (hN : X.N.Nodup) (hi : X.N[i]? = some x) (hx : Loc X.env.scope x) (hf : X.fn x = true ∨ X.env.scope.names.lookup x = some .local) (he : PE X a (tI p W (ma c))) (hs : noComp a = true) : PS X (.Assign [.Name x q] a pos) (tS p W (sAsg ma (gName i) c)) :=
  (ps_set hN hi hx he (noComp_swap hs) hf).imp fun De σ H ⟨ρ, μ, S, K, r, R, E, h, hr, k⟩ => tI.then R E h hr k fun v H1 μ1 S1 d R1 E1 v1 e1 m1 k1 h1 => name_end R1 E1 v1 h1 hr k1
theorem ps_setLcO {i : Nat} {y : Str} {q spos : Pos} {elt iter : Expr} {ifs : List Expr} {scope : Scope} {own : List (Str × Nat)} {it : IM} {g : GM} {t : TM} {e : EM} (hc : X.calm = true) (hN : X.N.Nodup) (hy : X.N[i]? = some y) (hyl : X.env.scope.names.lookup y = some .local)
    (hsw : swapsWith (.ListComp elt [⟨tg, iter, ifs, 0⟩] scope pos) (some (.Name y q)) spos.line X.env = pure true) (sg : Still g) (hi : PI X tg iter (tIt p W (it c))) (ok : BlkOk X.N X.env.scope scope own)
    (hg : ∀ rs (s : Shared) (H : Hp) (C : Addr) (cl : List (Str × Addr)) (fp : List Addr), PG (X.blk s H scope (compEnvC scope cl C X.env) fp) tg (tG (p.at rs) (own.map (·.2)) g))
    (ht : ∀ rs (s : Shared) (H : Hp) (C : Addr) (cl : List (Str × Addr)) (fp : List Addr), PTs (X.blk s H scope (compEnvC scope cl C X.env) fp) ifs (tB (p.at rs) W0 (t c)))
    (he : ∀ rs (s : Shared) (H : Hp) (C : Addr) (cl : List (Str × Addr)) (fp : List Addr), PE (X.blk s H scope (compEnvC scope cl C X.env) fp) elt (tI (p.at rs) W0 (e c))) (hs : noSet iter = true) :
    PS X (.Assign [.Name y q] (.ListComp elt [⟨tg, iter, ifs, 0⟩] scope pos) spos) (tS p W (sAsg (eLc (cLc it (own.map (·.2)) g t e)) (gName i) c)) :=
  (ps_setLc hc hN hy hyl hsw hi ok (fun s H C cl fp => PG.some fun rs => hg rs s H C cl fp) (fun s H C cl fp => PTs.some fun rs => ht rs s H C cl fp) (fun s H C cl fp => PE.some fun rs => he rs s H C cl fp) (noSet_fold hs)).imp
    fun De σ H ⟨ρ, μ, S, K, r, R, E, h, hr, k⟩ => lc_imp (W := W) sg _ (tI.then R E h hr k fun v H1 μ1 S1 d R1 E1 v1 e1 m1 k1 h1 => name_end R1 E1 v1 h1 hr k1)
/-- a, b = x, y by names -/
theorem ps_par2O {i j : Nat} {x y : Str} {px py pt pt2 : Pos} {kt k2 : Nat} (hc : X.calm = true) (hN : X.N.Nodup) (hi : X.N[i]? = some x) (hj : X.N[j]? = some y) (hij : i ≠ j)
    (hx : X.env.scope.names.lookup x = some .local) (hy : X.env.scope.names.lookup y = some .local) {ml : LM} (ha : PA X [a, b] (tL p W (ml c)))
    (hw : swappedStores [.Tuple [.Name x px, .Name y py] kt pt] (.Tuple [a, b] k2 pt2) X.env = pure (some [x, y])) : PS X (.Assign [.Tuple [.Name x px, .Name y py] kt pt] (.Tuple [a, b] k2 pt2) pos) (tS p W (sPar ml (gCons (gName i) (gCons (gName j) gNil)) c)) :=
  (ps_par hc hN hi hj hij hx hy ha hw rfl).imp fun De σ H ⟨ρ, μ, S, K, r, R, E, h, hr, k⟩ => tL.then R E h hr k fun vs H1 μ1 S1 ds R1 E1 v1 e1 m1 k1 h1 => by
    match ds, v1, h1 with
    | [], _, h1 => exact absurd h1.symm hr
    | [d], _, h1 =>
      unfold gCons gName at h1
      rw [bind_assocM] at h1
      split at h1 <;> exact absurd h1.symm hr
    | [d, e], v1, h1 =>
      obtain ⟨v, w, rfl, q1, q2⟩ := rvs2 v1
      refine ⟨v, w, rfl, ?_⟩
      unfold gCons gName at h1
      rw [bind_assocM] at h1
      split at h1
      · replace h1 : ((gCons (gName j) gNil [e] (ρ.set i (some d))) >>= fun ρ' => K.nx ρ') S1 = r := h1
        unfold gCons gName at h1
        rw [bind_assocM] at h1
        split at h1
        · exact k1.nx _ _ H1 μ1 S1 (Ext.refl _) (List.prefix_refl _) R1 ((E1.set q1).set q2) h1
        · exact absurd h1.symm hr
      · exact absurd h1.symm hr
    | d :: e :: f :: l, _, h1 =>
      unfold gCons gName at h1
      rw [bind_assocM] at h1
      split at h1
      · replace h1 : ((gCons (gName j) gNil (e :: f :: l) (ρ.set i (some d))) >>= fun ρ' => K.nx ρ') S1 = r := h1
        unfold gCons gName at h1
        rw [bind_assocM] at h1
        split at h1 <;> exact absurd h1.symm hr
      · exact absurd h1.symm hr
theorem ps_putO {o i : Expr} {mi : EM} {q : Pos} (hK : X.K = p.K) (he : PE X a (tI p W (ma c))) (ho : PE X o (tI p W (mo c))) (hi : PE X i (tI p W (mi c))) (hs : noComp a = true) (hsl : noSl i = true) : PS X (.Assign [.Subscript o i q] a pos) (tS p W (sPut ma mo mi c)) :=
  (ps_asg he (pg_sub ho hi (set_ok (p := p) (W := W)) (by intro v; cases i <;> first | rfl | (simp [noSl] at hsl))) (noComp_sole hs) rfl rfl).imp fun De σ H ⟨ρ, μ, S, K, r, R, E, h, hr, k⟩ =>
    tI.then R E h hr k fun v H1 μ1 S1 d R1 E1 v1 e1 m1 k1 h1 => tI.then R1 E1 h1 hr k1 fun w H2 μ2 S2 dw R2 E2 v2 e2 m2 k2 h2 => tI.then R2 E2 h2 hr k2 fun z H3 μ3 S3 dz R3 E3 v3 e3 m3 k3 h3 =>
      ⟨σ, μ3, S3, dw, dz, d, R3, RVc.ext e3 m3 _ _ v2, v3, RVc.ext (e2.trans e3) (m2.trans m3) _ _ v1, (run_bind (R := fun _ _ (_ : Unit) (_ : Unit) => True) h3 hr k3).imp fun _ H4 ⟨μ4, S4, _, A, h4⟩ =>
        (k3.base A.ex A.pre).nx ρ σ H4 μ4 S4 (Ext.refl _) (List.prefix_refl _) A.rep (E3.ext A.ex A.pre) h4⟩
/-! loops -/
theorem forL_gd {gd : List (Nat × List D)} {g : GM} {ms : SM} {K : Kt} {xs : List D} {ρ : Env} {S : Store} {r : Res D} (h : forL gd g ms c K xs ρ S = r) (hr : r ≠ .stk) : GdOk gd S := by
  cases xs with
  | nil =>
    unfold forL at h
    obtain ⟨u, S', e1, _⟩ := bind_ok h hr fun x S' => chk_exc
    exact (chk_ok e1).1
  | cons x xs =>
    unfold forL at h
    obtain ⟨u, S', e1, _⟩ := bind_ok h hr fun x S' => chk_exc
    exact (chk_ok e1).1
theorem ps_forO {it : IM} {g : GM} {iter : Expr} {vs : List Nat} (hp : PassesOwn (model X.prog X.w) X.A X.env X.xe) (hc : X.calm = true) (sg : Still g) (hi : PI X tg iter (tIt p W (it c))) (hg : PG X tg (tG p vs g)) (hb : PSs X sts (tS p W (ms c))) (hs : noSet iter = true) :
    PS X (.For tg iter sts [] pos) (tS p W (sFor it g ms c)) :=
  (ps_for hp hc hi hg hb (noSet_fold hs)).imp fun De σ H ⟨ρ, μ, S, K, r, R, E, h, hr, k⟩ => ⟨ρ, μ, S, R, E, (run_bind (R := WkAt p) h hr k).imp fun J H1 ⟨μ1, S1, w, A, h1⟩ => by
    have k1 := k.base A.ex A.pre
    obtain ⟨G, Y, wlk, hG, hY⟩ := A.val
    refine for_it wlk (fun i σ' H' => ∃ μ' S' ρ', Ext H1 H' ∧ μ1 <+: μ' ∧ RepS p μ' H' S' ∧ RepE p μ' H' ρ' σ' ∧ forL w.gd g ms c K (w.xs.drop i) ρ' S' = r) ?_ ?_ ?_ ?_
    · exact ⟨μ1, S1, ρ, Ext.refl _, List.prefix_refl _, A.rep, E.ext A.ex A.pre, h1⟩
    · rintro i σ' H' hi ⟨μ', S', ρ', e, m, R', E', h'⟩
      exact hG p.rs μ' H' S' e m R' (forL_gd h' hr)
    · rintro i x σ' H' H'' hi ⟨μ', S', ρ', e, m, R', E', h'⟩ y
      obtain ⟨e2, R2, d, hd, vd⟩ := hY p.rs i H' x H'' μ' S' hi e m R' (forL_gd h' hr) y
      have hdr : w.xs.drop i = d :: w.xs.drop (i + 1) := by
        rw [List.drop_eq_getElem_cons hi]
        rw [List.getElem?_eq_getElem hi] at hd
        rw [Option.some.inj hd]
      rw [hdr] at h'
      unfold forL at h'
      obtain ⟨u, S2, q1, q2⟩ := bind_ok h' hr fun x S' => chk_exc
      clear h'
      obtain ⟨_, rfl⟩ := chk_ok q1
      rcases sg d ρ' with ⟨ρ2, hg⟩ | hg
      · rw [bind_run, hg] at q2
        refine ⟨ρ', μ', S2, d, R2, E'.ext e2 (List.prefix_refl _), vd, ρ2, hg, fun σ2 E2 _ => ?_⟩
        refine ⟨ρ2, μ', S2, _, r, R2, E2, q2, hr, ?_⟩
        have nxt : ∀ ρ3 σ3 H3 μ3 S3, Ext H'' H3 → μ' <+: μ3 → RepS p μ3 H3 S3 → RepE p μ3 H3 ρ3 σ3 → forL w.gd g ms c K (w.xs.drop (i + 1)) ρ3 S3 = r →
            ∃ μ' S' ρ', Ext H1 H3 ∧ μ1 <+: μ' ∧ RepS p μ' H3 S' ∧ RepE p μ' H3 ρ' σ3 ∧ forL w.gd g ms c K (w.xs.drop (i + 1)) ρ' S' = r :=
          fun ρ3 σ3 H3 μ3 S3 e3 m3 R3 E3 h3 => ⟨μ3, S3, ρ3, (e.trans e2).trans e3, m.trans m3, R3, E3, h3⟩
        have kb := k1.base (e.trans e2) m
        exact ⟨nxt, kb.nx, nxt, kb.rt, kb.ex⟩
      · rw [bind_run, hg] at q2
        exact absurd q2.symm hr
    · rintro σ' H' ⟨μ', S', ρ', e, m, R', E', h'⟩
      rw [List.drop_length] at h'
      unfold forL at h'
      obtain ⟨u, S2, q1, q2⟩ := bind_ok h' hr fun x S' => chk_exc
      clear h'
      obtain ⟨_, rfl⟩ := chk_ok q1
      exact (k1.base e m).nx ρ' σ' H' μ' S2 (Ext.refl _) (List.prefix_refl _) R' E' q2⟩
theorem ps_whileO (hp : PassesOwn (model X.prog X.w) X.A X.env X.xe) (ht : PT X a (tB p W (ta c))) (hb : PSs X sts (tS p W (ms c))) : PS X (.While a sts [] pos) (tS p W (sWhile ta ms c)) :=
  (ps_while hp ht hb).imp fun De σ H ⟨ρ, μ, S, K, r, R, E, h, hr, k⟩ => by
    have h' : whileM ta ms c K ρ S = r := h
    obtain ⟨n, hn⟩ := whileM_n (by rw [h']; exact hr)
    rw [h'] at hn
    refine ⟨fun m σ' H' => ∃ μ' S' ρ', Ext H H' ∧ μ <+: μ' ∧ RepS p μ' H' S' ∧ RepE p μ' H' ρ' σ' ∧ whileN ta ms c K m ρ' S' = r, ⟨n, μ, S, ρ, Ext.refl _, List.prefix_refl _, R, E, hn⟩, ?_⟩
    rintro m σ' H' ⟨μ', S', ρ', e, mm, R', E', h1⟩
    cases m with
    | zero => exact absurd h1.symm hr
    | succ m =>
      refine tB.then R' E' h1 hr (k.base e mm) fun b H1 μ1 S1 R1 E1 e1 m1 k1 h2 => ?_
      cases b with
      | true =>
        rw [if_pos rfl] at h2 ⊢
        have nxt : ∀ ρ3 σ3 H3 μ3 S3, Ext H1 H3 → μ1 <+: μ3 → RepS p μ3 H3 S3 → RepE p μ3 H3 ρ3 σ3 → whileN ta ms c K m ρ3 S3 = r → ∃ μ' S' ρ', Ext H H3 ∧ μ <+: μ' ∧ RepS p μ' H3 S' ∧ RepE p μ' H3 ρ' σ3 ∧ whileN ta ms c K m ρ' S' = r :=
          fun ρ3 σ3 H3 μ3 S3 e3 m3 R3 E3 h3 => ⟨μ3, S3, ρ3, (e.trans e1).trans e3, (mm.trans m1).trans m3, R3, E3, h3⟩
        exact ⟨_, fun σ3 H3 q => ⟨m, Nat.lt_succ_self m, q⟩, ρ', μ1, S1, _, r, R1, E1, h2, hr, ⟨nxt, k1.nx, nxt, k1.rt, k1.ex⟩⟩
      | false =>
        rw [if_neg Bool.false_ne_true] at h2 ⊢
        exact k1.nx ρ' σ' H1 μ1 S1 (Ext.refl _) (List.prefix_refl _) R1 E1 h2
end
end Pin

set_option Elab.async false
set_option linter.all false
set_option maxRecDepth 100000
set_option maxHeartbeats 2000000
/-! PinL: from the syntax to the machine, and that it is right. -/
namespace Pin
open PySem PySem.Spec PyProof.Rows L2
inductive GV where
  | con (d : D) | fn (f : Nat) | free
structure Ct where
  gl : List (Str × GV)
  N : List Str
def ix : List Str → Str → Option Nat
  | [], _ => none
  | y :: ys, x => if y = x then some 0 else (ix ys x).map (· + 1)
theorem ix_get : ∀ {N : List Str} {x : Str} {i : Nat}, ix N x = some i → N[i]? = some x
  | [], _, _, h => by cases h
  | y :: ys, x, i, h => by
    unfold ix at h
    split at h
    · cases h; rename_i e; simp [e]
    · simp only [Option.map_eq_some_iff] at h
      obtain ⟨j, h1, rfl⟩ := h
      simpa using ix_get h1
def isLoc (sc : Scope) (lb : Bool) (x : Str) : Bool := match sc.names.lookup x with
  | some .local => true
  | some .cell => lb
  | _ => false
def isVis (sc : Scope) (x : Str) : Bool := match sc.names.lookup x with
  | some .local | some .cell | some .free => true
  | _ => false
def isGl (sc : Scope) (x : Str) : Bool := match sc.names.lookup x with
  | some .globalImplicit => true
  | _ => false
def bopOf : Operator → Option BOp
  | .Add => some .add | .Sub => some .sub | .Mult => some .mul | .FloorDiv => some .fdiv | .Mod => some .mod | .Pow => some .pow | _ => none
def cop' : CmpOp → COp
  | .Eq => .eq | .NotEq => .ne | .Lt => .lt | .LtE => .le | .Gt => .gt | .GtE => .ge | .Is => .is | .IsNot => .isnot | .In => .inn | .NotIn => .notin
theorem cop_of (o : CmpOp) : copOf (cop' o) = o := by cases o <;> rfl
theorem bop_of {o : Operator} {b : BOp} (h : bopOf o = some b) : opOf b = o := by cases o <;> cases h <;> rfl
def tyOf (x : Str) : Option Ty := if x = "int" then some .int else if x = "bool" then some .bool else if x = "str" then some .str else if x = "tuple" then some .tuple else if x = "list" then some .list else if x = "dict" then some .dict else none
inductive BK where | fn (id : String) | ty (T : String)
def biOf (x : Str) : Option (Bi × BK) :=
  if x = "len" then some (.len, .fn "len") else if x = "abs" then some (.abs, .fn "abs") else if x = "int" then some (.int, .ty "int") else if x = "max" then some (.max, .fn "max") else if x = "min" then some (.min, .fn "min")
  else if x = "tuple" then some (.tuple, .ty "tuple") else if x = "list" then some (.list, .ty "list") else if x = "all" then some (.all, .fn "all") else if x = "any" then some (.any, .fn "any") else if x = "sum" then some (.sum, .fn "sum") else none
def meOf (m : Str) : Option Me := if m = "append" then some .append else if m = "extend" then some .extend else none
section
variable (E : Expr → Option EM) (T : Expr → Option TM)
def denArgs : List Expr → Option LM
  | [] => some lNil
  | e :: es => if noStar e then match E e, denArgs es with
    | some a, some r => some (lCons a r)
    | _, _ => none
    else none
def denAnd : List Expr → Option EM
  | [] => none
  | [e] => E e
  | e :: es => match E e, denAnd es with
    | some a, some r => some (eAnd a r)
    | _, _ => none
def denOr : List Expr → Option EM
  | [] => none
  | [e] => E e
  | e :: es => match E e, denOr es with
    | some a, some r => some (eOr a r)
    | _, _ => none
def denAndT : List Expr → Option TM
  | [] => none
  | [e] => T e
  | e :: es => match T e, denAndT es with
    | some a, some r => some (tAnd a r)
    | _, _ => none
def denOrT : List Expr → Option TM
  | [] => none
  | [e] => T e
  | e :: es => match T e, denOrT es with
    | some a, some r => some (tOr a r)
    | _, _ => none
def denO : Option Expr → Option OM
  | none => some oNone
  | some e => (E e).map oSome
variable (ct : Ct) (lb : Bool) (sc : Scope)
/-- a builtin name that the module does not bind -/
def isFree (x : Str) : Bool := isGl sc x && okName x && match ct.gl.lookup x with
  | some .free => true
  | _ => false
def denName (x : Str) : Option EM := if okName x then (if isVis sc x then (ix ct.N x).map eVar else if isGl sc x then match ct.gl.lookup x with
    | some (.con d) => some (eCon d)
    | some (.fn f) => some (eCon (.fn f))
    | _ => none else none) else none
def denCall (x : Str) (args : List Expr) : Option EM :=
  if okName x && isGl sc x then match ct.gl.lookup x with
    | some (.fn f) => (denArgs E args).map (eCall f)
    | some .free => if x = "isinstance" then match args with
        | [a, .Name t _] => if isFree ct sc t && noStar a then match E a, tyOf t with
          | some m, some u => some (eIsi m u)
          | _, _ => none else none
        | _ => none
      else match biOf x, args with
        | some (b, _), a :: es => (denArgs E (a :: es)).map (eBi b)
        | _, _ => none
    | _ => none else none
def denMeth (o : Expr) (m : Str) (ln : Bool) (args : List Expr) : Option EM := match args with
  | [a] => if recv o && noStar a && ln then match meOf m, E o, denArgs E [a] with
    | some me, some mo, some l => some (eMe me mo l)
    | _, _, _ => none else none
  | _ => none
/-- a target within the slots vs -/
def denGN (vs : List Nat) (x : Str) : Option GM := if isLoc sc lb x then match ix ct.N x with
    | some i => if vs.contains i then some (gName i) else none
    | none => none else none
def denGs (G : Expr → Option GM) : List Expr → Option GsM
  | [] => some gNil
  | e :: es => if noStar e then match G e, denGs G es with
    | some a, some r => some (gCons a r)
    | _, _ => none
    else none
def denG (vs : List Nat) : Nat → Expr → Option GM
  | 0, _ => none
  | n + 1, e => match e with
    | .Name x _ => denGN ct lb sc vs x
    | .Tuple es _ _ => (denGs (denG vs n) es).map (gTup es.length)
    | _ => none
def isTup : Expr → Bool
  | .Tuple .. => true
  | _ => false
def denIt (tg e : Expr) : Option IM := match e with
  | .Call (.Name x _) args [] _ => if isFree ct sc x then
      (if x = "range" then match args with
        | [a] => if noStar a then (E a).map iRng1 else none
        | [a, b] => if noStar a && noStar b then match E a, E b with
          | some u, some v => some (iRng2 u v)
          | _, _ => none else none
        | _ => none
      else if x = "enumerate" then match args with
        | [a] => if noStar a && isTup tg then (E a).map iEnum else none
        | _ => none
      else if x = "zip" then match args with
        | [a, b] => if noStar a && noStar b && isTup tg then match E a, E b with
          | some u, some v => some (iZip u v)
          | _, _ => none else none
        | _ => none
      else (E e).map iSeq) else (E e).map iSeq
  | _ => (E e).map iSeq
def ownOf (N : List Str) (scope : Scope) : List (Str × Nat) := scope.names.filterMap fun y => if y.2 = .local ∨ y.2 = .cell then (ix N y.1).map fun i => (y.1, i) else none
end
/-- a comprehension's parts: E', T' read within its block -/
noncomputable def denComp (E E' : Expr → Option EM) (T' : Expr → Option TM) (ct : Ct) (sc scope : Scope) (elt tg iter : Expr) (ifs : List Expr) : Option LM :=
  let own := ownOf ct.N scope
  if blkC ct.N sc scope own && noSet iter then
    match denIt E ct sc tg iter, denG ct false (relS scope sc) (own.map (·.2)) 8 tg, E' elt, (match ifs with
      | [] => some tYes
      | [c] => T' c
      | _ => none) with
    | some it, some g, some e, some t => some (cLc it (own.map (·.2)) g t e)
    | _, _, _, _ => none
  else none
mutual
noncomputable def denE : Nat → Ct → Bool → Scope → Expr → Option EM
  | 0, _, _, _, _ => none
  | n + 1, ct, lb, sc, e => match e with
    | .Name x _ => denName ct sc x
    | .Constant (.int i) _ _ => some (eCon (.int i))
    | .Constant (.bool b) _ _ => some (eCon (.bl b))
    | .Constant .none _ _ => some (eCon .non)
    | .Constant (.str x) _ _ => some (eCon (.str x))
    | .BinOp a op b _ => match bopOf op, denE n ct lb sc a, denE n ct lb sc b with
      | some o, some x, some y => some (eBin o x y)
      | _, _, _ => none
    | .UnaryOp .USub a _ => (denE n ct lb sc a).map eNeg
    | .UnaryOp .Not a _ => (denE n ct lb sc a).map eNot
    | .BoolOp .And es _ => denAnd (denE n ct lb sc) es
    | .BoolOp .Or es _ => denOr (denE n ct lb sc) es
    | .Compare a [o] [b] _ => if noSet b then match denE n ct lb sc a, denE n ct lb sc b with
      | some x, some y => some (eCmp (cop' o) x y)
      | _, _ => none else none
    | .Compare a [o, o'] [b, d] _ => if noSet d then match denE n ct lb sc a, denE n ct lb sc b, denE n ct lb sc d with
      | some x, some y, some z => some (eChain (cop' o) (cop' o') x y z)
      | _, _, _ => none else none
    | .IfExp t a b _ => match denT n ct lb sc t, denE n ct lb sc a, denE n ct lb sc b with
      | some k, some x, some y => some (eIf k x y)
      | _, _, _ => none
    | .Tuple es _ _ => (denArgs (denE n ct lb sc) es).map eTup
    | .List es _ => (denArgs (denE n ct lb sc) es).map eLst
    | .Dict [] [] _ => some eDct0
    | .Subscript a (.Slice none none (some (.UnaryOp .USub (.Constant (.int 1) _ _) _)) _) _ => (denE n ct lb sc a).map eRev
    | .Subscript a (.Slice lo hi none _) _ => match denE n ct lb sc a, denO (denE n ct lb sc) lo, denO (denE n ct lb sc) hi with
      | some x, some l, some h => some (eSl x l h)
      | _, _, _ => none
    | .Subscript a b _ => if noSl b then match denE n ct lb sc a, denE n ct lb sc b with
      | some x, some y => some (eIx x y)
      | _, _ => none else none
    | .Call (.Name x _) args [] _ => denCall (denE n ct lb sc) ct sc x args
    | .Call (.Attribute o m apos) args [] pos => denMeth (denE n ct lb sc) o m (apos.endLine == pos.line) args
    | .ListComp elt [⟨tg, iter, ifs, 0⟩] scope _ => (denComp (denE n ct lb sc) (denE n ct false (relS scope sc)) (denT n ct false (relS scope sc)) ct sc scope elt tg iter ifs).map eLc
    | _ => none
noncomputable def denT : Nat → Ct → Bool → Scope → Expr → Option TM
  | 0, _, _, _, _ => none
  | n + 1, ct, lb, sc, e => match e with
    | .UnaryOp .Not a _ => (denT n ct lb sc a).map tNot
    | .BoolOp .And es _ => denAndT (denT n ct lb sc) es
    | .BoolOp .Or es _ => denOrT (denT n ct lb sc) es
    | .Compare a [o] [b] _ => if noSet b then match denE n ct lb sc a, denE n ct lb sc b with
      | some x, some y => some (tCmp (cop' o) x y)
      | _, _ => none else none
    | .Compare a [o, o'] [b, d] _ => if noSet d then match denE n ct lb sc a, denE n ct lb sc b, denE n ct lb sc d with
      | some x, some y, some z => some (tChain (cop' o) (cop' o') x y z)
      | _, _, _ => none else none
    | .IfExp .. => none
    | e => (denE n ct lb sc e).map tVal
end
/-! ### statements -/
def isStar : Expr → Bool
  | .Starred _ _ => true
  | _ => false
def swNames (sc : Scope) (line : Nat) (ts : List Expr) : List Str := ts.filterMap fun
  | .Name id pos => if sc.names.lookup id == some .local && pos.line == line then some id else none
  | _ => none
/-- what swappedStores says: none: not known -/
def swF (sc : Scope) (ts vs : List Expr) : Option (Option (List Str)) :=
  if !(ts.length == 2 || ts.length == 3) || vs.length != ts.length then some none
  else if vs.any isStar then some none
  else
    let names := swNames sc ((ts.head?.map (·.pos.line)).getD 0) ts
    if names.length != ts.length || names.eraseDups.length != names.length then some none
    else if vs.all (foldedForSure 8) then some none
    else if vs.all (constantsAlone 8) then none
    else some (some names)
section
variable (ct : Ct) (sc : Scope)
def allSlots : List Nat := List.range ct.N.length
noncomputable def denAsg (n : Nat) (tg v : Expr) (spos : Pos) : Option SM :=
  match tg, v with
  | .Name x q, .ListComp elt [⟨t, iter, ifs, 0⟩] scope pos =>
    if decide (sc.names.lookup x = some .local) && (q.line == pos.line) && !(scope.names.any fun y => y.1 == x && (y.2 == .local || y.2 == .cell)) then
      match denComp (denE n ct true sc) (denE n ct false (relS scope sc)) (denT n ct false (relS scope sc)) ct sc scope elt t iter ifs, ix ct.N x with
      | some l, some i => some (sAsg (eLc l) (gName i))
      | _, _ => none
    else none
  | .Name x _, v => if noComp v && isLoc sc true x then match denE n ct true sc v, ix ct.N x with
    | some e, some i => some (sAsg e (gName i))
    | _, _ => none else none
  | .Subscript o i _, v => if noComp v && noSl i then match denE n ct true sc v, denE n ct true sc o, denE n ct true sc i with
    | some e, some a, some b => some (sPut e a b)
    | _, _, _ => none else none
  | .Tuple ts k p, .Tuple vs k2 p2 => match swF sc ts vs with
    | some none => match denE n ct true sc (.Tuple vs k2 p2), denG ct true sc (allSlots ct) 8 (.Tuple ts k p) with
      | some e, some g => some (sAsg e g)
      | _, _ => none
    | some (some names) => match ts, vs, names with
      | [.Name x _, .Name y _], [a, b], [x', y'] => if x = x' && y = y' && x != y && decide (sc.names.lookup x = some .local) && decide (sc.names.lookup y = some .local) then match denArgs (denE n ct true sc) [a, b], ix ct.N x, ix ct.N y with
        | some l, some i, some j => some (sPar l (gCons (gName i) (gCons (gName j) gNil)))
        | _, _, _ => none else none
      | [.Name x _, .Name y _, .Name z _], [a, b, d], [x', y', z'] => if x = x' && y = y' && z = z' && x != y && x != z && y != z && decide (sc.names.lookup x = some .local) && decide (sc.names.lookup y = some .local) && decide (sc.names.lookup z = some .local) then match denArgs (denE n ct true sc) [a, b, d], ix ct.N x, ix ct.N y, ix ct.N z with
        | some l, some i, some j, some o => some (sPar l (gCons (gName i) (gCons (gName j) (gCons (gName o) gNil))))
        | _, _, _, _ => none else none
      | _, _, _ => none
    | none => none
  | .Tuple ts k p, v => if noComp v && !isTup v then match denE n ct true sc v, denG ct true sc (allSlots ct) 8 (.Tuple ts k p) with
      | some e, some g => some (sAsg e g)
      | _, _ => none else none
  | _, _ => none
end
def denSs (S : Stmt → Option SM) : List Stmt → Option SM
  | [] => some sPass
  | [s] => S s
  | s :: r => match S s, denSs S r with
    | some a, some b => some (sSeq a b)
    | _, _ => none
noncomputable def denS : Nat → Ct → Scope → Stmt → Option SM
  | 0, _, _, _ => none
  | n + 1, ct, sc, s => match s with
    | .Assign [tg] v pos => denAsg ct sc n tg v pos
    | .If t a b _ => match denT n ct true sc t, denSs (denS n ct sc) a, denSs (denS n ct sc) b with
      | some k, some x, some y => some (sIf k x y)
      | _, _, _ => none
    | .For tg iter body [] _ => if noSet iter then match denIt (denE n ct true sc) ct sc tg iter, denG ct true sc (allSlots ct) 8 tg, denSs (denS n ct sc) body with
      | some it, some g, some b => some (sFor it g b)
      | _, _, _ => none else none
    | .While t body [] _ => match denT n ct true sc t, denSs (denS n ct sc) body with
      | some k, some b => some (sWhile k b)
      | _, _ => none
    | .Return (some e) _ => (denE n ct true sc e).map sRet
    | .Return none _ => some sRetN
    | .Expr e _ => if noComp e then (denE n ct true sc e).map sExpr else none
    | .Raise .. => some sNever
    | .Pass _ => some sPass
    | .Break _ => some sBreak
    | .Continue _ => some sCont
    | _ => none
end Pin

set_option Elab.async false
set_option linter.all false
set_option maxRecDepth 100000
set_option maxHeartbeats 2000000
/-! PinM: the reading of the syntax is right. -/
namespace Pin
open PySem PySem.Spec PyProof.Rows L2
def GlOk (p : Pm) (P : Nat → Option Fn) (k : Nat) (X : Cx) (x : Str) : GV → Prop
  | .con d => ∃ u v, X.mg x = some u ∧ RelV v u ∧ ∀ μ H, RV p μ H d v
  | .fn f => ∃ fn fa, X.mg x = some (.ref fa) ∧ FnAt p P X k f fn fa
  | .free => X.mg x = none
structure GC (p : Pm) (P : Nat → Option Fn) (ct : Ct) (k : Nat) (lb : Bool) (sc : Scope) (W : Wish) (X : Cx) : Prop where
  gd : Gd p X
  room : Room (lv k) X.A
  N : X.N = ct.N
  nd : X.N.Nodup
  sc : X.env.scope = sc
  fn : lb = true → ∀ x, X.fn x = true
  gl : ∀ x g, ct.gl.lookup x = some g → GlOk p P k X x g
  tk : TakesW p X W
theorem GlOk.at {p : Pm} {P : Nat → Option Fn} {k : Nat} {X X' : Cx} {x : Str} {g : GV} {rs : Hp} (h : GlOk p P k X x g) (h1 : X'.mg = X.mg) (h2 : X'.prog = X.prog) (h3 : X'.w = X.w) (h4 : X'.K = X.K) (h5 : X'.base = X.base) : GlOk (p.at rs) P k X' x g := by
  obtain ⟨a1, a2, a3, a4, a5, a6, a7, a8, a9, a10, a11, a12, a13, a14, a15, a16⟩ := X
  obtain ⟨b1, b2, b3, b4, b5, b6, b7, b8, b9, b10, b11, b12, b13, b14, b15, b16⟩ := X'
  simp only at h1 h2 h3 h4 h5
  subst h1 h2 h3 h4 h5
  cases g with
  | con d => exact h
  | fn f =>
    obtain ⟨fn, fa, e, F⟩ := h
    exact ⟨fn, fa, e, ⟨F.at_, F.loc, F.kp, F.ok⟩⟩
  | free => exact h
section
variable {p : Pm} {P : Nat → Option Fn} {ct : Ct} {k : Nat} {lb : Bool} {sc : Scope} {W : Wish} {X : Cx}
theorem GC.at (g : GC p P ct k lb sc W X) (rs : Hp) (tk : TakesW (p.at rs) X W) : GC (p.at rs) P ct k lb sc W X :=
  ⟨⟨g.gd.K, g.gd.calm, g.gd.room⟩, g.room, g.N, g.nd, g.sc, g.fn, fun x y h => (g.gl x y h).at rfl rfl rfl rfl rfl, tk⟩
/-- within a comprehension -/
theorem GC.blk (g : GC p P ct k lb sc W X) (rs : Hp) (s : Shared) (H : Hp) (scope : Scope) (C : Addr) (cl : List (Str × Addr)) (fp : List Addr) : GC (p.at rs) P ct k false (relS scope sc) W0 (X.blk s H scope (compEnvC scope cl C X.env) fp) := by
  refine ⟨⟨g.gd.K, g.gd.calm, g.gd.room⟩, g.room, g.N, g.nd, ?_, (fun z => by cases z), fun x y h => (g.gl x y h).at rfl rfl rfl rfl rfl, ?_⟩
  · rw [← g.sc]; rfl
  · rintro u s' ⟨a, B, sI, pins, σ, H', cls, d, _, _, _, _, _, _, _, _, x, μ, S, _, _, w⟩
    exact w.elim
theorem vis_of (g : GC p P ct k lb sc W X) {x : Str} (h : isVis sc x = true) : Vis X.env.scope x := by
  rw [g.sc]
  unfold isVis at h
  unfold Vis
  cases e : sc.names.lookup x with
  | none => rw [e] at h; cases h
  | some q => rw [e] at h; cases q <;> simp_all
theorem gl_of (g : GC p P ct k lb sc W X) {x : Str} (h : isGl sc x = true) : Gl X x := by
  show X.env.scope.names.lookup x = _
  rw [g.sc]
  unfold isGl at h
  cases e : sc.names.lookup x with
  | none => rw [e] at h; cases h
  | some q => rw [e] at h; cases q <;> simp_all
theorem free_of (g : GC p P ct k lb sc W X) {x : Str} (h : isFree ct sc x = true) : Gl X x ∧ X.mg x = none ∧ okName x = true := by
  unfold isFree at h
  simp only [Bool.and_eq_true] at h
  obtain ⟨⟨h1, h2⟩, h3⟩ := h
  refine ⟨gl_of g h1, ?_, h2⟩
  split at h3
  · rename_i e; exact g.gl x _ e
  · cases h3
variable {E : Expr → Option EM} {T : Expr → Option TM}
theorem name_ok (g : GC p P ct k lb sc W X) {x : Str} {m : EM} {pos : Pos} (h : denName ct sc x = some m) : PE X (.Name x pos) (tI p W (m (callF P k))) := by
  unfold denName at h
  split at h
  rotate_left 1; · cases h
  rename_i ok
  obtain ⟨n1, n2, n3⟩ := okName_ne ok
  split at h
  · rename_i hv
    simp only [Option.map_eq_some_iff] at h
    obtain ⟨i, hi, rfl⟩ := h
    exact pe_nameL (by rw [g.N]; exact ix_get hi) (vis_of g hv) n1 n2
  · split at h
    rotate_left 1; · cases h
    rename_i hg
    split at h
    · rename_i d e
      cases h
      obtain ⟨u, v, e1, e2, e3⟩ := g.gl x _ e
      exact pe_nameG (gl_of g hg) e1 e2 e3 n1
    · rename_i f e
      cases h
      obtain ⟨fn, fa, e1, F⟩ := g.gl x _ e
      exact pe_nameG (v := .ref fa) (gl_of g hg) e1 rfl (fun μ H => ⟨fa, rfl, F.loc⟩) n1
    · cases h
theorem args_ok (HE : ∀ e m, E e = some m → PE X e (tI p W (m (callF P k)))) : ∀ {es : List Expr} {l : LM}, denArgs E es = some l → PA X es (tL p W (l (callF P k))) ∧ es.all noStar = true
  | [], l, h => by cases h; exact ⟨pa_nilO, rfl⟩
  | e :: es, l, h => by
    unfold denArgs at h
    split at h
    rotate_left 1; · cases h
    rename_i hs
    split at h
    · rename_i a r e1 e2
      cases h
      obtain ⟨h1, h2⟩ := args_ok HE e2
      exact ⟨pa_consO (HE e a e1) h1 (star_cons hs), by rw [List.all_cons, hs, h2]; rfl⟩
    · cases h
theorem and_ok (hK : X.K = p.K) (HE : ∀ e m, E e = some m → PE X e (tI p W (m (callF P k)))) {pos : Pos} : ∀ {es : List Expr} {m : EM}, denAnd E es = some m → PE X (.BoolOp .And es pos) (tI p W (m (callF P k)))
  | [], m, h => by cases h
  | [e], m, h => pe_oneO (HE e m h)
  | e :: f :: es, m, h => by
    unfold denAnd at h
    split at h
    · rename_i a r e1 e2
      cases h
      exact pe_andO hK (HE e a e1) (and_ok hK HE e2)
    · cases h
theorem or_ok (hK : X.K = p.K) (HE : ∀ e m, E e = some m → PE X e (tI p W (m (callF P k)))) {pos : Pos} : ∀ {es : List Expr} {m : EM}, denOr E es = some m → PE X (.BoolOp .Or es pos) (tI p W (m (callF P k)))
  | [], m, h => by cases h
  | [e], m, h => pe_oneO (HE e m h)
  | e :: f :: es, m, h => by
    unfold denOr at h
    split at h
    · rename_i a r e1 e2
      cases h
      exact pe_orO hK (HE e a e1) (or_ok hK HE e2)
    · cases h
theorem andT_ok (HT : ∀ e m, T e = some m → PT X e (tB p W (m (callF P k)))) {pos : Pos} : ∀ {es : List Expr} {m : TM}, denAndT T es = some m → PW X (.BoolOp .And es pos) (tB p W (m (callF P k)))
  | [], m, h => by cases h
  | [e], m, h => pw_and1O (HT e m h)
  | e :: f :: es, m, h => by
    unfold denAndT at h
    split at h
    · rename_i a r e1 e2
      cases h
      exact pw_andO (HT e a e1) (andT_ok HT e2)
    · cases h
theorem orT_ok (HT : ∀ e m, T e = some m → PT X e (tB p W (m (callF P k)))) {pos : Pos} : ∀ {es : List Expr} {m : TM}, denOrT T es = some m → PW X (.BoolOp .Or es pos) (tB p W (m (callF P k)))
  | [], m, h => by cases h
  | [e], m, h => pw_or1O (HT e m h)
  | e :: f :: es, m, h => by
    unfold denOrT at h
    split at h
    · rename_i a r e1 e2
      cases h
      exact pw_orO (HT e a e1) (orT_ok HT e2)
    · cases h
theorem o_ok (HE : ∀ e m, E e = some m → PE X e (tI p W (m (callF P k)))) {o : Option Expr} {m : OM} (h : denO E o = some m) : PO X o (tO p W (m (callF P k))) := by
  cases o with
  | none => cases h; exact po_noneO
  | some e =>
    unfold denO at h
    simp only [Option.map_eq_some_iff] at h
    obtain ⟨a, h1, rfl⟩ := h
    exact po_someO (HE e a h1)
theorem biOf_ok {x : Str} {b : Bi} {q : BK} (h : biOf x = some (b, q)) : (∃ id, q = .fn id ∧ bootBuiltins x = some (.builtin id)) ∨ ∃ T, q = .ty T ∧ bootBuiltins x = some (.type T) := by
  unfold biOf at h
  repeat' split at h
  all_goals first | (cases h; done) | skip
  all_goals (rename_i e; subst e; cases h)
  · exact .inl ⟨_, rfl, by decide +kernel⟩
  · exact .inl ⟨_, rfl, by decide +kernel⟩
  · exact .inr ⟨_, rfl, by decide +kernel⟩
  · exact .inl ⟨_, rfl, by decide +kernel⟩
  · exact .inl ⟨_, rfl, by decide +kernel⟩
  · exact .inr ⟨_, rfl, by decide +kernel⟩
  · exact .inr ⟨_, rfl, by decide +kernel⟩
  · exact .inl ⟨_, rfl, by decide +kernel⟩
  · exact .inl ⟨_, rfl, by decide +kernel⟩
  · exact .inl ⟨_, rfl, by decide +kernel⟩
end
end Pin

set_option Elab.async false
set_option linter.all false
set_option maxRecDepth 100000
set_option maxHeartbeats 2000000
/-! PinN: the reading of the syntax is right: calls, targets, comprehensions. -/
namespace Pin
open PySem PySem.Spec PyProof.Rows L2
section
variable {p : Pm} {P : Nat → Option Fn} {ct : Ct} {k : Nat} {lb : Bool} {sc : Scope} {W : Wish} {X : Cx}
variable {E : Expr → Option EM} {T : Expr → Option TM}
theorem bi_call (g : GC p P ct k lb sc W X) {x : Str} {b : Bi} {q : BK} (h : biOf x = some (b, q)) : match q with
    | .fn id => bootBuiltins x = some (.builtin id) ∧ CallR X (.builtin id) (rC p W (biM b))
    | .ty t => bootBuiltins x = some (.type t) ∧ CallR X (.type t) (rC p W (biM b)) := by
  unfold biOf at h
  repeat' split at h
  all_goals first | (cases h; done) | skip
  all_goals (rename_i e; subst e; cases h)
  · exact ⟨by decide +kernel, len_ok g.gd.K⟩
  · exact ⟨by decide +kernel, abs_ok⟩
  · exact ⟨by decide +kernel, int_ok⟩
  · exact ⟨by decide +kernel, max_ok g.gd.calm⟩
  · exact ⟨by decide +kernel, min_ok g.gd.calm⟩
  · exact ⟨by decide +kernel, tuple_ok g.gd.K⟩
  · exact ⟨by decide +kernel, list_ok g.gd.K⟩
  · exact ⟨by decide +kernel, all_ok g.gd.calm⟩
  · exact ⟨by decide +kernel, any_ok g.gd.calm⟩
  · exact ⟨by decide +kernel, sum_ok g.gd.calm⟩
theorem ty_boot {x : Str} {t : Ty} (h : tyOf x = some t) : bootBuiltins x = some (.type (tyName t)) ∧ x ≠ "__name__" := by
  unfold tyOf at h
  repeat' split at h
  all_goals first | (cases h; done) | skip
  all_goals (rename_i e; subst e; cases h; exact ⟨by decide +kernel, by decide⟩)
theorem call_ok (g : GC p P ct k lb sc W X) (HE : ∀ e m, E e = some m → PE X e (tI p W (m (callF P k)))) {x : Str} {args : List Expr} {m : EM} {q pos : Pos} (h : denCall E ct sc x args = some m) : PE X (.Call (.Name x q) args [] pos) (tI p W (m (callF P k))) := by
  unfold denCall at h
  split at h
  rotate_left 1; · cases h
  rename_i ok
  simp only [Bool.and_eq_true] at ok
  obtain ⟨n1, n2, n3⟩ := okName_ne ok.1
  have hg := gl_of g ok.2
  split at h
  · rename_i f e
    simp only [Option.map_eq_some_iff] at h
    obtain ⟨l, h1, rfl⟩ := h
    obtain ⟨fn, fa, e1, F⟩ := g.gl x _ e
    cases args with
    | nil => cases h1; exact pe_def0 F g.room g.tk hg e1 n1
    | cons a es =>
      obtain ⟨h2, h3⟩ := args_ok HE h1
      rw [List.all_cons, Bool.and_eq_true] at h3
      exact pe_defO F g.room g.tk hg e1 h2 n1 (star_cons h3.1) (star_plain h3.2)
  · rename_i e
    have hm : X.mg x = none := g.gl x _ e
    split at h
    · rename_i ex
      split at h
      · rename_i a t tp
        split at h
        rotate_left 1; · cases h
        rename_i hh
        rw [Bool.and_eq_true] at hh
        split at h
        · rename_i u ty e1 e2
          cases h
          obtain ⟨t1, t2, t3⟩ := free_of g hh.1
          obtain ⟨b1, b2⟩ := ty_boot e2
          subst ex
          exact pe_isiO g.gd.K hg hm t1 t2 b1 b2 (okName_ne t3).1 (HE a _ e1) (star_cons hh.2)
        · cases h
      · cases h
    · split at h
      · rename_i b q' a es e3
        simp only [Option.map_eq_some_iff] at h
        obtain ⟨l, h1, rfl⟩ := h
        obtain ⟨h2, h3⟩ := args_ok HE h1
        rw [List.all_cons, Bool.and_eq_true] at h3
        have hb := bi_call g e3
        cases q' with
        | fn id => exact pe_biB hb.2 hg hm hb.1 h2 n3 n1 (star_cons h3.1) (star_plain h3.2)
        | ty t => exact pe_biT hb.2 hg hm hb.1 h2 n3 n1 (star_cons h3.1) (star_plain h3.2)
      · cases h
  · cases h
theorem meth_ok (HE : ∀ e m, E e = some m → PE X e (tI p W (m (callF P k)))) {o : Expr} {x : Str} {args : List Expr} {m : EM} {apos pos : Pos} (h : denMeth E o x (apos.endLine == pos.line) args = some m) : PE X (.Call (.Attribute o x apos) args [] pos) (tI p W (m (callF P k))) := by
  unfold denMeth at h
  split at h
  · rename_i a
    split at h
    rotate_left 1; · cases h
    rename_i hh
    simp only [Bool.and_eq_true] at hh
    obtain ⟨⟨h1, h2⟩, h3⟩ := hh
    split at h
    · rename_i me mo l e1 e2 e3
      cases h
      obtain ⟨h4, h5⟩ := args_ok HE e3
      unfold meOf at e1
      split at e1
      · rename_i ex; subst ex; cases e1
        exact pe_append (HE o mo e2) h4 h1 h2 h3
      · split at e1
        · rename_i ex; subst ex; cases e1
          exact pe_extend (HE o mo e2) h4 h1 h2 h3
        · cases e1
    · cases h
  · cases h
/-! ### targets -/
theorem loc_of (g : GC p P ct k lb sc W X) {x : Str} (h : isLoc sc lb x = true) : L2.Loc X.env.scope x ∧ (X.fn x = true ∨ X.env.scope.names.lookup x = some .local) := by
  unfold isLoc at h
  unfold L2.Loc
  rw [g.sc]
  split at h
  · rename_i e; exact ⟨.inl e, .inr e⟩
  · rename_i e; exact ⟨.inr e, .inl (g.fn h x)⟩
  · cases h
theorem gs_ok {vs : List Nat} {G : Expr → Option GM} (HG : ∀ e g, G e = some g → Still g ∧ ∀ rs, PG X e (tG (p.at rs) vs g)) : ∀ {es : List Expr} {g : GsM}, denGs G es = some g → Stills g ∧ (∀ rs, PGs X es (tGs (p.at rs) vs g)) ∧ es.all noStar = true
  | [], _, h => by cases h; exact ⟨still_nil, fun rs => pgs_nilO, rfl⟩
  | e :: es, g, h => by
    unfold denGs at h
    split at h
    rotate_left 1; · cases h
    rename_i hs
    split at h
    · rename_i a r e1 e2
      cases h
      obtain ⟨a1, a2⟩ := HG e a e1
      obtain ⟨r1, r2, r3⟩ := gs_ok HG e2
      exact ⟨still_cons a1 r1, fun rs => pgs_consO a1 r1 (a2 rs) (r2 rs) hs, by rw [List.all_cons, hs, r3]; rfl⟩
    · cases h
theorem g_ok (g : GC p P ct k lb sc W X) {vs : List Nat} : ∀ {n : Nat} {e : Expr} {gm : GM}, denG ct lb sc vs n e = some gm → Still gm ∧ ∀ rs, PG X e (tG (p.at rs) vs gm)
  | 0, _, _, h => by cases h
  | n + 1, e, gm, h => by
    unfold denG at h
    split at h
    · rename_i x pos
      unfold denGN at h
      split at h
      rotate_left 1; · cases h
      rename_i hl
      split at h
      · rename_i i hi
        split at h
        rotate_left 1; · cases h
        rename_i hv
        cases h
        obtain ⟨l1, l2⟩ := loc_of g hl
        exact ⟨still_name i, fun rs => pg_nameO g.nd (by rw [g.N]; exact ix_get hi) l1 l2 (by simpa using hv)⟩
      · cases h
    · rename_i es kk pos
      simp only [Option.map_eq_some_iff] at h
      obtain ⟨gs, h1, rfl⟩ := h
      obtain ⟨a1, a2, a3⟩ := gs_ok (fun e g' h' => g_ok g h') h1
      exact ⟨still_tup a1, fun rs => pg_tupO (p := p.at rs) g.gd.K g.gd.calm (a2 rs) a3⟩
    · cases h
theorem gs_still {G : Expr → Option GM} (HG : ∀ e g, G e = some g → Still g) : ∀ {es : List Expr} {g : GsM}, denGs G es = some g → Stills g
  | [], _, h => by cases h; exact still_nil
  | e :: es, g, h => by
    unfold denGs at h
    split at h
    rotate_left 1; · cases h
    split at h
    · rename_i a r e1 e2
      cases h
      exact still_cons (HG e a e1) (gs_still HG e2)
    · cases h
theorem g_still {vs : List Nat} : ∀ {n : Nat} {e : Expr} {gm : GM}, denG ct lb sc vs n e = some gm → Still gm
  | 0, _, _, h => by cases h
  | n + 1, e, gm, h => by
    unfold denG at h
    split at h
    · unfold denGN at h
      split at h
      rotate_left 1; · cases h
      split at h
      · split at h
        rotate_left 1; · cases h
        cases h; exact still_name _
      · cases h
    · simp only [Option.map_eq_some_iff] at h
      obtain ⟨gs, h1, rfl⟩ := h
      exact still_tup (gs_still (fun e g' h' => g_still h') h1)
    · cases h
theorem pmat_self (p : Pm) : p.at p.rs = p := by cases p; rfl
/-! ### what a loop walks -/
theorem it_ok (g : GC p P ct k lb sc W X) (HE : ∀ e m, E e = some m → PE X e (tI p W (m (callF P k)))) {tg e : Expr} {m : IM} (h : denIt E ct sc tg e = some m) : PI X tg e (tIt p W (m (callF P k))) := by
  have hseq : ∀ {m : IM}, (E e).map iSeq = some m → PI X tg e (tIt p W (m (callF P k))) := fun {m} h => by
    simp only [Option.map_eq_some_iff] at h
    obtain ⟨a, h1, rfl⟩ := h
    exact pi_seqO g.gd.K (HE e a h1)
  unfold denIt at h
  split at h
  · rename_i x q args pos
    split at h
    rotate_left 1; · exact hseq h
    rename_i hf
    obtain ⟨f1, f2, f3⟩ := free_of g hf
    split at h
    · rename_i ex; subst ex
      split at h
      · rename_i a
        split at h
        rotate_left 1; · cases h
        rename_i hs
        simp only [Option.map_eq_some_iff] at h
        obtain ⟨u, h1, rfl⟩ := h
        exact pi_rng1O f1 f2 (HE a u h1) hs
      · rename_i a b
        split at h
        rotate_left 1; · cases h
        rename_i hs
        rw [Bool.and_eq_true] at hs
        split at h
        · rename_i u v e1 e2
          cases h
          exact pi_rng2O f1 f2 (HE a u e1) (HE b v e2) hs.1 hs.2
        · cases h
      · cases h
    · split at h
      · rename_i ex; subst ex
        split at h
        · rename_i a
          split at h
          rotate_left 1; · cases h
          rename_i hs
          rw [Bool.and_eq_true] at hs
          simp only [Option.map_eq_some_iff] at h
          obtain ⟨u, h1, rfl⟩ := h
          cases tg with
          | Tuple es kk tp => exact pi_enumO g.gd.K f1 f2 (HE a u h1) hs.1
          | _ => exact absurd hs.2 (by intro h; cases h)
        · cases h
      · split at h
        · rename_i ex; subst ex
          split at h
          · rename_i a b
            split at h
            rotate_left 1; · cases h
            rename_i hs
            simp only [Bool.and_eq_true] at hs
            split at h
            · rename_i u v e1 e2
              cases h
              cases tg with
              | Tuple es kk tp => exact pi_zipO g.gd.K f1 f2 (HE a u e1) (HE b v e2) hs.1.1 hs.1.2
              | _ => exact absurd hs.2 (by intro h; cases h)
            · cases h
          · cases h
        · exact hseq h
  · exact hseq h
/-! ### comprehensions -/
structure LcOk (p : Pm) (P : Nat → Option Fn) (k : Nat) (W : Wish) (X : Cx) (scope : Scope) (elt tg iter : Expr) (ifs : List Expr) (l : LM) (own : List (Str × Nat)) (it : IM) (g : GM) (t : TM) (e : EM) : Prop where
  l : l = cLc it (own.map (·.2)) g t e
  sg : Still g
  hi : PI X tg iter (tIt p W (it (callF P k)))
  ok : BlkOk X.N X.env.scope scope own
  hg : ∀ rs (s : Shared) (H : Hp) (C : Addr) (cl : List (Str × Addr)) (fp : List Addr), PG (X.blk s H scope (compEnvC scope cl C X.env) fp) tg (tG (p.at rs) (own.map (·.2)) g)
  ht : ∀ rs (s : Shared) (H : Hp) (C : Addr) (cl : List (Str × Addr)) (fp : List Addr), PTs (X.blk s H scope (compEnvC scope cl C X.env) fp) ifs (tB (p.at rs) W0 (t (callF P k)))
  he : ∀ rs (s : Shared) (H : Hp) (C : Addr) (cl : List (Str × Addr)) (fp : List Addr), PE (X.blk s H scope (compEnvC scope cl C X.env) fp) elt (tI (p.at rs) W0 (e (callF P k)))
  hs : noSet iter = true
/-- what the reading n knows -/
def SndE (P : Nat → Option Fn) (ct : Ct) (k : Nat) (n : Nat) : Prop := ∀ p lb sc W X, GC p P ct k lb sc W X → ∀ e m, denE n ct lb sc e = some m → PE X e (tI p W (m (callF P k)))
def SndT (P : Nat → Option Fn) (ct : Ct) (k : Nat) (n : Nat) : Prop := ∀ p lb sc W X, GC p P ct k lb sc W X → ∀ e m, denT n ct lb sc e = some m → PT X e (tB p W (m (callF P k)))
theorem comp_ok {n : Nat} (SE : SndE P ct k n) (ST : SndT P ct k n) (g : GC p P ct k lb sc W X) {scope : Scope} {elt tg iter : Expr} {ifs : List Expr} {l : LM}
    (h : denComp (denE n ct lb sc) (denE n ct false (relS scope sc)) (denT n ct false (relS scope sc)) ct sc scope elt tg iter ifs = some l) :
    ∃ own it gm t e, LcOk p P k W X scope elt tg iter ifs l own it gm t e := by
  unfold denComp at h
  simp only at h
  split at h
  rotate_left 1; · cases h
  rename_i hb
  rw [Bool.and_eq_true] at hb
  split at h
  · rename_i it gm e t h1 h2 h3 h4
    cases h
    refine ⟨ownOf ct.N scope, it, gm, t, e, rfl, ?_, it_ok g (SE p lb sc W X g) h1, ?_, ?_, ?_, ?_, hb.2⟩
    · exact g_still h2
    · have := blkOk_by hb.1
      rw [g.N, g.sc]
      exact this
    · intro rs s H C cl fp
      exact (g_ok (g.blk rs s H scope C cl fp) h2).2 rs
    · intro rs s H C cl fp
      split at h4
      · cases h4; exact pts_nilO
      · exact pts_oneO (ST _ _ _ _ _ (g.blk rs s H scope C cl fp) _ _ h4)
      · cases h4
    · intro rs s H C cl fp
      exact SE _ _ _ _ _ (g.blk rs s H scope C cl fp) _ _ h3
  · cases h
end
end Pin

set_option Elab.async false
set_option linter.all false
set_option maxRecDepth 100000
set_option maxHeartbeats 2000000
/-! PinO: the reading of expressions is right. -/
namespace Pin
open PySem PySem.Spec PyProof.Rows L2
section
variable {P : Nat → Option Fn} {ct : Ct} {k : Nat}
theorem pe_cmp' {p : Pm} {W : Wish} {X : Cx} {a b : Expr} {pos : Pos} {ma mb : EM} {c : Cl} (g : Gd p X) (o : CmpOp) (ha : PE X a (tI p W (ma c))) (hb : PE X b (tI p W (mb c))) (hm : behindInMarks o b = false) : PE X (.Compare a [o] [b] pos) (tI p W (eCmp (cop' o) ma mb c)) := by
  have := pe_cmpO (pos := pos) g (cop' o) ha hb (by rw [cop_of]; exact hm)
  rwa [cop_of] at this
theorem pt_cmp' {p : Pm} {W : Wish} {X : Cx} {a b : Expr} {pos : Pos} {ma mb : EM} {c : Cl} (g : Gd p X) (o : CmpOp) (ha : PE X a (tI p W (ma c))) (hb : PE X b (tI p W (mb c))) (hm : behindInMarks o b = false) : PT X (.Compare a [o] [b] pos) (tB p W (tCmp (cop' o) ma mb c)) := by
  have := pt_cmpO (pos := pos) g (cop' o) ha hb (by rw [cop_of]; exact hm)
  rwa [cop_of] at this
theorem pe_chain' {p : Pm} {W : Wish} {X : Cx} {a b d : Expr} {pos : Pos} {ma mb md : EM} {c : Cl} (g : Gd p X) (o o' : CmpOp) (ha : PE X a (tI p W (ma c))) (hb : PE X b (tI p W (mb c))) (hd : PE X d (tI p W (md c))) (hm : behindInMarks o' d = false) : PE X (.Compare a [o, o'] [b, d] pos) (tI p W (eChain (cop' o) (cop' o') ma mb md c)) := by
  have := pe_chainO (pos := pos) g (cop' o) (cop' o') ha hb hd (by rw [cop_of, cop_of]; exact hm)
  rwa [cop_of, cop_of] at this
theorem pt_chain' {p : Pm} {W : Wish} {X : Cx} {a b d : Expr} {pos : Pos} {ma mb md : EM} {c : Cl} (g : Gd p X) (o o' : CmpOp) (ha : PE X a (tI p W (ma c))) (hb : PE X b (tI p W (mb c))) (hd : PE X d (tI p W (md c))) (hm : behindInMarks o' d = false) : PT X (.Compare a [o, o'] [b, d] pos) (tB p W (tChain (cop' o) (cop' o') ma mb md c)) := by
  have := pt_chainO (pos := pos) g (cop' o) (cop' o') ha hb hd (by rw [cop_of, cop_of]; exact hm)
  rwa [cop_of, cop_of] at this
theorem SndE.zero : SndE P ct k 0 := fun p lb sc W X g e m h => by unfold denE at h; cases h
theorem SndT.zero : SndT P ct k 0 := fun p lb sc W X g e m h => by unfold denT at h; cases h
theorem SndE.succ {n : Nat} (SE : SndE P ct k n) (ST : SndT P ct k n) : SndE P ct k (n + 1) := fun p lb sc W X g e m h => by
  have HE := SE p lb sc W X g
  have HT := ST p lb sc W X g
  unfold denE at h
  split at h
  · exact name_ok g h
  · cases h; exact pe_cint
  · cases h; exact pe_cbl
  · cases h; exact pe_cnon
  · cases h; exact pe_cstr
  · split at h
    · rename_i e1 e2 e3
      cases h
      rw [← bop_of e1]
      exact pe_bin g.gd _ (HE _ _ e2) (HE _ _ e3)
    · cases h
  · simp only [Option.map_eq_some_iff] at h
    obtain ⟨a, h1, rfl⟩ := h
    exact pe_neg (HE _ _ h1)
  · simp only [Option.map_eq_some_iff] at h
    obtain ⟨a, h1, rfl⟩ := h
    exact pe_notO g.gd.K (HE _ _ h1)
  · exact and_ok g.gd.K HE h
  · exact or_ok g.gd.K HE h
  · split at h
    rotate_left 1; · cases h
    rename_i hs
    split at h
    · rename_i e1 e2
      cases h
      exact pe_cmp' g.gd _ (HE _ _ e1) (HE _ _ e2) (noSet_in hs)
    · cases h
  · split at h
    rotate_left 1; · cases h
    rename_i hs
    split at h
    · rename_i e1 e2 e3
      cases h
      exact pe_chain' g.gd _ _ (HE _ _ e1) (HE _ _ e2) (HE _ _ e3) (noSet_in hs)
    · cases h
  · split at h
    · rename_i e1 e2 e3
      cases h
      exact pe_ifO (HT _ _ e1) (HE _ _ e2) (HE _ _ e3)
    · cases h
  · simp only [Option.map_eq_some_iff] at h
    obtain ⟨a, h1, rfl⟩ := h
    exact pe_tupO (args_ok HE h1).1
  · simp only [Option.map_eq_some_iff] at h
    obtain ⟨a, h1, rfl⟩ := h
    exact pe_lstO (args_ok HE h1).1
  · cases h; exact pe_dctO
  · simp only [Option.map_eq_some_iff] at h
    obtain ⟨a, h1, rfl⟩ := h
    exact pe_revO g.gd.K (HE _ _ h1)
  · split at h
    · rename_i e1 e2 e3
      cases h
      exact pe_slO g.gd.K (HE _ _ e1) (o_ok HE e2) (o_ok HE e3)
    · cases h
  · split at h
    rotate_left 1; · cases h
    rename_i hs
    split at h
    · rename_i e1 e2
      cases h
      exact pe_ixO g.gd.K (HE _ _ e1) (HE _ _ e2) (noSl_ix hs)
    · cases h
  · exact call_ok g HE h
  · exact meth_ok HE h
  · simp only [Option.map_eq_some_iff] at h
    obtain ⟨l, h1, rfl⟩ := h
    obtain ⟨own, it, gm, t, e, C⟩ := comp_ok SE ST g h1
    rw [C.l]
    exact pe_lcO g.gd.calm g.nd C.sg C.hi C.ok C.hg C.ht C.he C.hs
  · cases h
theorem cmp_shape {n : Nat} {lb : Bool} {sc : Scope} {a : Expr} {ops : List CmpOp} {es : List Expr} {pos : Pos} {m : EM} (h : denE n ct lb sc (.Compare a ops es pos) = some m) : (∃ o b, ops = [o] ∧ es = [b]) ∨ ∃ o o' b d, ops = [o, o'] ∧ es = [b, d] := by
  cases n with
  | zero => unfold denE at h; cases h
  | succ n =>
    match ops, es, h with
    | [o], [b], _ => exact .inl ⟨o, b, rfl, rfl⟩
    | [o, o'], [b, d], _ => exact .inr ⟨o, o', b, d, rfl, rfl⟩
    | [], _, h => unfold denE at h; cases h
    | [_], [], h => unfold denE at h; cases h
    | [_], _ :: _ :: _, h => unfold denE at h; cases h
    | [_, _], [], h => unfold denE at h; cases h
    | [_, _], [_], h => unfold denE at h; cases h
    | [_, _], _ :: _ :: _ :: _, h => unfold denE at h; cases h
    | _ :: _ :: _ :: _, _, h => unfold denE at h; cases h
theorem SndT.succ {n : Nat} (SE : SndE P ct k n) (ST : SndT P ct k n) : SndT P ct k (n + 1) := fun p lb sc W X g e m h => by
  have HE := SE p lb sc W X g
  have HT := ST p lb sc W X g
  unfold denT at h
  split at h
  · simp only [Option.map_eq_some_iff] at h
    obtain ⟨a, h1, rfl⟩ := h
    exact pt_notO (HT _ _ h1)
  · exact (andT_ok HT h).pt
  · exact (orT_ok HT h).pt
  · split at h
    rotate_left 1; · cases h
    rename_i hs
    split at h
    · rename_i e1 e2
      cases h
      exact pt_cmp' g.gd _ (HE _ _ e1) (HE _ _ e2) (noSet_in hs)
    · cases h
  · split at h
    rotate_left 1; · cases h
    rename_i hs
    split at h
    · rename_i e1 e2 e3
      cases h
      exact pt_chain' g.gd _ _ (HE _ _ e1) (HE _ _ e2) (HE _ _ e3) (noSet_in hs)
    · cases h
  · cases h
  · simp only [Option.map_eq_some_iff] at h
    obtain ⟨a, h1, rfl⟩ := h
    rename_i n1 n2 n3 n4 n5 n6
    refine pt_valO g.gd.K (HE _ _ h1) (plainT_ok ?_)
    cases e with
    | UnaryOp op x pos =>
      cases op with
      | Not => exact absurd rfl (n1 _ _)
      | _ => rfl
    | BoolOp op es pos =>
      cases op with
      | And => exact absurd rfl (n2 _ _)
      | Or => exact absurd rfl (n3 _ _)
    | IfExp a b c pos => exact absurd rfl (n6 _ _ _ _)
    | Compare x ops es pos =>
      obtain ⟨o, b, rfl, rfl⟩ | ⟨o, o', b, d, rfl, rfl⟩ := cmp_shape h1
      · exact absurd rfl (n4 _ _ _ _)
      · exact absurd rfl (n5 _ _ _ _ _ _)
    | _ => rfl
theorem snd_all (P : Nat → Option Fn) (ct : Ct) (k : Nat) : ∀ n, SndE P ct k n ∧ SndT P ct k n
  | 0 => ⟨SndE.zero, SndT.zero⟩
  | n + 1 => ⟨SndE.succ (snd_all P ct k n).1 (snd_all P ct k n).2, SndT.succ (snd_all P ct k n).1 (snd_all P ct k n).2⟩
end
end Pin

set_option Elab.async false
set_option linter.all false
set_option maxRecDepth 100000
set_option maxHeartbeats 2000000
/-! PinP: the reading of statements is right. -/
namespace Pin
open PySem PySem.Spec PyProof.Rows L2
theorem swF_ok {env : PySem.Env} {sc : Scope} (hs : env.scope = sc) (hk : sc.kind = .function) {ts vs : List Expr} {k k2 : Nat} {p p2 : Pos} {r : Option (List Str)} (h : swF sc ts vs = some r) :
    swappedStores [.Tuple ts k p] (.Tuple vs k2 p2) env = pure r := by
  have hb : env.blockKind = .function := by unfold Env.blockKind; rw [hs, hk]; rfl
  unfold swF at h
  unfold swappedStores
  show (if (!(ts.length == 2 || ts.length == 3) || vs.length != ts.length || env.blockKind != .function) = true then _ else _) = _
  rw [hb]
  split at h
  · rename_i c
    cases h
    rw [if_pos (by rw [c]; rfl)]
  · rename_i c
    rw [if_neg (by simpa using c)]
    have e2 : (fun x : Expr => match x with
        | .Name id pos => if (env.kindOf id == some NameKind.local && pos.line == (Option.map (fun x : Expr => x.pos.line) ts.head?).getD 0) = true then some id else none
        | _ => none) = (fun x : Expr => match x with
        | .Name id pos => if (sc.names.lookup id == some NameKind.local && pos.line == (Option.map (fun x : Expr => x.pos.line) ts.head?).getD 0) = true then some id else none
        | _ => none) := by
      funext x
      cases x <;> first | rfl | skip
      rw [← hs]; rfl
    show (if vs.any isStar = true then pure none else
      if ((ts.filterMap (fun x : Expr => match x with
        | .Name id pos => if (env.kindOf id == some NameKind.local && pos.line == (Option.map (fun x : Expr => x.pos.line) ts.head?).getD 0) = true then some id else none
        | _ => none)).length != ts.length || (ts.filterMap (fun x : Expr => match x with
        | .Name id pos => if (env.kindOf id == some NameKind.local && pos.line == (Option.map (fun x : Expr => x.pos.line) ts.head?).getD 0) = true then some id else none
        | _ => none)).eraseDups.length != (ts.filterMap (fun x : Expr => match x with
        | .Name id pos => if (env.kindOf id == some NameKind.local && pos.line == (Option.map (fun x : Expr => x.pos.line) ts.head?).getD 0) = true then some id else none
        | _ => none)).length) = true then pure none else if vs.all (foldedForSure 8) = true then pure none else _) = pure r
    rw [e2]
    show (if vs.any isStar = true then pure none else
      if ((swNames sc ((ts.head?.map (·.pos.line)).getD 0) ts).length != ts.length || (swNames sc ((ts.head?.map (·.pos.line)).getD 0) ts).eraseDups.length != (swNames sc ((ts.head?.map (·.pos.line)).getD 0) ts).length) = true then pure none else if vs.all (foldedForSure 8) = true then pure none else if vs.all (constantsAlone 8) = true then _ else pure (some (ts.filterMap (fun x : Expr => match x with
        | .Name id pos => if (env.kindOf id == some NameKind.local && pos.line == (Option.map (fun x : Expr => x.pos.line) ts.head?).getD 0) = true then some id else none
        | _ => none)))) = pure r
    rw [e2]
    show (if vs.any isStar = true then pure none else
      if ((swNames sc ((ts.head?.map (·.pos.line)).getD 0) ts).length != ts.length || (swNames sc ((ts.head?.map (·.pos.line)).getD 0) ts).eraseDups.length != (swNames sc ((ts.head?.map (·.pos.line)).getD 0) ts).length) = true then pure none else if vs.all (foldedForSure 8) = true then pure none else if vs.all (constantsAlone 8) = true then _ else pure (some (swNames sc ((ts.head?.map (·.pos.line)).getD 0) ts))) = pure r
    split at h
    · rename_i c1; cases h; rw [if_pos c1]
    · rename_i c1
      rw [if_neg c1]
      simp only at h
      split at h
      · rename_i c2; cases h; rw [if_pos c2]
      · rename_i c2
        rw [if_neg c2]
        split at h
        · rename_i c3; cases h; rw [if_pos c3]
        · rename_i c3
          rw [if_neg c3]
          split at h
          · cases h
          · rename_i c4; cases h; rw [if_neg c4]
section
variable {p : Pm} {W : Wish} {X : Cx} {a b d : Expr} {pos : Pos} {c : Cl}
theorem rvs3 {μ : List Addr} {H : Hp} {d e f : D} {xs : List V} (h : RVs p μ H [d, e, f] xs) : ∃ u v w, xs = [u, v, w] ∧ RV p μ H d u ∧ RV p μ H e v ∧ RV p μ H f w := by
  obtain ⟨v, r, rfl, h1, h2⟩ := h
  obtain ⟨u, w, rfl, q1, q2⟩ := rvs2 (p := p) h2
  exact ⟨v, u, w, rfl, h1, q1, q2⟩
theorem gCons_end {g : GM} {r : GsM} {d : D} {ds : List D} {ρ : Env} {k : Env → M D} {S : Store} : (gCons g r (d :: ds) ρ >>= k) S = (g d ρ >>= fun ρ' => r ds ρ' >>= k) S := by
  unfold gCons; rw [bind_assocM]
theorem gCons_nil {g : GM} {r : GsM} {ρ : Env} {k : Env → M D} {S : Store} : (gCons g r [] ρ >>= k) S = .stk := rfl
theorem gName_inv {i : Nat} {d : D} {ρ : Env} {k : Env → M D} {S : Store} {r : Res D} (h : (gName i d ρ >>= k) S = r) (hr : r ≠ .stk) : k (ρ.set i (some d)) S = r := by
  unfold gName at h
  split at h
  · exact h
  · exact absurd h.symm hr
theorem gNil_inv {ds : List D} {ρ : Env} {k : Env → M D} {S : Store} {r : Res D} (h : (gNil ds ρ >>= k) S = r) (hr : r ≠ .stk) : ds = [] ∧ k ρ S = r := by
  cases ds with
  | nil => exact ⟨rfl, h⟩
  | cons d ds => exact absurd h.symm hr
theorem ps_par3O {i j l : Nat} {x y z : Str} {px py pz pt pt2 : Pos} {kt k2 : Nat} (hc : X.calm = true) (hN : X.N.Nodup) (hi : X.N[i]? = some x) (hj : X.N[j]? = some y) (hl : X.N[l]? = some z) (hij : i ≠ j) (hil : i ≠ l) (hjl : j ≠ l)
    (hx : X.env.scope.names.lookup x = some .local) (hy : X.env.scope.names.lookup y = some .local) (hz : X.env.scope.names.lookup z = some .local) {ml : LM} (ha : PA X [a, b, d] (tL p W (ml c)))
    (hw : swappedStores [.Tuple [.Name x px, .Name y py, .Name z pz] kt pt] (.Tuple [a, b, d] k2 pt2) X.env = pure (some [x, y, z])) : PS X (.Assign [.Tuple [.Name x px, .Name y py, .Name z pz] kt pt] (.Tuple [a, b, d] k2 pt2) pos) (tS p W (sPar ml (gCons (gName i) (gCons (gName j) (gCons (gName l) gNil))) c)) :=
  (ps_par3 hc hN hi hj hl hij hil hjl hx hy hz ha hw rfl).imp fun De σ H ⟨ρ, μ, S, K, r, R, E, h, hr, k⟩ => tL.then R E h hr k fun vs H1 μ1 S1 ds R1 E1 v1 e1 m1 k1 h1 => by
    match ds, v1, h1 with
    | [], _, h1 => exact absurd h1.symm hr
    | [d], _, h1 => rw [gCons_end] at h1; exact absurd (gName_inv h1 hr).symm hr
    | [d, e], _, h1 =>
      rw [gCons_end] at h1
      replace h1 := gName_inv h1 hr
      rw [gCons_end] at h1
      exact absurd (gName_inv h1 hr).symm hr
    | d :: e :: f :: rest, v1, h1 =>
      rw [gCons_end] at h1
      replace h1 := gName_inv h1 hr
      rw [gCons_end] at h1
      replace h1 := gName_inv h1 hr
      rw [gCons_end] at h1
      replace h1 := gName_inv h1 hr
      obtain ⟨h2, h1⟩ := gNil_inv h1 hr
      subst h2
      obtain ⟨u, v, w, rfl, q1, q2, q3⟩ := rvs3 v1
      exact ⟨u, v, w, rfl, k1.nx _ _ H1 μ1 S1 (Ext.refl _) (List.prefix_refl _) R1 (((E1.set q1).set q2).set q3) h1⟩
end
/-- within the body of a def -/
structure GS (p : Pm) (P : Nat → Option Fn) (ct : Ct) (k : Nat) (sc : Scope) (W : Wish) (X : Cx) : Prop where
  g : GC p P ct k true sc W X
  po : PassesOwn (model X.prog X.w) X.A X.env X.xe
  kd : sc.kind = .function
theorem swap_tup {tg : Expr} {es : List Expr} {k : Nat} {p2 : Pos} {l : Nat} {env : PySem.Env} : swapsWithSole [tg] (.Tuple es k p2) l env = pure false := noComp_sole rfl
theorem swapped_one {ts : List Expr} {k : Nat} {p1 : Pos} {v : Expr} {env : PySem.Env} (h : isTup v = false) : swappedStores [.Tuple ts k p1] v env = pure none := by
  cases v <;> first | rfl | (cases h)
section
variable {p : Pm} {P : Nat → Option Fn} {ct : Ct} {k : Nat} {sc : Scope} {W : Wish} {X : Cx}
theorem asg_ok (s : GS p P ct k sc W X) {n : Nat} {tg v : Expr} {spos : Pos} {m : SM} (h : denAsg ct sc n tg v spos = some m) : PS X (.Assign [tg] v spos) (tS p W (m (callF P k))) := by
  have g := s.g
  obtain ⟨SE, ST⟩ := snd_all P ct k n
  have HE := SE p true sc W X g
  have HT := ST p true sc W X g
  have hix : ∀ {x : Str} {i : Nat}, ix ct.N x = some i → X.N[i]? = some x := fun h => by rw [g.N]; exact ix_get h
  unfold denAsg at h
  split at h
  · rename_i x q elt t iter ifs scope pos
    split at h
    rotate_left 1; · cases h
    rename_i hh
    simp only [Bool.and_eq_true, decide_eq_true_eq] at hh
    obtain ⟨⟨h1, h2⟩, h3⟩ := hh
    split at h
    · rename_i l i e1 e2
      cases h
      obtain ⟨own, it, gm, t', e, C⟩ := comp_ok SE ST g e1
      rw [C.l]
      refine ps_setLcO g.gd.calm g.nd (hix e2) (by rw [g.sc]; exact h1) (sw_true (by rw [g.sc]; exact s.kd) (by rw [g.sc]; exact h1) h2 ?_) C.sg C.hi C.ok C.hg C.ht C.he C.hs
      simpa using h3
    · cases h
  · rename_i x q v hv
    split at h
    rotate_left 1; · cases h
    rename_i hh
    rw [Bool.and_eq_true] at hh
    split at h
    · rename_i e i e1 e2
      cases h
      obtain ⟨l1, l2⟩ := loc_of g hh.2
      exact ps_setO g.nd (hix e2) l1 l2 (HE _ _ e1) hh.1
    · cases h
  · rename_i o i q v
    split at h
    rotate_left 1; · cases h
    rename_i hh
    rw [Bool.and_eq_true] at hh
    split at h
    · rename_i e a b e1 e2 e3
      cases h
      exact ps_putO g.gd.K (HE _ _ e1) (HE _ _ e2) (HE _ _ e3) hh.1 hh.2
    · cases h
  · rename_i ts kk pp vs k2 p2
    split at h
    · rename_i hw
      split at h
      · rename_i e gm e1 e2
        cases h
        have := (g_ok g e2).2 p.rs
        rw [pmat_self] at this
        exact ps_asgO (g_still e2) (HE _ _ e1) this swap_tup (swF_ok g.sc s.kd hw) rfl
      · cases h
    · rename_i names hw
      split at h
      · rename_i x px y py a b x' y'
        split at h
        rotate_left 1; · cases h
        rename_i hh
        simp only [Bool.and_eq_true, decide_eq_true_eq, bne_iff_ne, ne_eq] at hh
        obtain ⟨⟨⟨⟨a1, a2⟩, a3⟩, a4⟩, a5⟩ := hh
        subst a1 a2
        split at h
        · rename_i l i j e1 e2 e3
          cases h
          have hij : i ≠ j := fun e => by
            subst e
            have := (hix e2).symm.trans (hix e3)
            cases this; exact a3 rfl
          have ha := (args_ok HE e1)
          exact ps_par2O g.gd.calm g.nd (hix e2) (hix e3) hij (by rw [g.sc]; exact a4) (by rw [g.sc]; exact a5) ha.1 (swF_ok g.sc s.kd hw)
        · cases h
      · rename_i x px y py z pz a b d x' y' z'
        split at h
        rotate_left 1; · cases h
        rename_i hh
        simp only [Bool.and_eq_true, decide_eq_true_eq, bne_iff_ne, ne_eq] at hh
        obtain ⟨⟨⟨⟨⟨⟨⟨⟨a1, a2⟩, a3⟩, a4⟩, a5⟩, a6⟩, a7⟩, a8⟩, a9⟩ := hh
        subst a1 a2 a3
        split at h
        · rename_i l i j o e1 e2 e3 e4
          cases h
          have hij : i ≠ j := fun e => by
            subst e
            have := (hix e2).symm.trans (hix e3)
            cases this; exact a4 rfl
          have hio : i ≠ o := fun e => by
            subst e
            have := (hix e2).symm.trans (hix e4)
            cases this; exact a5 rfl
          have hjo : j ≠ o := fun e => by
            subst e
            have := (hix e3).symm.trans (hix e4)
            cases this; exact a6 rfl
          exact ps_par3O g.gd.calm g.nd (hix e2) (hix e3) (hix e4) hij hio hjo (by rw [g.sc]; exact a7) (by rw [g.sc]; exact a8) (by rw [g.sc]; exact a9) (args_ok HE e1).1 (swF_ok g.sc s.kd hw)
        · cases h
      · cases h
    · cases h
  · rename_i ts kk pp v hv
    split at h
    rotate_left 1; · cases h
    rename_i hh
    simp only [Bool.and_eq_true, Bool.not_eq_true'] at hh
    split at h
    · rename_i e gm e1 e2
      cases h
      have := (g_ok g e2).2 p.rs
      rw [pmat_self] at this
      exact ps_asgO (g_still e2) (HE _ _ e1) this (noComp_sole hh.1) (swapped_one hh.2) rfl
    · cases h
  · cases h
theorem ss_ok {S : Stmt → Option SM} (HS : ∀ s m, S s = some m → PS X s (tS p W (m (callF P k)))) : ∀ {ss : List Stmt} {m : SM}, denSs S ss = some m → PSs X ss (tS p W (m (callF P k)))
  | [], m, h => by cases h; exact pss_nilO
  | [s], m, h => pss_oneO (HS s m h)
  | s :: t :: r, m, h => by
    unfold denSs at h
    split at h
    · rename_i a b e1 e2
      cases h
      exact pss_consO (HS s a e1) (ss_ok HS e2)
    · cases h
theorem s_ok (s : GS p P ct k sc W X) : ∀ {n : Nat} {st : Stmt} {m : SM}, denS n ct sc st = some m → PS X st (tS p W (m (callF P k)))
  | 0, _, _, h => by cases h
  | n + 1, st, m, h => by
    have g := s.g
    obtain ⟨SE, ST⟩ := snd_all P ct k n
    have HE := SE p true sc W X g
    have HT := ST p true sc W X g
    have HS : ∀ st m, denS n ct sc st = some m → PS X st (tS p W (m (callF P k))) := fun st m h => s_ok s h
    unfold denS at h
    split at h
    · exact asg_ok s h
    · split at h
      · rename_i e1 e2 e3
        cases h
        exact ps_ifO (HT _ _ e1) (ss_ok HS e2) (ss_ok HS e3)
      · cases h
    · split at h
      rotate_left 1; · cases h
      rename_i hs
      split at h
      · rename_i e1 e2 e3
        cases h
        have := (g_ok g e2).2 p.rs
        rw [pmat_self] at this
        exact ps_forO s.po g.gd.calm (g_still e2) (it_ok g HE e1) this (ss_ok HS e3) hs
      · cases h
    · split at h
      · rename_i e1 e2
        cases h
        exact ps_whileO s.po (HT _ _ e1) (ss_ok HS e2)
      · cases h
    · simp only [Option.map_eq_some_iff] at h
      obtain ⟨a, h1, rfl⟩ := h
      exact ps_retO (HE _ _ h1)
    · cases h; exact ps_retNO
    · split at h
      rotate_left 1; · cases h
      rename_i hs
      simp only [Option.map_eq_some_iff] at h
      obtain ⟨a, h1, rfl⟩ := h
      exact ps_exprO (HE _ _ h1) hs
    · cases h; exact ps_neverO
    · cases h; exact ps_passO
    · cases h; exact ps_breakO
    · cases h; exact ps_contO
    · cases h
end
end Pin

set_option Elab.async false
set_option linter.all false
set_option maxRecDepth 100000
set_option maxHeartbeats 2000000
/-! PinQ: whole defs, a table of them. -/
namespace Pin
open PySem PySem.Spec PyProof.Rows L2
section
variable {p : Pm} {μ μ' : List Addr} {H : Hp} {S S' : Store}
mutual
theorem RVc.bare : ∀ (d : D) (v : V), d.noRefs = true → RV p μ H d v → RV p μ' H d v
  | .non, _, _, h => h
  | .bl _, _, _, h => h
  | .int _, _, _, h => h
  | .str _, _, _, h => h
  | .tup ds, _, n, ⟨a, vs, h1, h2, h3, h4⟩ => ⟨a, vs, h1, h2, h3, RVsc.bare ds vs n h4⟩
  | .ref _, _, n, _ => by cases n
  | .fn _, _, _, h => h
  | .clo _ _, _, _, h => h
  | .fz ds, _, n, ⟨a, vs, h1, h2, h3, h4⟩ => ⟨a, vs, h1, h2, h3, RVsc.bare ds vs n h4⟩
theorem RVsc.bare : ∀ (ds : List D) (vs : List V), D.noRefsL ds = true → RVs p μ H ds vs → RVs p μ' H ds vs
  | [], _, _, h => h
  | d :: ds, _, n, ⟨v, r, h1, h2, h3⟩ => by
    have n' : (d.noRefs && D.noRefsL ds) = true := n
    rw [Bool.and_eq_true] at n'
    exact ⟨v, r, h1, RVc.bare d v n'.1 h2, RVsc.bare ds r n'.2 h3⟩
end
end
/-- the machine's data of a def; what the layer wants of it -/
structure DT where
  d : He.DefD
  N : List Str
  ps : List Str
  dv : List D
  sm : SM
def DT.fn (t : DT) : Fn := ⟨t.ps.length, t.N.length, t.dv, t.sm⟩
def tabP (T : List DT) : Nat → Option Fn := fun i => (T[i]?).map DT.fn
def fuel : Nat := 40
/-- the binding of values to the parameters, by the model's own rule -/
def BindD (t : DT) : Prop :=
  (t.dv = [] ∧ ∀ (kV doc pm : Value) (an : Option Addr) (cdv ct : Value) (us : List Value), us.length = t.ps.length → bindArgs (PySem.W.fnOf t.d.name t.d.qual t.d.params t.d.body t.d.scope .none kV doc pm an cdv ct) ⟨us, []⟩ = pure (t.ps.zip us)) ∨
  (t.dv ≠ [] ∧ ∀ j, j ≤ t.dv.length → ∀ (T : Addr) (kV doc pm : Value) (an : Option Addr) (cdv ct : Value) (us its : List Value), us.length + (t.dv.length - j) = t.ps.length → its.length = t.dv.length →
    ∃ k, bindArgs (PySem.W.fnOf t.d.name t.d.qual t.d.params t.d.body t.d.scope (.ref T) kV doc pm an cdv ct) ⟨us, []⟩ = seqItems? (.ref T) >>= k ∧ k (some its.toArray) = pure (t.ps.zip (us ++ its.drop j)))
structure DOk (gl : List (Str × GV)) (K : PySem.W.Frag) (fa : Nat → Option Addr) (t : DT) : Prop where
  sc : FnScope t.N t.ps t.d.scope
  den : denSs (denS fuel ⟨gl, t.N⟩ t.d.scope) t.d.body = some t.sm
  dfl : ∀ (ca cf T rs) μ H, RVs ⟨K, fa, ca, cf, T, rs⟩ μ H t.dv (t.d.dvs K)
  le : t.dv.length ≤ t.ps.length
  bind : BindD t
/-- what the module's names stand for -/
def GlS (K : PySem.W.Frag) (mg : Str → Option Value) (fa : Nat → Option Addr) (T : List DT) (x : Str) : GV → Prop
  | .con d => ∃ u v, mg x = some u ∧ RelV v u ∧ ∀ (ca cf T rs) μ H, RV ⟨K, fa, ca, cf, T, rs⟩ μ H d v
  | .fn f => ∃ t, T[f]? = some t ∧ mg x = some (.ref (He.fAd K t.d.at_))
  | .free => mg x = none
section
variable {K : PySem.W.Frag} {fd : FuncData} {f : Addr}
theorem binds_of {t : DT} {kws : List (Str × V)} (F : FunD K t.d.name t.d.qual t.d.params t.d.body t.d.scope (t.d.dvs K) kws f fd) (hl : (t.d.dvs K).length = t.dv.length) (b : BindD t) :
    ∃ dsv, Vals (t.d.dvs K) dsv ∧ ∀ j, j ≤ dsv.length → Binds K fd t.ps (dsv.drop j) := by
  obtain ⟨oc, od, dV, kV, doc, pm, an, cdv, ct, osl, rfl, lk, hcd, hD, hK⟩ := F.ex
  rcases hD with ⟨e, rfl⟩ | ⟨e, T, o, its, m, rfl, lT, oT, rT⟩
  · rcases b with ⟨e2, b⟩ | ⟨e2, b⟩
    · refine ⟨[], e ▸ .nil, fun j hj => ?_⟩
      rw [List.drop_nil]
      exact .all (b kV doc pm an cdv ct)
    · rw [e] at hl
      exact absurd (List.length_eq_zero_iff.mp hl.symm) e2
  · have l1 : its.length = (t.d.dvs K).length := rT.length.symm
    rcases b with ⟨e2, b⟩ | ⟨e2, b⟩
    · rw [e2] at hl
      exact absurd (List.length_eq_zero_iff.mp hl) e
    · refine ⟨its, rT, fun j hj s us X hlen => ?_⟩
      have l2 : us.length + (t.dv.length - j) = t.ps.length := by
        rw [List.length_append, List.length_drop, l1, hl] at hlen
        omega
      obtain ⟨k, e1, e3⟩ := b j (by omega) T kV doc pm an cdv ct us its l2 (by omega)
      refine BindsTo.of_looks fun M => ?_
      rw [e1]
      exact looks_items X lT oT (.of_pure e3)
theorem startE_rep {p : Pm} {μ : List Addr} {H : Hp} {N : List Str} {ds : List D} {vs : List V} (r : RVs p μ H ds vs) : RepE p μ H (startE N.length ds) (L2.start N vs) := by
  have hl := r.len
  refine ⟨by simp [startE, L2.start, hl], fun i d h => ?_⟩
  unfold startE at h
  by_cases hi : i < ds.length
  · rw [List.getElem?_append_left (by simpa using hi), List.getElem?_map] at h
    cases e : ds[i]? with
    | none => rw [e] at h; cases h
    | some a =>
      rw [e] at h
      cases h
      obtain ⟨v, h1, h2⟩ := r.get e
      refine ⟨v, ?_, h2⟩
      unfold L2.start
      rw [List.getElem?_append_left (by simpa [hl] using hi), List.getElem?_map, h1]
      rfl
  · rw [List.getElem?_append_right (by simpa using hi), List.getElem?_replicate] at h
    split at h <;> cases h
end
section
variable {p : Pm} {μ ν : List Addr} {H0 H : Hp}
mutual
theorem RVc.low : ∀ (d : D) (v0 v : V), RV p μ H0 d v0 → RV p (μ ++ ν) H d v → RV p μ H d v
  | .non, _, _, _, h => h
  | .bl _, _, _, _, h => h
  | .int _, _, _, _, h => h
  | .str _, _, _, _, h => h
  | .tup ds, _, _, ⟨_, vs0, _, _, _, h0⟩, ⟨a, vs, h1, h2, h3, h4⟩ => ⟨a, vs, h1, h2, h3, RVsc.low ds vs0 vs h0 h4⟩
  | .ref i, _, _, ⟨a0, _, h0⟩, ⟨a, h1, h2⟩ => ⟨a, h1, by
    rw [List.getElem?_append_left (List.getElem?_eq_some_iff.mp h0).1] at h2; exact h2⟩
  | .fn _, _, _, _, h => h
  | .clo _ _, _, _, _, h => h
  | .fz ds, _, _, ⟨_, vs0, _, _, _, h0⟩, ⟨a, vs, h1, h2, h3, h4⟩ => ⟨a, vs, h1, h2, h3, RVsc.low ds vs0 vs h0 h4⟩
theorem RVsc.low : ∀ (ds : List D) (vs0 vs : List V), RVs p μ H0 ds vs0 → RVs p (μ ++ ν) H ds vs → RVs p μ H ds vs
  | [], _, _, _, h => h
  | d :: ds, _, _, ⟨v0, r0, _, g2, g3⟩, ⟨v, r, h1, h2, h3⟩ => ⟨v, r, h1, RVc.low d v0 v g2 h2, RVsc.low ds r0 r g3 h3⟩
end
end
theorem RepS.cut {p : Pm} {μ μ' : List Addr} {H0 H : Hp} {S S' : Store} (R0 : RepS p μ H0 S) (R : RepS p μ' H S') (m : μ <+: μ') (hS : S'.take S.length = S) : RepS p μ H S := by
  obtain ⟨ν, rfl⟩ := m
  have hl := R0.len
  have hm : ∀ {i : Nat} {a : Addr}, μ[i]? = some a → (μ ++ ν)[i]? = some a := fun h => by
    rw [List.getElem?_append_left (List.getElem?_eq_some_iff.mp h).1]; exact h
  refine ⟨hl, (List.nodup_append.mp R.nd).1, fun i o a e1 e2 => ?_, R.tab, fun a o e => ?_⟩
  · have hi := (List.getElem?_eq_some_iff.mp e1).1
    have e3 : S'[i]? = some o := by
      rw [← hS, List.getElem?_take] at e1
      rw [if_pos hi] at e1
      exact e1
    have q := R.ob i o a e3 (hm e2)
    have q0 := R0.ob i o a e1 e2
    cases o with
    | lst ds =>
      obtain ⟨vs, h1, h2⟩ := q
      obtain ⟨vs0, _, h0⟩ := q0
      exact ⟨vs, h1, RVsc.low ds vs0 vs h0 h2⟩
    | dct kvs => exact q
    | cell v => exact q
  · obtain ⟨h1, h2⟩ := R.res a o e
    exact ⟨h1, fun h => h2 (List.mem_append_left _ h)⟩
/-- a call's promise, behind the sweep -/
theorem PostX.ungc {p : Pm} {m : M D} {S : Store} {H : Hp} {μ : List Addr} {Q : VK} {E : XK} (R0 : RepS p μ H S) (h : PostX p (gc m S) H μ Q E) : PostX p (m S) H μ Q E := by
  unfold gc at h
  cases e : m S with
  | stk => rw [e] at h; exact h
  | exc x S' => rw [e] at h; exact h
  | ok d S' =>
    rw [e] at h
    simp only at h
    split at h
    · rename_i c
      intro v H' μ' he hm R rv
      exact h v H' μ he (List.prefix_refl _) (R0.cut R hm c.2) (RVc.bare d v c.1 rv)
    · exact h
theorem fnAt_of {T : List DT} {gl : List (Str × GV)} {prog : Program} {w : World} {K : PySem.W.Frag} {mg : Str → Option Value} {base : Heap} {p : Pm} (hpK : p.K = K)
    (hfa : ∀ i t, T[i]? = some t → p.fa i = some (He.fAd K t.d.at_))
    (hF : ∀ t ∈ T, ∃ fd kws, FunD K t.d.name t.d.qual t.d.params t.d.body t.d.scope (t.d.dvs K) kws (He.fAd K t.d.at_) fd)
    (hok : ∀ t ∈ T, DOk gl K p.fa t) {k i : Nat} {t : DT} (ht : T[i]? = some t)
    (H : ∀ fd kws, FunD K t.d.name t.d.qual t.d.params t.d.body t.d.scope (t.d.dvs K) kws (He.fAd K t.d.at_) fd → FnOk prog w K mg base (L2.CX prog w) (lv k) (He.fAd K t.d.at_) fd t.ps (spF p (tabP T) k i))
    (X : Cx) (h1 : X.prog = prog) (h2 : X.w = w) (h3 : X.K = K) (h4 : X.mg = mg) (h5 : X.base = base) : FnAt p (tabP T) X k i t.fn (He.fAd K t.d.at_) := by
  have hmem : t ∈ T := List.mem_of_getElem? ht
  have O := hok t hmem
  have hP : tabP T i = some t.fn := by unfold tabP; rw [ht]; rfl
  obtain ⟨fd, kws, F⟩ := hF t hmem
  have hdl : (t.d.dvs K).length = t.dv.length := (O.dfl p.ca p.cf p.T p.rs [] (fun _ => none)).len
  obtain ⟨dsv, rd, hb⟩ := binds_of F hdl O.bind
  have hdv : ∀ μ H, RVs p μ H t.dv (t.d.dvs K) := fun μ H => by
    have := O.dfl p.ca p.cf p.T p.rs μ H
    subst hpK
    exact this
  refine ⟨hP, hfa i t ht, by rw [h3]; exact F.kp, fd, t.ps, t.d.dvs K, dsv, ?_, rfl, rd, hdv, O.le, fun j hj => by rw [h3]; exact hb j hj⟩
  rw [h1, h2, h3, h4, h5]
  exact H fd kws F
/-- every def of the table keeps to what the machine says of it -/
theorem tab_all {T : List DT} {gl : List (Str × GV)} {prog : Program} {w : World} {K : PySem.W.Frag} {mg : Str → Option Value} {base : Heap} {p : Pm} (hpK : p.K = K)
    (hfa : ∀ i t, T[i]? = some t → p.fa i = some (He.fAd K t.d.at_))
    (hF : ∀ t ∈ T, ∃ fd kws, FunD K t.d.name t.d.qual t.d.params t.d.body t.d.scope (t.d.dvs K) kws (He.fAd K t.d.at_) fd)
    (hok : ∀ t ∈ T, DOk gl K p.fa t) (hgl : ∀ x g, gl.lookup x = some g → GlS K mg p.fa T x g) :
    ∀ (k i : Nat) (t : DT), T[i]? = some t → ∀ fd kws, FunD K t.d.name t.d.qual t.d.params t.d.body t.d.scope (t.d.dvs K) kws (He.fAd K t.d.at_) fd → FnOk prog w K mg base (L2.CX prog w) (lv k) (He.fAd K t.d.at_) fd t.ps (spF p (tabP T) k i)
  | k, i, t, ht, fd, kws, F => by
    have hmem : t ∈ T := List.mem_of_getElem? ht
    have O := hok t hmem
    have hP : tabP T i = some t.fn := by unfold tabP; rw [ht]; rfl
    have hlen : ∀ vs H Q E, spF p (tabP T) k i vs H Q E → vs.length = t.ps.length := fun vs H Q E ⟨rs, fn, μ, S, ds, e1, e2, R, rv, _⟩ => by
      rw [hP] at e1
      cases e1
      rw [rv.len, e2]; rfl
    cases k with
    | zero => exact ⟨hlen, fun A outer s H args us vs Q E hr e0 hb r ⟨rs, fn, μ, S, ds, e1, e2, R, rv, post⟩ => post.elim⟩
    | succ k =>
      show FnOk prog w K mg base (L2.CX prog w) ((4 * k + 5) + 1) (He.fAd K t.d.at_) fd t.ps (spF p (tabP T) (k + 1) i)
      refine F.ok O.sc hlen fun cdv A outer s H vs Q E hr hsp => ?_
      obtain ⟨rs, fn, μ, S, ds, e1, e2, R, rv, post⟩ := hsp
      rw [hP] at e1
      cases e1
      have hfull : fullA t.fn ds = ds := by
        unfold fullA
        rw [e2]
        show ds ++ List.drop (t.fn.dv.length - (t.fn.ar - t.fn.ar)) t.fn.dv = ds
        rw [Nat.sub_self, Nat.sub_zero, List.drop_length, List.append_nil]
      have hcall : callF (tabP T) (k + 1) i ds = gc (t.sm (callF (tabP T) k) (startE t.N.length ds) K0) := by
        funext S
        simp only [callF, hP, hfull, e2, if_true]
        rfl
      rw [hcall] at post
      have post := post.ungc R
      let W : Wish := fun x μ S σ H => ∀ cls dd, RX (p.at rs) μ H x cls dd → E cls dd H
      have tk : TakesW (p.at rs) (cxOf (L2.CX prog w) prog w K mg base t.N t.d.qual t.d.scope (He.fAd K t.d.at_) cdv A outer s H E) W :=
        Takes.imp (L2.takes_of (X := cxOf (L2.CX prog w) prog w K mg base t.N t.d.qual t.d.scope (He.fAd K t.d.at_) cdv A outer s H E) (E := E) rfl rfl rfl rfl) fun cls dd σ H' ⟨x, μ', S', R', rx, w'⟩ => w' cls dd rx
      have G : GC (p.at rs) (tabP T) ⟨gl, t.N⟩ k true t.d.scope W (cxOf (L2.CX prog w) prog w K mg base t.N t.d.qual t.d.scope (He.fAd K t.d.at_) cdv A outer s H E) := by
        refine ⟨⟨hpK.symm, rfl, hr.mono (by omega)⟩, hr.mono (by unfold lv; omega), rfl, O.sc.nd, rfl, fun _ _ => rfl, fun x g hx => ?_, tk⟩
        have q := hgl x g hx
        cases g with
        | con d =>
          obtain ⟨u, v, q1, q2, q3⟩ := q
          refine ⟨u, v, q1, q2, fun μ H => ?_⟩
          have := q3 p.ca p.cf p.T rs μ H
          subst hpK
          exact this
        | fn f =>
          obtain ⟨t', q1, q2⟩ := q
          have Fk := fnAt_of hpK hfa hF hok q1 (fun fd kws F => tab_all hpK hfa hF hok hgl k f t' q1 fd kws F) (cxOf (L2.CX prog w) prog w K mg base t.N t.d.qual t.d.scope (He.fAd K t.d.at_) cdv A outer s H E) rfl rfl rfl rfl rfl
          exact ⟨t'.fn, _, q2, ⟨Fk.at_, Fk.loc, Fk.kp, Fk.ok⟩⟩
        | free => exact q
      have GS' : GS (p.at rs) (tabP T) ⟨gl, t.N⟩ k t.d.scope W (cxOf (L2.CX prog w) prog w K mg base t.N t.d.qual t.d.scope (He.fAd K t.d.at_) cdv A outer s H E) :=
        ⟨G, L2.passes_of rfl, O.sc.kind⟩
      refine ⟨_, ss_ok (fun st m h => s_ok GS' h) O.den, startE t.N.length ds, μ, S, K0, _, R, startE_rep rv, rfl, fun e => ?_, ?_⟩
      · rw [e] at post; exact post
      · refine ⟨fun ρ' σ' H' μ' S' he hm R' E' hk => ?_, fun ρ' σ' H' μ' S' he hm R' E' hk => ?_, fun ρ' σ' H' μ' S' he hm R' E' hk => ?_, fun d v H' μ' S' he hm R' rv' hk => ?_, fun x S' hx σ' H' μ' he hm R' cls dd rx => ?_⟩
        · rw [← hk] at post
          exact post .non H' μ' he hm R' rfl
        · rw [← hk] at post; exact post.elim
        · rw [← hk] at post; exact post.elim
        · rw [← hk] at post
          exact post v H' μ' he hm R' rv'
        · rw [hx] at post
          exact post cls dd H' μ' he hm R' rx
  termination_by k => k
end Pin

set_option Elab.async false
set_option linter.all false
set_option maxRecDepth 100000
set_option maxHeartbeats 2000000
/-! PinR: what the heap behind the top shows of the table; a law's end. -/
namespace Pin
open PySem PySem.Spec PyProof.Rows L2
/-! ### constants -/
mutual
def relD (K : PySem.W.Frag) : D → Value → Bool
  | .non, .none => true
  | .bl b, .bool c => b == c
  | .int i, .int j _ => decide (i = j)
  | .str x, .str y _ => decide (x = y)
  | .tup ds, .ref a => match K.lookup a with
    | some ⟨.type c, _, .seq its _, _⟩ => decide (c = "tuple") && (decide (its.size ≤ sizeLine) && relDs K ds its.toList)
    | _ => false
  | _, _ => false
def relDs (K : PySem.W.Frag) : List D → List Value → Bool
  | [], [] => true
  | d :: ds, u :: us => relD K d u && relDs K ds us
  | _, _ => false
end
abbrev RVK (K : PySem.W.Frag) (fa : Nat → Option Addr) (d : D) (v : V) : Prop := ∀ (ca : Nat → Option Addr) (cf : Nat → Option Str) (T : List (Addr × Str)) (rs : Hp) (μ : List Addr) (H : Hp), RV ⟨K, fa, ca, cf, T, rs⟩ μ H d v
mutual
theorem relD_ok {K : PySem.W.Frag} {fa : Nat → Option Addr} : ∀ (d : D) (u : Value), relD K d u = true → ∃ v, RelV v u ∧ RVK K fa d v
  | .non, u, h => by
    cases u with
    | none => exact ⟨.non, rfl, fun _ _ _ _ _ _ => rfl⟩
    | _ => cases h
  | .bl b, u, h => by
    cases u with
    | bool c =>
      have e : b = c := eq_of_beq (show (b == c) = true from h)
      subst e
      exact ⟨.bl b, rfl, fun _ _ _ _ _ _ => rfl⟩
    | _ => cases h
  | .int i, u, h => by
    cases u with
    | int j t =>
      have e : i = j := of_decide_eq_true h
      subst e
      exact ⟨.int i, ⟨t, rfl⟩, fun _ _ _ _ _ _ => rfl⟩
    | _ => cases h
  | .str x, u, h => by
    cases u with
    | str y t =>
      have e : x = y := of_decide_eq_true h
      subst e
      exact ⟨.str x, ⟨t, rfl⟩, fun _ _ _ _ _ _ => rfl⟩
    | _ => cases h
  | .tup ds, u, h => by
    cases u with
    | ref a =>
      have h1 : (match K.lookup a with
        | some ⟨.type c, _, .seq its _, _⟩ => decide (c = "tuple") && (decide (its.size ≤ sizeLine) && relDs K ds its.toList)
        | _ => false) = true := h
      cases q : K.lookup a with
      | none => rw [q] at h1; cases h1
      | some o =>
        obtain ⟨oc, od, dt, osl⟩ := o
        rw [q] at h1
        cases oc with
        | type c =>
          cases dt with
          | seq its n =>
            have h2 : (decide (c = "tuple") && (decide (its.size ≤ sizeLine) && relDs K ds its.toList)) = true := h1
            rw [Bool.and_eq_true, Bool.and_eq_true] at h2
            obtain ⟨e1, e2, e3⟩ := h2
            obtain ⟨vs, r1, r2⟩ := relDs_ok (fa := fa) ds its.toList e3
            refine ⟨.ref a, rfl, fun ca cf T rs μ H => ⟨a, vs, rfl, .inr ⟨_, its, n, q, congrArg Value.type (of_decide_eq_true e1), rfl, of_decide_eq_true e2, r1⟩, ?_, r2 ca cf T rs μ H⟩⟩
            have e4 := (r2 ca cf T rs μ H).len
            have e5 := r1.length
            have e6 := of_decide_eq_true e2
            have e7 : its.toList.length = its.size := Array.length_toList
            show ds.length ≤ sizeLine
            exact Nat.le_trans (Nat.le_of_eq (by rw [← e4, e5, e7])) e6
          | _ => cases h1
        | _ => cases dt <;> cases h1
    | _ => cases h
  | .ref _, u, h => by cases u <;> cases h
  | .fn _, u, h => by cases u <;> cases h
  | .clo _ _, u, h => by cases u <;> cases h
  | .fz _, u, h => by cases u <;> cases h
theorem relDs_ok {K : PySem.W.Frag} {fa : Nat → Option Addr} : ∀ (ds : List D) (us : List Value), relDs K ds us = true → ∃ vs, Vals vs us ∧ ∀ (ca : Nat → Option Addr) (cf : Nat → Option Str) (T : List (Addr × Str)) (rs : Hp) (μ : List Addr) (H : Hp), RVs ⟨K, fa, ca, cf, T, rs⟩ μ H ds vs
  | [], us, h => by
    cases us with
    | nil => exact ⟨[], .nil, fun _ _ _ _ _ _ => rfl⟩
    | cons u us => cases h
  | d :: ds, us, h => by
    cases us with
    | nil => cases h
    | cons u us =>
      have h' : (relD K d u && relDs K ds us) = true := h
      rw [Bool.and_eq_true] at h'
      obtain ⟨v, r1, r2⟩ := relD_ok d u h'.1
      obtain ⟨vs, r3, r4⟩ := relDs_ok ds us h'.2
      exact ⟨v :: vs, .cons r1 r3, fun ca cf T rs μ H => ⟨v, vs, rfl, r2 ca cf T rs μ H, r4 ca cf T rs μ H⟩⟩
end
/-! ### names -/
def glB (K : PySem.W.Frag) (T : List DT) (q : Str × GV) : Bool := match q.2 with
  | .con d => (match PySem.W.nsIn K mainGlobals q.1 with
    | some (some u) => relD K d u
    | _ => false)
  | .fn f => (match T[f]? with
    | some t => He.eqO (PySem.W.nsIn K mainGlobals q.1) (some (some (.ref (He.fAd K t.d.at_))))
    | none => false)
  | .free => He.eqO (PySem.W.nsIn K mainGlobals q.1) (some none)
theorem glB_ok {K : PySem.W.Frag} {T : List DT} {h : Heap} {mg : Str → Option Value} {fa : Nat → Option Addr} (X : K.In h) (G : h.Ns mainGlobals mg) {x : Str} {g : GV} (c : glB K T (x, g) = true) : GlS K mg fa T x g := by
  cases g with
  | con d =>
    have c2 : (match PySem.W.nsIn K mainGlobals x with
      | some (some u) => relD K d u
      | _ => false) = true := c
    cases e : PySem.W.nsIn K mainGlobals x with
    | none => rw [e] at c2; cases c2
    | some o =>
      rw [e] at c2
      cases o with
      | none => cases c2
      | some u =>
        obtain ⟨v, r1, r2⟩ := relD_ok (fa := fa) d u c2
        exact ⟨u, v, PySem.W.mg_of X G e, r1, r2⟩
  | fn f =>
    have c2 : (match T[f]? with
      | some t => He.eqO (PySem.W.nsIn K mainGlobals x) (some (some (.ref (He.fAd K t.d.at_))))
      | none => false) = true := c
    cases e : T[f]? with
    | none => rw [e] at c2; cases c2
    | some t =>
      rw [e] at c2
      exact ⟨t, e, PySem.W.mg_of X G (He.eqO_ok c2)⟩
  | free => exact PySem.W.mg_none_of X G (He.eqO_ok c)
/-! ### the Hook -/
abbrev AlP : Type := He.AlD × Bool
def obsP (T : List DT) (gl : List (Str × GV)) (K : PySem.W.Frag) : AlP := (He.obsD [] (T.map (·.d)) K, gl.all (glB K T))
def valP (T : List DT) : AlP := (He.valD (T.map (·.d)), true)
def SaysP (T : List DT) (gl : List (Str × GV)) (K : PySem.W.Frag) : Prop := obsP T gl K = valP T
/-- what the module's names name; their code and defaults, their items, those's items -/
def asQ (g : Addr → Option Obj) : List Addr :=
  let l1 := match g mainGlobals with
    | some ⟨_, _, .dict es _, _⟩ => es.toList.flatMap fun e => He.refV e.val
    | _ => []
  let up := fun a => match g a with
    | some ⟨_, _, .func fd, _⟩ => He.refV fd.code ++ He.refV fd.defaults
    | some ⟨_, _, .seq its _, _⟩ => its.toList.flatMap He.refV
    | _ => []
  let l2 := l1.flatMap up
  mainGlobals :: (l1 ++ (l2 ++ l2.flatMap up))
def obsPG (T : List DT) (gl : List (Str × GV)) (g : Addr → Option Obj) : AlP := obsP T gl (He.frG g (asQ g))
def hookP (T : List DT) (gl : List (Str × GV)) : PySem.W.Hook where
  α := AlP
  obs := fun s => obsPG T gl s.heap.get?
  val := fun _ => valP T
  says := fun _ h => ∃ K : PySem.W.Frag, K.In h ∧ SaysP T gl K
  of := fun _ _ e => ⟨_, He.frG_in, e⟩
  keeps := fun _ _ _ ⟨K, hK, c⟩ k => ⟨K, PySem.W.Frag.In.keeps hK k, c⟩
theorem obsPG_eq {T : List DT} {gl : List (Str × GV)} {g : Addr → Option Obj} {s : Shared} (h : ∀ a, g a = s.heap.get? a) : obsPG T gl g = (hookP T gl).obs s := by
  have e : g = s.heap.get? := funext h
  rw [e] <;> rfl
def obP (T : List DT) (gl : List (Str × GV)) (s : PySem.W.SharedT) : AlP := obsPG T gl (HandSHeadRun.getT s)
theorem obP_eq (T : List DT) (gl : List (Str × GV)) (s : PySem.W.SharedT) : obP T gl s = (hookP T gl).obs s.abs := obsPG_eq (HandSHeadRun.getT_eq s)
/-! ### the end -/
/-- the table's checks that do not ask the heap -/
structure TOk (T : List DT) (gl : List (Str × GV)) : Prop where
  sc : ∀ t ∈ T, FnScope t.N t.ps t.d.scope
  den : ∀ t ∈ T, denSs (denS fuel ⟨gl, t.N⟩ t.d.scope) t.d.body = some t.sm
  dfl : ∀ t ∈ T, ∀ (K : PySem.W.Frag) (fa ca cf T rs) μ H, RVs ⟨K, fa, ca, cf, T, rs⟩ μ H t.dv (t.d.dvs K)
  le : ∀ t ∈ T, t.dv.length ≤ t.ps.length
  bind : ∀ t ∈ T, BindD t
/-- one def's checks -/
structure T1 (gl : List (Str × GV)) (t : DT) : Prop where
  sc : FnScope t.N t.ps t.d.scope
  den : denSs (denS fuel ⟨gl, t.N⟩ t.d.scope) t.d.body = some t.sm
  dfl : ∀ (K : PySem.W.Frag) (fa ca cf T rs) μ H, RVs ⟨K, fa, ca, cf, T, rs⟩ μ H t.dv (t.d.dvs K)
  le : t.dv.length ≤ t.ps.length
  bind : BindD t
theorem all_nil {gl : List (Str × GV)} : ∀ t ∈ ([] : List DT), T1 gl t := fun _ h => nomatch h
theorem all_cons {gl : List (Str × GV)} {t : DT} {l : List DT} (h : T1 gl t) (r : ∀ t ∈ l, T1 gl t) : ∀ t' ∈ t :: l, T1 gl t' := fun t' h' => by
  rcases List.mem_cons.mp h' with e | e
  · rw [e]; exact h
  · exact r t' e
theorem tok_of {T : List DT} {gl : List (Str × GV)} (h : ∀ t ∈ T, T1 gl t) : TOk T gl := ⟨fun t ht => (h t ht).sc, fun t ht => (h t ht).den, fun t ht => (h t ht).dfl, fun t ht => (h t ht).le, fun t ht => (h t ht).bind⟩
section
variable {α : Type} {us : List α}
theorem len1 (h : us.length = 1) : ∃ a, us = [a] := List.length_eq_one_iff.mp h
theorem len2 (h : us.length = 2) : ∃ a b, us = [a, b] := match us, h with | [a, b], _ => ⟨a, b, rfl⟩
theorem len3 (h : us.length = 3) : ∃ a b c, us = [a, b, c] := match us, h with | [a, b, c], _ => ⟨a, b, c, rfl⟩
theorem len4 (h : us.length = 4) : ∃ a b c d, us = [a, b, c, d] := match us, h with | [a, b, c, d], _ => ⟨a, b, c, d, rfl⟩
theorem len5 (h : us.length = 5) : ∃ a b c d e, us = [a, b, c, d, e] := match us, h with | [a, b, c, d, e], _ => ⟨a, b, c, d, e, rfl⟩
theorem len6 (h : us.length = 6) : ∃ a b c d e f, us = [a, b, c, d, e, f] := match us, h with | [a, b, c, d, e, f], _ => ⟨a, b, c, d, e, f, rfl⟩
end
theorem lookup_mem {α β : Type} [BEq α] [LawfulBEq α] {a : α} {b : β} : ∀ {l : List (α × β)}, l.lookup a = some b → (a, b) ∈ l
  | [], h => by cases h
  | (x, y) :: l, h => by
    rw [List.lookup_cons] at h
    split at h
    · rename_i e
      cases h
      rw [eq_of_beq e]
      exact List.mem_cons_self
    · exact List.mem_cons_of_mem _ (lookup_mem h)
theorem walk_ofB {l : PySem.W.OpenLaw} {n k : Nat} {q : Program} {loose : List Str} {XP : (Str → Option Value) → Heap → Prop} {YP : World → Heap → Prop} {d : DefRec} {CX : World → CXT} {x : Str}
    (hn : l.most = some n) (hn2 : n ≤ sizeLine) (hdf : d.params.defaults = []) (hr : Room k callerA)
    (F : ∀ (w : World) (mg : Str → Option Value) (fa : Addr) (h : Heap), YP w h → h.Ns mainGlobals mg → mg d.name = some (.ref fa) →
      ∃ (K : PySem.W.Frag) (fd : FuncData) (sp : Sp), K.In h ∧ (∀ (s : Shared) (u : Value), BindsTo s fd ⟨[u], []⟩ [(x, u)]) ∧
        (∀ (H : Hp) (a : Addr) (ns : List Int), ns.length ≤ n → (∀ k ∈ ns, Builtin.Int.intBits k ≤ 1048576) → Only H → SqL K H a (ns.map V.int) → sp [.ref a] H (fun v _ => v = .bl true) fun _ _ _ => False) ∧
        ∀ base : Heap, K.In base → base.Ns mainGlobals mg → FnOk l.prog w K mg base (CX w) k fa fd [x] sp)
    (hCX : ∀ (w : World) (H : Hp) (s : Shared) (e : Value) (s' : Shared), CX w [] H s (fun _ _ _ => False) e s' → False) :
    PySem.W.WalkO q loose XP YP l.row.toRowW d [] (fun f vs => PySem.call f vs) := by
  refine Att.attach_callB hn hdf fun w s₀ s₁ mg mb fa o pm cd doc a vs ns G Y ho hd hcd hmg hobj hints hlen hbits hg => ?_
  obtain ⟨K, fd, sp, KX, hb, hsp, hF⟩ := F w mg fa _ Y G.T.g hmg
  exact law_call KX G.T.g G.T.b G.T.builtins G.T.nolimit hg hobj hints (Nat.le_trans hlen hn2) hr hF hb (fun H hO hS => hsp H a ns hlen hbits hO hS) fun H e s' => hCX w H s₁ e s'
theorem noExc (P : Program) (w : World) (H : Hp) (s : Shared) (e : Value) (s' : Shared) (h : L2.CX P w [] H s (fun _ _ _ => False) e s') : False := by
  obtain ⟨a, B, H', cls, d, _, _, _, _, _, _, _, z⟩ := h
  exact z
theorem rvs_ints {p : Pm} {μ : List Addr} {H : Hp} : ∀ ns : List Int, RVs p μ H (ns.map D.int) (ns.map V.int)
  | [] => rfl
  | n :: ns => ⟨.int n, ns.map V.int, rfl, rfl, rvs_ints ns⟩
/-- the script, at the entry -/
theorem entry_rep {p : Pm} {H : Hp} {a : Addr} {ns : List Int} (hO : Only H) (hS : SqL p.K H a (ns.map V.int)) (hl : ns.length ≤ sizeLine) : RVs p [] H [.fz (ns.map D.int)] [.ref a] := by
  refine ⟨.ref a, [], rfl, ⟨a, ns.map V.int, rfl, ?_, by simpa using hl, rvs_ints ns⟩, rfl⟩
  rcases hS with h | h
  · rcases h with h | ⟨o, h⟩
    · rcases hO a with e | ⟨o, xs, e⟩
      · rw [e] at h; cases h
      · rw [e] at h; cases h
    · exact .inl ⟨o, h⟩
  · exact .inr h
/-- THE END: a law whose machine answers True -/
theorem law_end {l : PySem.W.OpenLaw} {q : Program} {loose : List Str} {XP : (Str → Option Value) → Heap → Prop} {d : DefRec} {T : List DT} {gl : List (Str × GV)} {m kk L : Nat} {tL : DT} {x : Str}
    (hn : l.most = some m) (hn2 : m ≤ sizeLine) (hdf : d.params.defaults = []) (hr : Room (lv kk) callerA) (ok : TOk T gl) (hL : T[L]? = some tL) (hps : tL.ps = [x]) (hdv : tL.dv = []) (hg : gl.lookup d.name = some (.fn L))
    (plain : ∀ ns : List Int, ns.length ≤ m → (∀ k ∈ ns, Builtin.Int.intBits k ≤ 1048576) → ∃ S, callF (tabP T) kk L [.fz (ns.map D.int)] [] = .ok (.bl true) S) :
    PySem.W.WalkO q loose XP (hookP T gl).says l.row.toRowW d [] (fun f vs => PySem.call f vs) := by
  refine walk_ofB (x := x) (CX := fun w => L2.CX l.prog w) hn hn2 hdf hr (fun w mg fa h Y G hmg => ?_) (fun w => noExc _ w)
  obtain ⟨K, KX, c⟩ := Y
  have cD : He.SaysD [] (T.map (·.d)) K := congrArg (fun z : AlP => z.1) c
  have cG : gl.all (glB K T) = true := congrArg (fun z : AlP => z.2) c
  have hmem : tL ∈ T := List.mem_of_getElem? hL
  have hF : ∀ t ∈ T, ∃ fd kws, FunD K t.d.name t.d.qual t.d.params t.d.body t.d.scope (t.d.dvs K) kws (He.fAd K t.d.at_) fd := fun t ht => by
    obtain ⟨i, hi⟩ := List.getElem?_of_mem ht
    obtain ⟨fd, F⟩ := cD.def_ i (d := t.d) (by rw [List.getElem?_map, hi]; rfl)
    exact ⟨fd, _, F⟩
  let faF : Nat → Option Addr := fun i => (T[i]?).map fun t => He.fAd K t.d.at_
  let p : Pm := ⟨K, faF, fun _ => none, fun _ => none, [], fun _ => none⟩
  have hok : ∀ t ∈ T, DOk gl K p.fa t := fun t ht => ⟨ok.sc t ht, ok.den t ht, ok.dfl t ht K _, ok.le t ht, ok.bind t ht⟩
  have hgl : ∀ (h' : Heap) (mg' : Str → Option Value), K.In h' → h'.Ns mainGlobals mg' → ∀ x g, gl.lookup x = some g → GlS K mg' p.fa T x g := fun h' mg' X' G' x g hx =>
    glB_ok X' G' (List.all_eq_true.mp cG _ (lookup_mem hx))
  have hfa : ∀ i t, T[i]? = some t → p.fa i = some (He.fAd K t.d.at_) := fun i t e => by show (T[i]?).map _ = _; rw [e]; rfl
  have eL : fa = He.fAd K tL.d.at_ := by
    obtain ⟨t, e1, e2⟩ := hgl h mg KX G d.name (.fn L) hg
    rw [hL] at e1
    cases e1
    rw [hmg] at e2
    cases e2
    rfl
  obtain ⟨fd, kws, F⟩ := hF tL hmem
  have hdl : tL.d.dvs K = [] := by
    have := (ok.dfl tL hmem K p.fa p.ca p.cf [] (fun _ => none) [] (fun _ => none)).len
    rw [hdv] at this
    exact List.length_eq_zero_iff.mp this
  have hbind : ∀ (s : Shared) (u : Value), BindsTo s fd ⟨[u], []⟩ [(x, u)] := fun s u => by
    obtain ⟨oc, od, dV, kV, doc, pm, an, cdv, ct, osl, rfl, lk, hcd, hD, hK⟩ := F.ex
    rw [hdl] at hD
    rcases hD with ⟨_, rfl⟩ | ⟨e, _⟩
    · rcases ok.bind tL hmem with ⟨_, b⟩ | ⟨e, _⟩
      · have := b kV doc pm an cdv ct [u] (by rw [hps]; rfl)
        rw [hps] at this
        exact .of_eq this
      · exact absurd hdv e
    · exact absurd rfl e
  have hall := fun (base : Heap) (hKb : K.In base) (hns : base.Ns mainGlobals mg) => tab_all (prog := l.prog) (w := w) (base := base) (p := p) rfl hfa hF hok (hgl base mg hKb hns)
  refine ⟨K, fd, spF p (tabP T) kk L, KX, hbind, fun H a ns hlen hbits hO hS => ?_, fun base hKb hns => ?_⟩
  · obtain ⟨S, e⟩ := plain ns hlen hbits
    refine ⟨fun _ => none, tL.fn, [], [], [.fz (ns.map D.int)], ?_, ?_, ?_, ?_, ?_⟩
    · show (T[L]?).map DT.fn = _; rw [hL]; rfl
    · show 1 = tL.ps.length; rw [hps]; rfl
    · exact ⟨rfl, List.nodup_nil, (fun i o a e => by simp at e), (fun q hq => nomatch (show q ∈ ([] : List (Addr × Str)) from hq)), (fun a o e => nomatch (show (none : Option HO) = some o from e))⟩
    · exact entry_rep hO hS (Nat.le_trans hlen hn2)
    · rw [e]
      intro v H' μ' _ _ _ rv
      exact rv
  · rw [eL]
    have key := hall base hKb hns kk L tL hL fd kws F
    rw [hps] at key
    exact key
end Pin

set_option Elab.async false
set_option linter.all false
set_option maxRecDepth 100000
/-! PinW: what the machine answers, said by what follows. -/
namespace Pin
open PySem L2
def WP' {α : Type} (r : Res α) (Q : α → Store → Prop) : Prop := match r with
  | .ok a S => Q a S
  | _ => False
/-- .. kept from unfolding -/
structure WP {α : Type} (r : Res α) (Q : α → Store → Prop) : Prop where
  h : WP' r Q
theorem wp_def {α : Type} {r : Res α} {Q : α → Store → Prop} : WP r Q = WP' r Q := propext ⟨fun h => h.h, fun h => ⟨h⟩⟩
section
variable {α β : Type} {Q : α → Store → Prop} {S : Store}
@[simp] theorem wp_ok {a : α} : WP (.ok a S) Q = Q a S := wp_def
@[simp] theorem wp_stk : WP (.stk : Res α) Q = False := wp_def
@[simp] theorem wp_exc {x : Exc} : WP (.exc x S : Res α) Q = False := wp_def
@[simp] theorem wp_stkM : WP ((stk : M α) S) Q = False := wp_def
@[simp] theorem wp_pure {a : α} : WP ((pure a : M α) S) Q = Q a S := wp_def
@[simp] theorem wp_bind {m : M β} {k : β → M α} : WP ((m >>= k) S) Q = WP (m S) fun b S' => WP (k b S') Q := by
  rw [bind_run]
  cases m S <;> simp
@[simp] theorem wp_ite {p : Prop} [Decidable p] {a b : M α} : WP ((if p then a else b) S) Q = ((p → WP (a S) Q) ∧ (¬ p → WP (b S) Q)) := by
  by_cases h : p <;> simp [h]
theorem wp_fits {n : Nat} {m : M α} : WP (fits n m S) Q = (n ≤ sizeLine ∧ WP (m S) Q) := by
  unfold fits
  by_cases h : n ≤ sizeLine <;> simp [h]
theorem wp_cond {b : Bool} {m : M α} : WP (cond b m S) Q = (b = true ∧ WP (m S) Q) := by
  unfold cond
  by_cases h : b = true <;> simp [h]
@[simp] theorem cond_true {m : M α} : cond true m = m := rfl
@[simp] theorem wp_newO {o : Ob} {Q : D → Store → Prop} : WP (newO o S) Q = Q (.ref S.length) (S ++ [o]) := wp_def
theorem wp_getL {n : Nat} {Q : List D → Store → Prop} {xs : List D} (h : S[n]? = some (.lst xs)) : WP (getL n S) Q = Q xs S := by
  unfold getL
  rw [h]
  exact wp_ok
@[simp] theorem wp_noX {m : M α} : WP (noX m S) Q = WP (m S) Q := by
  unfold noX
  cases m S <;> simp
theorem WP.mono {r : Res α} {Q Q' : α → Store → Prop} (h : WP r Q) (i : ∀ a S, Q a S → Q' a S) : WP r Q' := by
  rw [wp_def] at h ⊢
  cases r with
  | ok a S => exact i a S h
  | exc x S => exact h
  | stk => exact h
end
/-! combinators -/
section
variable {c : Cl} {ρ : Env} {k : Kt} {S : Store} {Q : D → Store → Prop}
@[simp] theorem x_eVar {i : Nat} : eVar i c ρ = varM ρ i := rfl
@[simp] theorem x_eCon {d : D} : eCon d c ρ = pure d := rfl
@[simp] theorem x_eBin {op : BOp} {a b : EM} : eBin op a b c ρ = (do let x ← a c ρ; let y ← b c ρ; binM op x y) := rfl
@[simp] theorem x_eNeg {a : EM} : eNeg a c ρ = (do let x ← a c ρ; negM x) := rfl
@[simp] theorem x_eCmp {op : COp} {a b : EM} : eCmp op a b c ρ = (do let x ← a c ρ; let y ← b c ρ; let k ← cmpB op x y; pure (.bl k)) := rfl
@[simp] theorem x_eNot {a : EM} : eNot a c ρ = (do let x ← a c ρ; let k ← truth x; pure (.bl (!k))) := rfl
@[simp] theorem x_eAnd {a b : EM} : eAnd a b c ρ = (do let x ← a c ρ; let k ← truth x; if k = true then b c ρ else pure x) := rfl
@[simp] theorem x_eOr {a b : EM} : eOr a b c ρ = (do let x ← a c ρ; let k ← truth x; if k = true then pure x else b c ρ) := rfl
@[simp] theorem x_eIf {t : TM} {a b : EM} : eIf t a b c ρ = (do let k ← t c ρ; if k = true then a c ρ else b c ρ) := rfl
@[simp] theorem x_eChain {op op' : COp} {a b d : EM} : eChain op op' a b d c ρ = (do
  let x ← a c ρ
  let y ← b c ρ
  let k ← cmpB op x y
  if k = true then do let z ← d c ρ; let l ← cmpB op' y z; pure (.bl l) else pure (.bl false)) := rfl
@[simp] theorem x_lNil : lNil c ρ = pure [] := rfl
@[simp] theorem x_lCons {a : EM} {r : LM} : lCons a r c ρ = (do let x ← a c ρ; let xs ← r c ρ; pure (x :: xs)) := rfl
@[simp] theorem x_eTup {l : LM} : eTup l c ρ = (do let xs ← l c ρ; tupM xs) := rfl
@[simp] theorem x_eLst {l : LM} : eLst l c ρ = (do let xs ← l c ρ; lstM xs) := rfl
@[simp] theorem x_eDct0 : eDct0 c ρ = newO (.dct []) := rfl
@[simp] theorem x_eIx {a b : EM} : eIx a b c ρ = (do let x ← a c ρ; let y ← b c ρ; ixM x y) := rfl
@[simp] theorem x_oNone : oNone c ρ = pure none := rfl
@[simp] theorem x_oSome {a : EM} : oSome a c ρ = (do let x ← a c ρ; let i ← intM x; pure (some i)) := rfl
@[simp] theorem x_eRev {a : EM} : eRev a c ρ = (do let x ← a c ρ; revM x) := rfl
@[simp] theorem x_eSl {a : EM} {lo hi : OM} : eSl a lo hi c ρ = (do let x ← a c ρ; let l ← lo c ρ; let h ← hi c ρ; slM x l h) := rfl
@[simp] theorem x_eCall {f : Nat} {l : LM} : eCall f l c ρ = (do let xs ← l c ρ; c f xs) := rfl
@[simp] theorem x_eBi {b : Bi} {l : LM} : eBi b l c ρ = (do let xs ← l c ρ; biM b xs) := rfl
@[simp] theorem x_eIsi {a : EM} {t : Ty} : eIsi a t c ρ = (do let x ← a c ρ; let k ← isiM x t; pure (.bl k)) := rfl
@[simp] theorem x_eMe {m : Me} {a : EM} {l : LM} : eMe m a l c ρ = (do let x ← a c ρ; let _ ← lstOf x; let xs ← l c ρ; meM m x xs) := rfl
@[simp] theorem x_lstOf {r : Nat} : lstOf (.ref r) = getL r := rfl
@[simp] theorem x_tVal {a : EM} : tVal a c ρ = (do let x ← a c ρ; truth x) := rfl
@[simp] theorem x_tCmp {op : COp} {a b : EM} : tCmp op a b c ρ = (do let x ← a c ρ; let y ← b c ρ; cmpB op x y) := rfl
@[simp] theorem x_tChain {op op' : COp} {a b d : EM} : tChain op op' a b d c ρ = (do
  let x ← a c ρ
  let y ← b c ρ
  let k ← cmpB op x y
  if k = true then do let z ← d c ρ; cmpB op' y z else pure false) := rfl
@[simp] theorem x_tNot {a : TM} : tNot a c ρ = (do let k ← a c ρ; pure (!k)) := rfl
@[simp] theorem x_tAnd {a b : TM} : tAnd a b c ρ = (do let k ← a c ρ; if k = true then b c ρ else pure false) := rfl
@[simp] theorem x_tOr {a b : TM} : tOr a b c ρ = (do let k ← a c ρ; if k = true then pure true else b c ρ) := rfl
@[simp] theorem x_tYes : tYes c ρ = pure true := rfl
@[simp] theorem x_gNil : gNil [] ρ = pure ρ := rfl
@[simp] theorem x_gCons {g : GM} {r : GsM} {d : D} {ds : List D} : gCons g r (d :: ds) ρ = (do let ρ' ← g d ρ; r ds ρ') := rfl
@[simp] theorem x_iSeq {a : EM} : iSeq a c ρ = (do let x ← a c ρ; walkD x) := rfl
@[simp] theorem x_iRng1 {a : EM} : iRng1 a c ρ = (do let x ← a c ρ; let j ← intM x; cond (rngOk j) (pure ⟨[], rangeD 0 j.toNat⟩)) := rfl
@[simp] theorem x_iEnum {a : EM} : iEnum a c ρ = (do let x ← a c ρ; let w ← walkD x; pure ⟨w.gd, enumD w.xs⟩) := rfl
@[simp] theorem x_iZip {a b : EM} : iZip a b c ρ = (do let x ← a c ρ; let y ← b c ρ; zipM x y) := rfl
@[simp] theorem x_cLc {it : IM} {own : List Nat} {g : GM} {t : TM} {e : EM} : cLc it own g t e c ρ = (do
  let w ← it c ρ
  let ys ← lcL w.gd g t e c (wipeE ρ own) w.xs
  fits ys.length (pure ys)) := rfl
@[simp] theorem x_eLc {l : LM} : eLc l c ρ = (do let ys ← l c ρ; newO (.lst ys)) := rfl
@[simp] theorem x_sPass : sPass c ρ k = k.nx ρ := rfl
@[simp] theorem x_sSeq {a b : SM} : sSeq a b c ρ k = a c ρ ⟨fun ρ' => b c ρ' k, k.rt, k.bk, k.ct⟩ := rfl
@[simp] theorem x_sAsg {e : EM} {g : GM} : sAsg e g c ρ k = (do let d ← e c ρ; let ρ' ← g d ρ; k.nx ρ') := rfl
@[simp] theorem x_sPar {l : LM} {g : GsM} : sPar l g c ρ k = (do let xs ← l c ρ; let ρ' ← g xs ρ; k.nx ρ') := rfl
@[simp] theorem x_sPut {e o i : EM} : sPut e o i c ρ k = (do let d ← e c ρ; let x ← o c ρ; let y ← i c ρ; setM x y d; k.nx ρ) := rfl
@[simp] theorem x_sExpr {e : EM} : sExpr e c ρ k = (do let _ ← e c ρ; k.nx ρ) := rfl
@[simp] theorem x_sRet {e : EM} : sRet e c ρ k = (do let d ← e c ρ; k.rt d) := rfl
@[simp] theorem x_sRetN : sRetN c ρ k = k.rt .non := rfl
@[simp] theorem x_sIf {t : TM} {a b : SM} : sIf t a b c ρ k = (do let x ← t c ρ; if x = true then a c ρ k else b c ρ k) := rfl
@[simp] theorem x_sBreak : sBreak c ρ k = k.bk ρ := rfl
@[simp] theorem x_sCont : sCont c ρ k = k.ct ρ := rfl
@[simp] theorem x_sNever : sNever c ρ k = stk := rfl
@[simp] theorem x_sFor {it : IM} {g : GM} {b : SM} : sFor it g b c ρ k = (do let w ← it c ρ; forL w.gd g b c k w.xs ρ) := rfl
@[simp] theorem x_sWhile {t : TM} {b : SM} : sWhile t b c ρ k = whileM t b c k ρ := rfl
@[simp] theorem K0_nx : K0.nx ρ = pure .non := rfl
@[simp] theorem K0_rt {d : D} : K0.rt d = pure d := rfl
@[simp] theorem wp_gName {i : Nat} {d : D} {Q : Env → Store → Prop} : WP (gName i d ρ S) Q = (i < ρ.length ∧ Q (ρ.set i (some d)) S) := by
  unfold gName
  by_cases h : i < ρ.length <;> simp [h]
@[simp] theorem wp_gTup {n : Nat} {g : GsM} {xs : List D} {Q : Env → Store → Prop} : WP (gTup n g (.tup xs) ρ S) Q = (xs.length = n ∧ WP (g xs ρ S) Q) := by
  show WP ((if xs.length = n then g xs ρ else stk) S) Q = _
  by_cases h : xs.length = n <;> simp [h]
theorem wp_var {i : Nat} {d : D} (h : ρ[i]? = some (some d)) : WP (varM ρ i S) Q = Q d S := by
  unfold varM
  rw [h]
  exact wp_ok
@[simp] theorem var_0 {d : D} : varM (some d :: ρ) 0 = pure d := rfl
@[simp] theorem var_s {o : Option D} {i : Nat} : varM (o :: ρ) (i + 1) = varM ρ i := rfl
end
/-! values -/
section
variable {S : Store}
@[simp] theorem b_add {i j : Int} : binM .add (.int i) (.int j) = pure (.int (i + j)) := rfl
@[simp] theorem b_addT {xs ys : List D} : binM .add (.tup xs) (.tup ys) = tupM (xs ++ ys) := rfl
@[simp] theorem b_addL {r q : Nat} : binM .add (.ref r) (.ref q) = (do let xs ← getL r; let ys ← getL q; lstM (xs ++ ys)) := rfl
@[simp] theorem b_sub {i j : Int} : binM .sub (.int i) (.int j) = pure (.int (i - j)) := rfl
@[simp] theorem b_mul {i j : Int} : binM .mul (.int i) (.int j) = cond (mulOk i j) (pure (.int (i * j))) := rfl
@[simp] theorem b_mulT {xs : List D} {k : Int} : binM .mul (.tup xs) (.int k) = cond (decide (k ≤ 1000) && decide (-(2 ^ 62) ≤ k) && decide (xs.length ≤ 1000)) (pure (.tup (repD xs k))) := rfl
@[simp] theorem b_div {i j : Int} : binM .fdiv (.int i) (.int j) = cond (divOk j) (pure (.int (i.fdiv j))) := rfl
@[simp] theorem b_mod {i j : Int} : binM .mod (.int i) (.int j) = cond (decide (j ≠ 0)) (pure (.int (i.fmod j))) := rfl
@[simp] theorem b_pow {i j : Int} : binM .pow (.int i) (.int j) = cond (powOk i j) (pure (.int (i ^ j.toNat))) := rfl
@[simp] theorem b_neg {i : Int} : negM (.int i) = pure (.int (-i)) := rfl
@[simp] theorem c_eq {a b : D} : cmpB .eq a b = eqM a b := rfl
@[simp] theorem c_ne {a b : D} : cmpB .ne a b = (do let k ← eqM a b; pure (!k)) := rfl
@[simp] theorem c_lt {i j : Int} : cmpB .lt (.int i) (.int j) = pure (decide (i < j)) := rfl
@[simp] theorem c_le {i j : Int} : cmpB .le (.int i) (.int j) = pure (decide (i ≤ j)) := rfl
@[simp] theorem c_gt {i j : Int} : cmpB .gt (.int i) (.int j) = pure (decide (j < i)) := rfl
@[simp] theorem c_ge {i j : Int} : cmpB .ge (.int i) (.int j) = pure (decide (j ≤ i)) := rfl
@[simp] theorem c_is {a b : D} : cmpB .is a b = isM a b := rfl
@[simp] theorem c_isnot {a b : D} : cmpB .isnot a b = (do let k ← isM a b; pure (!k)) := rfl
@[simp] theorem is_bl {a b : Bool} : isM (.bl a) (.bl b) = pure (decide (a = b)) := rfl
@[simp] theorem is_non : isM .non .non = pure true := rfl
@[simp] theorem is_intN {i : Int} : isM (.int i) .non = pure false := rfl
@[simp] theorem t_bl {b : Bool} : truth (.bl b) = pure b := rfl
@[simp] theorem t_int {i : Int} : truth (.int i) = pure (i != 0) := rfl
@[simp] theorem ix_tup {xs : List D} {i : Int} : ixM (.tup xs) (.int i) = (match atI xs i with
    | some d => pure d
    | none => stk) := rfl
@[simp] theorem ix_ref {r : Nat} {i : Int} : ixM (.ref r) (.int i) = (do
    let xs ← getL r
    match atI xs i with
    | some d => pure d
    | none => stk) := rfl
@[simp] theorem sl_tup {xs : List D} {lo hi : Option Int} : slM (.tup xs) lo hi = pure (.tup (cutD xs lo hi)) := rfl
@[simp] theorem sl_fz {xs : List D} {lo hi : Option Int} : slM (.fz xs) lo hi = newO (.lst (cutD xs lo hi)) := rfl
@[simp] theorem rev_tup {xs : List D} : revM (.tup xs) = pure (.tup xs.reverse) := rfl
@[simp] theorem int_int {i : Int} : intM (.int i) = pure i := rfl
@[simp] theorem bi_lenT {xs : List D} : biM .len [.tup xs] = pure (.int xs.length) := rfl
@[simp] theorem bi_lenF {xs : List D} : biM .len [.fz xs] = pure (.int xs.length) := rfl
@[simp] theorem bi_lenR {r : Nat} : biM .len [.ref r] = (do let xs ← getL r; pure (.int xs.length)) := rfl
@[simp] theorem bi_abs {i : Int} : biM .abs [.int i] = pure (.int (if i < 0 then -i else i)) := rfl
@[simp] theorem bi_int {i : Int} : biM .int [.int i] = pure (.int i) := rfl
@[simp] theorem bi_intb {b : Bool} : biM .int [.bl b] = pure (.int (if b then 1 else 0)) := rfl
@[simp] theorem bi_max {i j : Int} : biM .max [.int i, .int j] = pure (.int (if j > i then j else i)) := rfl
@[simp] theorem bi_min {i j : Int} : biM .min [.int i, .int j] = pure (.int (if j < i then j else i)) := rfl
@[simp] theorem bi_tupR {r : Nat} : biM .tuple [.ref r] = (do let xs ← getL r; tupM xs) := rfl
@[simp] theorem bi_lstT {xs : List D} : biM .list [.tup xs] = lstM xs := rfl
@[simp] theorem bi_all {r : Nat} : biM .all [.ref r] = (do let xs ← getL r; opt (allBl xs) fun bs => pure (.bl (bs.all id))) := rfl
@[simp] theorem bi_any {r : Nat} : biM .any [.ref r] = (do let xs ← getL r; opt (allBl xs) fun bs => pure (.bl (bs.any id))) := rfl
@[simp] theorem walk_tup {xs : List D} : walkD (.tup xs) = pure ⟨[], xs⟩ := rfl
@[simp] theorem walk_ref {r : Nat} : walkD (.ref r) = (do let xs ← getL r; pure ⟨[(r, xs)], xs⟩) := rfl
@[simp] theorem zip_tup {xs ys : List D} : zipM (.tup xs) (.tup ys) = pure ⟨[], pairsD xs ys⟩ := rfl
theorem wp_tupM {xs : List D} {Q : D → Store → Prop} : WP (tupM xs S) Q = (xs.length ≤ sizeLine ∧ Q (.tup xs) S) := by
  unfold tupM; rw [wp_fits, wp_pure]
theorem wp_lstM {xs : List D} {Q : D → Store → Prop} : WP (lstM xs S) Q = (xs.length ≤ sizeLine ∧ Q (.ref S.length) (S ++ [.lst xs])) := by
  unfold lstM; rw [wp_fits, wp_newO]
theorem wp_chk {gd : List (Nat × List D)} {Q : Unit → Store → Prop} (h : GdOk gd S) : WP (chk gd S) Q = Q () S := by
  unfold chk; rw [if_pos h, wp_ok]
theorem gd_nil : GdOk [] S := fun p hp => by cases hp
@[simp] theorem get_end {o : Ob} : (S ++ [o])[S.length]? = some o := by simp
theorem get_old {S' : Store} {i : Nat} {o : Ob} (h : S[i]? = some o) : (S ++ S')[i]? = some o := by
  rw [List.getElem?_append_left (List.getElem?_eq_some_iff.mp h).1]; exact h
end
@[simp] theorem at_0 {a : D} {xs : List D} : L2.atI (a :: xs) 0 = some a := by
  simp [L2.atI, L2.ixN]
@[simp] theorem at_1 {a b : D} {xs : List D} : L2.atI (a :: b :: xs) 1 = some b := by
  have h : ¬ ((1 : Int) < 0) := by decide
  have h2 : (1 : Int) < (xs.length : Int) + 1 + 1 := by omega
  simp [L2.atI, L2.ixN, h2]
@[simp] theorem at_2 {a b c : D} {xs : List D} : L2.atI (a :: b :: c :: xs) 2 = some c := by
  have h2 : (2 : Int) < (xs.length : Int) + 1 + 1 + 1 := by omega
  simp [L2.atI, L2.ixN, h2]
/-! loops -/
theorem wp_for {gd : List (Nat × List D)} {g : GM} {b : SM} {c : Cl} {k : Kt} {Q : D → Store → Prop} (I : List D → Env → Store → Prop)
    (hgd : ∀ ys ρ S, I ys ρ S → GdOk gd S) (hend : ∀ ρ S, I [] ρ S → WP (k.nx ρ S) Q)
    (hstep : ∀ x ys ρ S, I (x :: ys) ρ S → ∀ K' : Kt, (∀ ρ'' S'', I ys ρ'' S'' → WP (K'.nx ρ'' S'') Q) → (∀ ρ'' S'', I ys ρ'' S'' → WP (K'.ct ρ'' S'') Q) →
      K'.bk = k.nx → K'.rt = k.rt → WP (g x ρ S) fun ρ' S' => WP (b c ρ' K' S') Q) :
    ∀ (xs : List D) (ρ : Env) (S : Store), I xs ρ S → WP (forL gd g b c k xs ρ S) Q
  | [], ρ, S, h => by
    unfold forL
    rw [wp_bind, wp_chk (hgd _ _ _ h)]
    exact hend ρ S h
  | x :: xs, ρ, S, h => by
    unfold forL
    rw [wp_bind, wp_chk (hgd _ _ _ h), wp_bind]
    exact hstep x xs ρ S h _ (fun ρ'' S'' h' => wp_for I hgd hend hstep xs ρ'' S'' h') (fun ρ'' S'' h' => wp_for I hgd hend hstep xs ρ'' S'' h') rfl rfl
theorem wp_lcL {gd : List (Nat × List D)} {g : GM} {t : TM} {e : EM} {c : Cl} {ρ : Env} (J : List D → List D → Store → Prop)
    (hgd : ∀ ys xs S, J ys xs S → GdOk gd S)
    (hstep : ∀ ys x xs S, J ys (x :: xs) S → WP (g x ρ S) fun ρ' S1 => WP (t c ρ' S1) fun k S2 => (k = true → WP (e c ρ' S2) fun y S3 => J (ys ++ [y]) xs S3) ∧ (k = false → J ys xs S2)) :
    ∀ (xs ys : List D) (S : Store) (Q : List D → Store → Prop), J ys xs S → (∀ zs S', J (ys ++ zs) [] S' → Q zs S') → WP (lcL gd g t e c ρ xs S) Q
  | [], ys, S, Q, h, q => by
    unfold lcL
    rw [wp_bind, wp_chk (hgd _ _ _ h), wp_pure]
    exact q [] S (by rw [List.append_nil]; exact h)
  | x :: xs, ys, S, Q, h, q => by
    unfold lcL
    rw [wp_bind, wp_chk (hgd _ _ _ h), wp_bind]
    refine (hstep ys x xs S h).mono fun ρ' S1 h1 => ?_
    rw [wp_bind, wp_noX]
    refine h1.mono fun k S2 h2 => ?_
    rw [wp_ite]
    refine ⟨fun hk => ?_, fun hk => ?_⟩
    · rw [wp_bind, wp_noX]
      refine (h2.1 hk).mono fun y S3 h3 => ?_
      rw [wp_bind]
      refine wp_lcL J hgd hstep xs (ys ++ [y]) S3 _ h3 fun zs S' h4 => ?_
      rw [wp_pure]
      refine q (y :: zs) S' ?_
      rw [List.append_assoc] at h4
      exact h4
    · exact wp_lcL J hgd hstep xs ys S2 Q (h2.2 (by simpa using hk)) q
/-! calls -/
section
variable {P : Nat → Option Fn} {n f : Nat} {fn : Fn} {ds : List D} {S : Store}
theorem call_def (h : P f = some fn) (hl : ds.length = fn.ar) : callF P (n + 1) f ds S = gc (fn.sm (callF P n) (startE fn.sl ds) K0) S := by
  have hfull : fullA fn ds = ds := by
    unfold fullA
    rw [hl, Nat.sub_self, Nat.sub_zero, List.drop_length, List.append_nil]
  simp only [callF, h, hfull, hl, if_true]
theorem call_dflt (h : P f = some fn) (hl : (fullA fn ds).length = fn.ar) : callF P (n + 1) f ds S = gc (fn.sm (callF P n) (startE fn.sl (fullA fn ds)) K0) S := by
  simp only [callF, h, hl, if_true]
theorem gc_clean {m : M D} {d : D} (hn : d.noRefs = true) (hw : WP (m S) fun v S' => v = d ∧ ∃ G, S' = S ++ G) : gc m S = .ok d S := by
  unfold gc
  cases e : m S with
  | ok v S' =>
    rw [e, wp_def] at hw
    obtain ⟨rfl, G, rfl⟩ := hw
    simp [hn]
  | exc x S' => rw [e, wp_def] at hw; exact hw.elim
  | stk => rw [e, wp_def] at hw; exact hw.elim
theorem gc_wp {m : M D} {Q : D → Store → Prop} (hw : WP (m S) fun v S' => Q v S' ∧ (v.noRefs = true → S'.take S.length = S → Q v S)) : WP (gc m S) Q := by
  unfold gc
  cases e : m S with
  | ok v S' =>
    rw [e, wp_def] at hw
    simp only
    split
    · rename_i c; exact wp_ok ▸ hw.2 c.1 c.2
    · exact wp_ok ▸ hw.1
  | exc x S' => rw [e, wp_def] at hw; exact hw.elim
  | stk => rw [e, wp_def] at hw; exact hw.elim
theorem call_clean {d : D} (h : P f = some fn) (hl : ds.length = fn.ar) (hn : d.noRefs = true) (hw : WP (fn.sm (callF P n) (startE fn.sl ds) K0 S) fun v S' => v = d ∧ ∃ G, S' = S ++ G) : callF P (n + 1) f ds S = .ok d S := by
  rw [call_def h hl]; exact gc_clean hn hw
theorem call_wp {Q : D → Store → Prop} (h : P f = some fn) (hl : ds.length = fn.ar) (hw : WP (fn.sm (callF P n) (startE fn.sl ds) K0 S) fun v S' => Q v S' ∧ (v.noRefs = true → S'.take S.length = S → Q v S)) : WP (callF P (n + 1) f ds S) Q := by
  rw [call_def h hl]; exact gc_wp hw
end
end Pin
namespace Pin
/-- Euclid's loop -/
theorem while_gcd {t : TM} {b : SM} {c : Cl} {k : Kt} (E : Nat → Nat → Env) (ht : ∀ x y S, t c (E x y) S = .ok (decide (y ≠ 0)) S) (hb : ∀ (x y : Nat) (K : Kt) S, y ≠ 0 → b c (E x y) K S = K.nx (E y (x % y)) S) (x y : Nat) (S : Store) :
    whileM t b c k (E x y) S = k.nx (E (Nat.gcd x y) 0) S := by
  refine whileM_eq (y + 1) ?_
  induction y using Nat.strongRecOn generalizing x with
  | ind y ih =>
    intro n hn
    obtain ⟨m, rfl⟩ : ∃ m, n = m + 1 := ⟨n - 1, by omega⟩
    show (t c (E x y) >>= fun q => if q = true then b c (E x y) { nx := whileN t b c k m, ct := whileN t b c k m, bk := k.nx, rt := k.rt } else k.nx (E x y)) S = _
    rw [bind_run, ht]
    by_cases hy : y = 0
    · subst hy; simp
    · simp only [hy, ne_eq, not_false_eq_true, decide_true, if_true]
      rw [hb x y _ S hy]
      show whileN t b c k m (E y (x % y)) S = _
      have hlt : x % y < y := Nat.mod_lt _ (Nat.pos_of_ne_zero hy)
      rw [ih (x % y) hlt y m (by omega), Nat.gcd_comm x y, Nat.gcd_rec y x]
      exact congrArg (fun z => k.nx (E z 0) S) (Nat.gcd_comm _ _)
end Pin
namespace Pin
theorem wp_eq {α : Type} {r : Res α} {a : α} {S : Store} (h : WP r fun v S' => v = a ∧ S' = S) : r = .ok a S := by
  rw [wp_def] at h
  cases r with
  | ok v S' => obtain ⟨rfl, rfl⟩ := h; rfl
  | exc x S' => exact h.elim
  | stk => exact h.elim
theorem lcL_filter {α : Type} {gd : List (Nat × List D)} {g : GM} {t : TM} {e : EM} {c : Cl} {ρ : Env} {S : Store} (enc : α → D) (p : α → Bool) (f : α → D) (hgd : GdOk gd S) : ∀ xs : List α,
    (∀ x ∈ xs, WP (g (enc x) ρ S) fun ρ' S1 => S1 = S ∧ WP (t c ρ' S) fun k S2 => k = p x ∧ S2 = S ∧ (p x = true → WP (e c ρ' S) fun v S3 => v = f x ∧ S3 = S)) →
    lcL gd g t e c ρ (xs.map enc) S = .ok ((xs.filter p).map f) S
  | [], _ => by
    refine wp_eq ?_
    unfold lcL
    rw [List.map_nil]
    simp only
    rw [wp_bind, wp_chk hgd]
    exact ⟨rfl, rfl⟩
  | x :: xs, h => by
    refine wp_eq ?_
    rw [List.map_cons]
    unfold lcL
    rw [wp_bind, wp_chk hgd, wp_bind]
    refine (h x List.mem_cons_self).mono fun ρ' S1 ⟨e1, h1⟩ => ?_
    subst e1
    rw [wp_bind, wp_noX]
    refine h1.mono fun k S2 ⟨e2, e3, h2⟩ => ?_
    subst e2 e3
    have ih := lcL_filter (gd := gd) (g := g) (t := t) (e := e) (c := c) (ρ := ρ) enc p f hgd xs fun y hy => h y (List.mem_cons_of_mem _ hy)
    by_cases hk : p x = true
    · rw [if_pos hk, wp_bind, wp_noX]
      refine (h2 hk).mono fun v S3 ⟨e4, e5⟩ => ?_
      subst e4 e5
      rw [wp_bind, ih, wp_ok, wp_pure]
      refine ⟨?_, rfl⟩
      rw [List.filter_cons_of_pos hk]
      rfl
    · rw [if_neg hk, ih, wp_ok]
      refine ⟨?_, rfl⟩
      rw [List.filter_cons_of_neg hk]
theorem lcL_map {α : Type} {gd : List (Nat × List D)} {g : GM} {e : EM} {c : Cl} {ρ : Env} {S : Store} (enc : α → D) (f : α → D) (hgd : GdOk gd S) (xs : List α)
    (h : ∀ x ∈ xs, WP (g (enc x) ρ S) fun ρ' S1 => S1 = S ∧ WP (e c ρ' S) fun v S3 => v = f x ∧ S3 = S) :
    lcL gd g tYes e c ρ (xs.map enc) S = .ok (xs.map f) S := by
  have := lcL_filter (gd := gd) (g := g) (t := tYes) (e := e) (c := c) (ρ := ρ) (S := S) enc (fun _ => true) f hgd xs fun x hx => (h x hx).mono fun ρ' S1 ⟨e1, h1⟩ => ⟨e1, rfl, rfl, fun _ => h1⟩
  rw [this, List.filter_eq_self.mpr fun _ _ => rfl]
theorem pairs_map {α β : Type} (f : α → D) (g : β → D) : ∀ (xs : List α) (ys : List β), pairsD (xs.map f) (ys.map g) = (xs.zip ys).map fun p => .tup [f p.1, g p.2]
  | [], _ => by simp [pairsD]
  | _ :: _, [] => by simp [pairsD]
  | x :: xs, y :: ys => by
    have ih := pairs_map f g xs ys
    unfold pairsD at ih ⊢
    simp [ih]
end Pin
namespace Pin
@[simp] theorem nr_non : D.non.noRefs = true := rfl
@[simp] theorem nr_bl {b : Bool} : (D.bl b).noRefs = true := rfl
@[simp] theorem nr_int {i : Int} : (D.int i).noRefs = true := rfl
@[simp] theorem nr_str {x : PySem.Str} : (D.str x).noRefs = true := rfl
@[simp] theorem nr_tup {xs : List D} : (D.tup xs).noRefs = D.noRefsL xs := rfl
@[simp] theorem nr_ref {i : Nat} : (D.ref i).noRefs = false := rfl
@[simp] theorem nr_nil : D.noRefsL [] = true := rfl
@[simp] theorem nr_cons {d : D} {ds : List D} : D.noRefsL (d :: ds) = (d.noRefs && D.noRefsL ds) := rfl
theorem nr_map {α : Type} {f : α → D} (h : ∀ x, (f x).noRefs = true) : ∀ xs : List α, D.noRefsL (xs.map f) = true
  | [] => rfl
  | x :: xs => by rw [List.map_cons, nr_cons, h x, nr_map h xs]; rfl
end Pin
namespace Pin
@[simp] theorem allBl_nil : allBl [] = some [] := rfl
@[simp] theorem allBl_cons {b : Bool} {ds : List D} : allBl (.bl b :: ds) = (allBl ds).map (b :: ·) := rfl
@[simp] theorem opt_some {α β : Type} {a : α} {k : α → M β} : opt (some a) k = k a := rfl
end Pin
namespace Pin
theorem eq_nil {S : Store} {r q : Nat} {xs : List D} (h1 : S[r]? = some (.lst xs)) (h2 : S[q]? = some (.lst [])) : eqM (.ref r) (.ref q) S = .ok xs.isEmpty S := by
  have e : lenDiff S (.ref r) (.ref q) = (xs.length != 0) := by
    show (match S[r]?, S[q]? with
      | some (.lst xs), some (.lst ys) => xs.length != ys.length
      | _, _ => false) = _
    rw [h1, h2]; rfl
  unfold eqM
  rw [e]
  cases xs with
  | nil =>
    have t1 : toPy S 60 (.ref r) = some (.list []) := by unfold toPy; rw [h1]; rfl
    have t2 : toPy S 60 (.ref q) = some (.list []) := by unfold toPy; rw [h2]; rfl
    unfold eqB
    rw [t1, t2]
    rfl
  | cons x xs => rfl
@[simp] theorem get_end1 {S : Store} {o o' : Ob} : (S ++ [o] ++ [o'])[S.length]? = some o := by simp
@[simp] theorem get_end2 {S : Store} {o o' : Ob} : (S ++ [o] ++ [o'])[(S ++ [o]).length]? = some o' := by simp
end Pin

set_option Elab.async false
set_option linter.all false
set_option maxRecDepth 100000
set_option maxHeartbeats 0
namespace K06
open PySem PySem.Spec PyProof.Rows L2 Pin
def top (i : Nat) : Stmt := PySem.Challenge.pw_sightroads_k06_whole_fences_and_rooms_to.main.body.getD i (.Pass ⟨0, 0, 0, 0⟩)
abbrev f_law : Nat := 0
abbrev f__law_right : Nat := 1
abbrev f__law_jar : Nat := 2
abbrev f_is_room : Nat := 3
abbrev f__law_is_room : Nat := 4
abbrev f__law_bent : Nat := 5
abbrev f_is_fence : Nat := 6
abbrev f__law_is_fence : Nat := 7
abbrev f__law_fences_right : Nat := 8
abbrev f__law_room_about : Nat := 9
abbrev f__law_bars_right : Nat := 10
abbrev f__law_room_right : Nat := 11
abbrev f__law_one_of : Nat := 12
abbrev f__law_drawn_row : Nat := 13
abbrev f__law_size : Nat := 14
abbrev f_is_plain_room : Nat := 15
abbrev f_require_width : Nat := 16
abbrev f__law_dip : Nat := 17
abbrev f_is_plain_fence : Nat := 18
abbrev f__law_is_number : Nat := 19
abbrev f__law_is_row : Nat := 20
abbrev f__law_plus : Nat := 21
abbrev f_is_for_none : Nat := 22
abbrev f__law_truth_of : Nat := 23
abbrev f_is_for_all : Nat := 24
abbrev f_are_alike : Nat := 25
abbrev f__law_are_alike : Nat := 26
abbrev f_times_fence : Nat := 27
abbrev f__law_times : Nat := 28
abbrev f__law_scaled : Nat := 29
abbrev f__law_some_times : Nat := 30
abbrev f_keeps : Nat := 31
abbrev f_opposite_rooms : Nat := 32
abbrev f__law_opposite : Nat := 33
abbrev f__law_minus : Nat := 34
abbrev f__law_product : Nat := 35
abbrev f_is_bar : Nat := 36
abbrev f__law_is_bar : Nat := 37
abbrev f__law_drawn_number : Nat := 38
abbrev f__law_added : Nat := 39
abbrev f__law_barred_room : Nat := 40
abbrev f_summed : Nat := 41
abbrev f__law_summed : Nat := 42
abbrev f__law_weights : Nat := 43
abbrev f_first_broken : Nat := 44
abbrev f_does_hold : Nat := 45
abbrev f__law_keeps : Nat := 46
abbrev f_require_count : Nat := 47
abbrev f_is_number : Nat := 48
abbrev f_is_plain_row : Nat := 49
abbrev f__law_lowest : Nat := 50
abbrev f__law_is_whole : Nat := 51
abbrev f_is_for_none_by : Nat := 52
abbrev f_require_fenced : Nat := 53
abbrev f__law_is_less : Nat := 54
abbrev f_is_for_all_by : Nat := 55
abbrev f_scaled : Nat := 56
abbrev f_is_rest : Nat := 57
abbrev f_require_fence : Nat := 58
abbrev f_multiplied : Nat := 59
abbrev f_times_row : Nat := 60
abbrev f_require_number : Nat := 61
abbrev f_keeps_by : Nat := 62
abbrev f_require_row : Nat := 63
abbrev f_opposite_by : Nat := 64
abbrev f_is_bar_by : Nat := 65
abbrev f_require_roomed : Nat := 66
abbrev f_summed_by : Nat := 67
abbrev f_are_weights : Nat := 68
abbrev f_broken_by : Nat := 69
abbrev f_holds_by : Nat := 70
abbrev f_is_integer : Nat := 71
abbrev f_common_divisor : Nat := 72
abbrev f_first_index : Nat := 73
abbrev f_reduced : Nat := 74
abbrev f_added : Nat := 75
abbrev f_opposite_numbers : Nat := 76
abbrev f_product_of : Nat := 77
abbrev f_require_room : Nat := 78
abbrev f_sum_of_rows : Nat := 79
abbrev f_rest_row : Nat := 80
def gl : List (Str × GV) :=
  ("law", .fn f_law) :: ("_law_right", .fn f__law_right) :: ("_law_jar", .fn f__law_jar) :: ("len", .free) :: ("is_room", .fn f_is_room) :: ("range", .free) ::
  ("_law_is_room", .fn f__law_is_room) :: ("_law_bent", .fn f__law_bent) :: ("is_fence", .fn f_is_fence) :: ("_law_is_fence", .fn f__law_is_fence) :: ("_law_fences_right", .fn f__law_fences_right) :: ("_law_room_about", .fn f__law_room_about) ::
  ("_law_bars_right", .fn f__law_bars_right) :: ("_law_room_right", .fn f__law_room_right) :: ("_law_one_of", .fn f__law_one_of) :: ("_law_drawn_row", .fn f__law_drawn_row) :: ("_law_size", .fn f__law_size) :: ("int", .free) ::
  ("max", .free) :: ("abs", .free) :: ("is_plain_room", .fn f_is_plain_room) :: ("require_width", .fn f_require_width) :: ("isinstance", .free) :: ("tuple", .free) ::
  ("list", .free) :: ("_law_dip", .fn f__law_dip) :: ("is_plain_fence", .fn f_is_plain_fence) :: ("_law_is_number", .fn f__law_is_number) :: ("_law_is_row", .fn f__law_is_row) :: ("bool", .free) ::
  ("_law_plus", .fn f__law_plus) :: ("is_for_none", .fn f_is_for_none) :: ("_law_truth_of", .fn f__law_truth_of) :: ("is_for_all", .fn f_is_for_all) :: ("are_alike", .fn f_are_alike) :: ("_law_are_alike", .fn f__law_are_alike) ::
  ("times_fence", .fn f_times_fence) :: ("_law_times", .fn f__law_times) :: ("_law_scaled", .fn f__law_scaled) :: ("_law_some_times", .fn f__law_some_times) :: ("keeps", .fn f_keeps) :: ("opposite_rooms", .fn f_opposite_rooms) ::
  ("_law_opposite", .fn f__law_opposite) :: ("_law_minus", .fn f__law_minus) :: ("_law_product", .fn f__law_product) :: ("is_bar", .fn f_is_bar) :: ("_law_is_bar", .fn f__law_is_bar) :: ("_law_drawn_number", .fn f__law_drawn_number) ::
  ("_law_added", .fn f__law_added) :: ("_law_barred_room", .fn f__law_barred_room) :: ("summed", .fn f_summed) :: ("_law_summed", .fn f__law_summed) :: ("_law_weights", .fn f__law_weights) :: ("first_broken", .fn f_first_broken) ::
  ("does_hold", .fn f_does_hold) :: ("enumerate", .free) :: ("_law_keeps", .fn f__law_keeps) :: ("all", .free) :: ("MAX_FENCES", .con (.int 80)) :: ("require_count", .fn f_require_count) ::
  ("MAX_WIDTH", .con (.int 40)) :: ("is_number", .fn f_is_number) :: ("is_plain_row", .fn f_is_plain_row) :: ("_law_lowest", .fn f__law_lowest) :: ("_law_is_whole", .fn f__law_is_whole) :: ("is_for_none_by", .fn f_is_for_none_by) ::
  ("require_fenced", .fn f_require_fenced) :: ("_law_is_less", .fn f__law_is_less) :: ("is_for_all_by", .fn f_is_for_all_by) :: ("scaled", .fn f_scaled) :: ("is_rest", .fn f_is_rest) :: ("require_fence", .fn f_require_fence) ::
  ("multiplied", .fn f_multiplied) :: ("times_row", .fn f_times_row) :: ("require_number", .fn f_require_number) :: ("keeps_by", .fn f_keeps_by) :: ("require_row", .fn f_require_row) :: ("opposite_by", .fn f_opposite_by) ::
  ("zip", .free) :: ("is_bar_by", .fn f_is_bar_by) :: ("require_roomed", .fn f_require_roomed) :: ("summed_by", .fn f_summed_by) :: ("are_weights", .fn f_are_weights) :: ("broken_by", .fn f_broken_by) ::
  ("holds_by", .fn f_holds_by) :: ("is_integer", .fn f_is_integer) :: ("common_divisor", .fn f_common_divisor) :: ("NOUGHT", .con (.tup [.int 0, .int 1])) :: ("first_index", .fn f_first_index) :: ("reduced", .fn f_reduced) ::
  ("added", .fn f_added) :: ("opposite_numbers", .fn f_opposite_numbers) :: ("product_of", .fn f_product_of) :: ("any", .free) :: ("require_room", .fn f_require_room) :: ("sum_of_rows", .fn f_sum_of_rows) ::
  ("rest_row", .fn f_rest_row) :: []
noncomputable def sm_law : SM := sSeq (sAsg (eCon (.int 0)) (gName 1)) (sSeq (sFor (iSeq (eSl (eVar 0) oNone (oSome (eCon (.int 40))))) (gName 2) (sAsg (eBin .add (eBin .mul (eVar 1) (eCon (.int 31))) (eVar 2)) (gName 1))) (sSeq (sAsg (eCall f__law_jar (lCons (eIf (tCmp .gt (eBi .len (lCons (eVar 0) lNil)) (eCon (.int 0))) (eLst (lCons (eVar 1) lNil)) (eLst lNil)) (lCons (eCon (.int 0)) lNil))) (gName 3)) (sRet (eAnd (eCall f__law_right (lCons (eVar 3) lNil)) (eCall f__law_right (lCons (eVar 3) lNil))))))
noncomputable def dt_law : DT := ⟨⟨("law", none), "law", "law", defArgs (top 99), defBody (top 99), defScope (top 99), [], []⟩, ["script", "cell", "one", "jar"], ["script"], [], sm_law⟩
noncomputable def sm__law_right : SM := sSeq (sAsg (eCall f__law_size (lCons (eVar 0) lNil)) (gName 1)) (sSeq (sAsg (eCall f__law_drawn_row (lCons (eVar 0) (lCons (eVar 1) (lCons (eCon (.int 3)) lNil)))) (gName 2)) (sSeq (sAsg (eCall f__law_room_about (lCons (eVar 0) (lCons (eVar 1) (lCons (eCall f__law_one_of (lCons (eVar 0) (lCons (eLst (lCons (eCon (.int 0)) (lCons (eCon (.int 1)) (lCons (eCon (.int 3)) (lCons (eCon (.int 7)) (lCons (eCon (.int 20)) (lCons (eIf (tCmp .lt (eVar 1) (eCon (.int 9))) (eCon (.int 80)) (eCon (.int 12))) lNil))))))) lNil))) (lCons (eVar 2) lNil))))) (gName 3)) (sSeq (sIf (tOr (tNot (tVal (eCall f__law_room_right (lCons (eVar 0) (lCons (eVar 1) (lCons (eVar 3) (lCons (eVar 2) lNil))))))) (tNot (tVal (eCall f__law_bars_right (lCons (eVar 0) (lCons (eVar 1) lNil)))))) (sRet (eCon (.bl false))) sPass) (sSeq (sAsg (eIx (eCall f__law_room_about (lCons (eVar 0) (lCons (eVar 1) (lCons (eCon (.int 1)) (lCons (eVar 2) lNil))))) (eCon (.int 0))) (gName 4)) (sSeq (sIf (tNot (tVal (eCall f__law_fences_right (lCons (eVar 0) (lCons (eVar 1) (lCons (eVar 4) (lCons (eVar 2) lNil))))))) (sRet (eCon (.bl false))) sPass) (sSeq (sFor (iRng1 (eCon (.int 10))) (gName 5) (sSeq (sAsg (eCall f__law_bent (lCons (eVar 0) (lCons (eVar 4) lNil))) (gName 6)) (sSeq (sIf (tOr (tCmp .ne (eCall f_is_fence (lCons (eVar 1) (lCons (eVar 6) lNil))) (eCall f__law_is_fence (lCons (eVar 1) (lCons (eVar 6) lNil)))) (tAnd (tCmp .gt (eVar 1) (eCon (.int 0))) (tCmp .isnot (eCall f_is_fence (lCons (eBin .sub (eVar 1) (eCon (.int 1))) (lCons (eVar 4) lNil))) (eCon (.bl false))))) (sRet (eCon (.bl false))) sPass) (sSeq (sAsg (eCall f__law_bent (lCons (eVar 0) (lCons (eSl (eVar 3) oNone (oSome (eCon (.int 4)))) lNil))) (gName 6)) (sIf (tCmp .ne (eCall f_is_room (lCons (eVar 1) (lCons (eVar 6) lNil))) (eCall f__law_is_room (lCons (eVar 1) (lCons (eVar 6) (lCons (eCon (.int 80)) lNil))))) (sRet (eCon (.bl false))) sPass))))) (sRet (eAnd (eCmp .is (eCall f_is_room (lCons (eVar 1) (lCons (eBin .mul (eTup (lCons (eVar 4) lNil)) (eCon (.int 80))) lNil))) (eCon (.bl true))) (eCmp .is (eCall f_is_room (lCons (eVar 1) (lCons (eBin .mul (eTup (lCons (eVar 4) lNil)) (eCon (.int 81))) lNil))) (eCon (.bl false)))))))))))
noncomputable def dt__law_right : DT := ⟨⟨("_law_right", none), "_law_right", "_law_right", defArgs (top 98), defBody (top 98), defScope (top 98), [], []⟩, ["jar", "width", "point", "room", "fence", "turn", "near"], ["jar"], [], sm__law_right⟩
noncomputable def sm__law_jar : SM := sSeq (sAsg (eIf (tCmp .lt (eVar 1) (eBi .len (lCons (eVar 0) lNil))) (eBi .int (lCons (eIx (eVar 0) (eVar 1)) lNil)) (eBin .add (eBin .mul (eCon (.int 1193)) (eVar 1)) (eCon (.int 71)))) (gName 2)) (sSeq (sAsg (eBin .mod (eBi .int (lCons (eBi .abs (lCons (eVar 2) lNil)) lNil)) (eBin .pow (eBin .pow (eCon (.int 10)) (eCon (.int 47))) (eCon (.int 6)))) (gName 3)) (sRet (eLst (lCons (eBi .max (lCons (eCon (.int 0)) (lCons (eBin .sub (eVar 3) (eBin .pow (eCon (.int 10)) (eCon (.int 17)))) lNil))) (lCons (eBin .add (eBin .add (eBin .add (eBin .mul (eBin .mod (eBi .int (lCons (eVar 3) lNil)) (eCon (.int 18446744073709551557))) (eCon (.int 89))) (eBin .mul (eCon (.int 613)) (eVar 1))) (eBin .mul (eCon (.int 47)) (eBi .int (lCons (eCmp .lt (eVar 2) (eCon (.int 0))) lNil)))) (eCon (.int 23))) lNil)))))
noncomputable def dt__law_jar : DT := ⟨⟨("_law_jar", none), "_law_jar", "_law_jar", defArgs (top 65), defBody (top 65), defScope (top 65), [], []⟩, ["script", "spot", "cell", "great"], ["script", "spot"], [], sm__law_jar⟩
noncomputable def sm_is_room : SM := sSeq (sExpr (eCall f_require_width (lCons (eVar 0) lNil))) (sRet (eCall f_is_plain_room (lCons (eVar 0) (lCons (eVar 1) lNil))))
noncomputable def dt_is_room : DT := ⟨⟨("is_room", none), "is_room", "is_room", defArgs (top 51), defBody (top 51), defScope (top 51), [], []⟩, ["width", "value"], ["width", "value"], [], sm_is_room⟩
noncomputable def sm__law_is_room : SM := sRet (eAnd (eIsi (eVar 1) .tuple) (eAnd (eCmp .le (eBi .len (lCons (eVar 1) lNil)) (eVar 2)) (eCmp .eq (eLc (cLc (iSeq (eVar 1)) [3] (gName 3) (tNot (tVal (eCall f__law_is_fence (lCons (eVar 0) (lCons (eVar 3) lNil))))) (eVar 3))) (eLst lNil))))
noncomputable def dt__law_is_room : DT := ⟨⟨("_law_is_room", none), "_law_is_room", "_law_is_room", defArgs (top 88), defBody (top 88), defScope (top 88), [], []⟩, ["width", "value", "most", "one"], ["width", "value", "most"], [], sm__law_is_room⟩
noncomputable def sm__law_bent : SM := sSeq (sIf (tAnd (tVal (eIsi (eVar 1) .tuple)) (tAnd (tCmp .ne (eVar 1) (eTup lNil)) (tCmp .gt (eCall f__law_dip (lCons (eVar 0) (lCons (eCon (.int 5)) lNil))) (eCon (.int 0))))) (sSeq (sAsg (eCall f__law_dip (lCons (eVar 0) (lCons (eBi .len (lCons (eVar 1) lNil)) lNil))) (gName 2)) (sRet (eBin .add (eBin .add (eSl (eVar 1) oNone (oSome (eVar 2))) (eTup (lCons (eCall f__law_bent (lCons (eVar 0) (lCons (eIx (eVar 1) (eVar 2)) lNil))) lNil))) (eSl (eVar 1) (oSome (eBin .add (eVar 2) (eCon (.int 1)))) oNone)))) sPass) (sSeq (sAsg (eLst (lCons (eCon (.non)) (lCons (eCon (.bl true)) (lCons (eCon (.bl false)) (lCons (eCon (.int 0)) (lCons (eCon (.int 1)) (lCons (eNeg (eCon (.int 1))) (lCons (eCon (.int 2)) (lCons (eTup lNil) (lCons (eTup (lCons (eCon (.int 0)) (lCons (eCon (.int 1)) lNil))) (lCons (eTup (lCons (eCon (.int 2)) (lCons (eCon (.int 4)) lNil))) (lCons (eTup (lCons (eCon (.int 1)) (lCons (eCon (.int 0)) lNil))) (lCons (eTup (lCons (eCon (.int 1)) (lCons (eNeg (eCon (.int 2))) lNil))) (lCons (eTup (lCons (eCon (.bl true)) (lCons (eCon (.int 1)) lNil))) (lCons (eCon (.str "0")) (lCons (eLst lNil) (lCons eDct0 (lCons (eBin .pow (eCon (.int 10)) (eCon (.int 39))) (lCons (eCon (.str "bar")) (lCons (eCon (.str "point")) (lCons (eCon (.str "mix")) (lCons (eCon (.str "sum")) lNil)))))))))))))))))))))) (gName 3)) (sSeq (sIf (tVal (eIsi (eVar 1) .tuple)) (sAsg (eBin .add (eVar 3) (eLst (lCons (eBi .list (lCons (eVar 1) lNil)) (lCons (eBin .add (eVar 1) (eSl (eVar 1) oNone (oSome (eCon (.int 1))))) (lCons (eSl (eVar 1) (oSome (eCon (.int 1))) oNone) lNil))))) (gName 3)) sPass) (sRet (eCall f__law_one_of (lCons (eVar 0) (lCons (eVar 3) lNil))))))
noncomputable def dt__law_bent : DT := ⟨⟨("_law_bent", none), "_law_bent", "_law_bent", defArgs (top 82), defBody (top 82), defScope (top 82), [], []⟩, ["jar", "value", "at", "odd"], ["jar", "value"], [], sm__law_bent⟩
noncomputable def sm_is_fence : SM := sSeq (sExpr (eCall f_require_width (lCons (eVar 0) lNil))) (sRet (eCall f_is_plain_fence (lCons (eVar 0) (lCons (eVar 1) lNil))))
noncomputable def dt_is_fence : DT := ⟨⟨("is_fence", none), "is_fence", "is_fence", defArgs (top 50), defBody (top 50), defScope (top 50), [], []⟩, ["width", "value"], ["width", "value"], [], sm_is_fence⟩
noncomputable def sm__law_is_fence : SM := sSeq (sIf (tOr (tNot (tVal (eIsi (eVar 1) .tuple))) (tOr (tCmp .ne (eBi .len (lCons (eVar 1) lNil)) (eCon (.int 3))) (tNot (tVal (eIsi (eIx (eVar 1) (eCon (.int 2))) .bool))))) (sRet (eCon (.bl false))) sPass) (sRet (eAnd (eCall f__law_is_row (lCons (eVar 0) (lCons (eIx (eVar 1) (eCon (.int 0))) lNil))) (eCall f__law_is_number (lCons (eIx (eVar 1) (eCon (.int 1))) lNil))))
noncomputable def dt__law_is_fence : DT := ⟨⟨("_law_is_fence", none), "_law_is_fence", "_law_is_fence", defArgs (top 87), defBody (top 87), defScope (top 87), [], []⟩, ["width", "value"], ["width", "value"], [], sm__law_is_fence⟩
noncomputable def sm__law_fences_right : SM := sSeq (sAsg (eCall f__law_opposite (lCons (eVar 2) lNil)) (gName 4)) (sSeq (sIf (tOr (tCmp .ne (eCall f_opposite_rooms (lCons (eVar 1) (lCons (eVar 2) lNil))) (eVar 4)) (tOr (tCmp .ne (eCall f_opposite_rooms (lCons (eVar 1) (lCons (eVar 4) lNil))) (eVar 2)) (tCmp .eq (eCall f_keeps (lCons (eVar 1) (lCons (eVar 2) (lCons (eVar 3) lNil)))) (eCall f_keeps (lCons (eVar 1) (lCons (eVar 4) (lCons (eVar 3) lNil))))))) (sRet (eCon (.bl false))) sPass) (sSeq (sAsg (eCall f__law_some_times (lCons (eVar 0) lNil)) (gName 5)) (sSeq (sAsg (eTup (lCons (eCall f__law_scaled (lCons (eVar 5) (lCons (eIx (eVar 2) (eCon (.int 0))) lNil))) (lCons (eCall f__law_times (lCons (eVar 5) (lCons (eIx (eVar 2) (eCon (.int 1))) lNil))) (lCons (eIx (eVar 2) (eCon (.int 2))) lNil)))) (gName 6)) (sSeq (sIf (tCmp .ne (eCall f_times_fence (lCons (eVar 1) (lCons (eVar 5) (lCons (eVar 2) lNil)))) (eVar 6)) (sRet (eCon (.bl false))) sPass) (sSeq (sAsg (eTup (lCons (eBin .mul (eTup (lCons (eTup (lCons (eCon (.int 0)) (lCons (eCon (.int 1)) lNil))) lNil)) (eVar 1)) (lCons (eCall f__law_one_of (lCons (eVar 0) (lCons (eLst (lCons (eTup (lCons (eCon (.int 0)) (lCons (eCon (.int 1)) lNil))) (lCons (eTup (lCons (eCon (.int 1)) (lCons (eCon (.int 2)) lNil))) (lCons (eTup (lCons (eNeg (eCon (.int 1))) (lCons (eCon (.int 3)) lNil))) lNil)))) lNil))) (lCons (eCmp .eq (eCall f__law_dip (lCons (eVar 0) (lCons (eCon (.int 2)) lNil))) (eCon (.int 0))) lNil)))) (gName 7)) (sSeq (sFor (iSeq (eTup (lCons (eVar 6) (lCons (eVar 4) (lCons (eVar 2) (lCons (eVar 7) (lCons (eBin .add (eSl (eVar 2) oNone (oSome (eCon (.int 2)))) (eTup (lCons (eNot (eIx (eVar 2) (eCon (.int 2)))) lNil))) (lCons (eTup (lCons (eIx (eVar 2) (eCon (.int 0))) (lCons (eCall f__law_plus (lCons (eIx (eVar 2) (eCon (.int 1))) (lCons (eTup (lCons (eCon (.int 1)) (lCons (eCon (.int 7)) lNil))) lNil))) (lCons (eIx (eVar 2) (eCon (.int 2))) lNil)))) lNil)))))))) (gName 8) (sSeq (sIf (tOr (tCmp .ne (eCall f_are_alike (lCons (eVar 1) (lCons (eVar 2) (lCons (eVar 8) lNil)))) (eCall f__law_are_alike (lCons (eVar 2) (lCons (eVar 8) lNil)))) (tCmp .ne (eCall f_are_alike (lCons (eVar 1) (lCons (eVar 7) (lCons (eVar 8) lNil)))) (eCall f__law_are_alike (lCons (eVar 7) (lCons (eVar 8) lNil))))) (sRet (eCon (.bl false))) sPass) (sSeq (sAsg (eCmp .eq (eLc (cLc (iSeq (eIx (eVar 8) (eCon (.int 0)))) [10] (gName 10) (tCmp .ne (eIx (eVar 10) (eCon (.int 0))) (eCon (.int 0))) (eVar 10))) (eLst lNil)) (gName 9)) (sSeq (sIf (tCmp .ne (eCall f_is_for_all (lCons (eVar 1) (lCons (eVar 8) lNil))) (eAnd (eVar 9) (eCall f__law_truth_of (lCons (eVar 8) lNil)))) (sRet (eCon (.bl false))) sPass) (sIf (tCmp .ne (eCall f_is_for_none (lCons (eVar 1) (lCons (eVar 8) lNil))) (eAnd (eVar 9) (eNot (eCall f__law_truth_of (lCons (eVar 8) lNil))))) (sRet (eCon (.bl false))) sPass))))) (sRet (eCon (.bl true)))))))))
noncomputable def dt__law_fences_right : DT := ⟨⟨("_law_fences_right", none), "_law_fences_right", "_law_fences_right", defArgs (top 97), defBody (top 97), defScope (top 97), [], []⟩, ["jar", "width", "fence", "point", "far", "by", "more", "rest", "other", "is_rest_v", "one"], ["jar", "width", "fence", "point"], [], sm__law_fences_right⟩
noncomputable def sm__law_room_about : SM := sSeq (sAsg (eLst lNil) (gName 4)) (sSeq (sFor (iRng1 (eVar 2)) (gName 5) (sSeq (sAsg (eCall f__law_drawn_row (lCons (eVar 0) (lCons (eVar 1) (lCons (eCall f__law_one_of (lCons (eVar 0) (lCons (eLst (lCons (eCon (.int 2)) (lCons (eCon (.int 5)) (lCons (eCon (.int 8)) lNil)))) lNil))) lNil)))) (gName 6)) (sSeq (sAsg (eCall f__law_one_of (lCons (eVar 0) (lCons (eLst (lCons (eTup (lCons (eCon (.int 0)) (lCons (eCon (.int 1)) lNil))) (lCons (eCall f__law_some_times (lCons (eVar 0) lNil)) lNil))) lNil))) (gName 7)) (sSeq (sAsg (eCall f__law_minus (lCons (eCall f__law_product (lCons (eVar 6) (lCons (eVar 3) lNil))) (lCons (eVar 7) lNil))) (gName 8)) (sExpr (eMe .append (eVar 4) (lCons (eTup (lCons (eVar 6) (lCons (eVar 8) (lCons (eAnd (eCmp .ne (eVar 7) (eTup (lCons (eCon (.int 0)) (lCons (eCon (.int 1)) lNil)))) (eCmp .eq (eCall f__law_dip (lCons (eVar 0) (lCons (eCon (.int 2)) lNil))) (eCon (.int 0)))) lNil)))) lNil))))))) (sRet (eBi .tuple (lCons (eVar 4) lNil))))
noncomputable def dt__law_room_about : DT := ⟨⟨("_law_room_about", none), "_law_room_about", "_law_room_about", defArgs (top 90), defBody (top 90), defScope (top 90), [], []⟩, ["jar", "width", "many", "point", "found", "turn", "row", "slack", "number"], ["jar", "width", "many", "point"], [], sm__law_room_about⟩
noncomputable def sm__law_bars_right : SM := sSeq (sAsg (eCall f__law_barred_room (lCons (eVar 0) (lCons (eVar 1) (lCons (eCall f__law_one_of (lCons (eVar 0) (lCons (eLst (lCons (eCon (.int 2)) (lCons (eCon (.int 3)) (lCons (eCon (.int 5)) (lCons (eCon (.int 9)) lNil))))) lNil))) lNil)))) (gTup 2 (gCons (gName 2) (gCons (gName 3) gNil)))) (sSeq (sAsg (eCall f__law_scaled (lCons (eCall f__law_some_times (lCons (eVar 0) lNil)) (lCons (eVar 3) lNil))) (gName 4)) (sSeq (sFor (iSeq (eTup (lCons (eVar 3) (lCons (eVar 4) (lCons (eCall f__law_added (lCons (eVar 3) (lCons (eVar 4) lNil))) lNil))))) (gName 5) (sIf (tCmp .isnot (eCall f_is_bar (lCons (eVar 1) (lCons (eVar 2) (lCons (eVar 5) lNil)))) (eCon (.bl true))) (sRet (eCon (.bl false))) sPass)) (sSeq (sAsg (eCall f__law_room_about (lCons (eVar 0) (lCons (eVar 1) (lCons (eBin .add (eCon (.int 1)) (eCall f__law_dip (lCons (eVar 0) (lCons (eCon (.int 3)) lNil)))) (lCons (eCall f__law_drawn_row (lCons (eVar 0) (lCons (eVar 1) (lCons (eCon (.int 5)) lNil)))) lNil))))) (gName 6)) (sSeq (sIf (tCmp .isnot (eCall f_is_bar (lCons (eVar 1) (lCons (eBin .add (eVar 2) (eVar 6)) (lCons (eBin .add (eVar 3) (eBin .mul (eTup (lCons (eTup (lCons (eCon (.int 0)) (lCons (eCon (.int 1)) lNil))) lNil)) (eBi .len (lCons (eVar 6) lNil)))) lNil)))) (eCon (.bl true))) (sRet (eCon (.bl false))) sPass) (sSeq (sFor (iRng1 (eCon (.int 8))) (gName 7) (sSeq (sAsg (eCall f__law_dip (lCons (eVar 0) (lCons (eBi .len (lCons (eVar 3) lNil)) lNil))) (gName 8)) (sSeq (sAsg (eCall f__law_one_of (lCons (eVar 0) (lCons (eLst (lCons (eBin .add (eBin .add (eSl (eVar 3) oNone (oSome (eVar 8))) (eTup (lCons (eCall f__law_drawn_number (lCons (eVar 0) lNil)) lNil))) (eSl (eVar 3) (oSome (eBin .add (eVar 8) (eCon (.int 1)))) oNone)) (lCons (eSl (eVar 3) oNone (oSome (eNeg (eCon (.int 1))))) (lCons (eBin .add (eVar 3) (eTup (lCons (eTup (lCons (eCon (.int 0)) (lCons (eCon (.int 1)) lNil))) lNil))) (lCons (eRev (eVar 3)) (lCons (eCall f__law_scaled (lCons (eTup (lCons (eNeg (eCon (.int 1))) (lCons (eCon (.int 1)) lNil))) (lCons (eVar 3) lNil))) (lCons (eBin .mul (eTup (lCons (eTup (lCons (eCon (.int 0)) (lCons (eCon (.int 1)) lNil))) lNil)) (eBi .len (lCons (eVar 3) lNil))) (lCons (eBi .list (lCons (eVar 3) lNil)) (lCons (eCall f__law_bent (lCons (eVar 0) (lCons (eVar 3) lNil))) (lCons (eCon (.non)) lNil)))))))))) lNil))) (gName 9)) (sIf (tCmp .ne (eCall f_is_bar (lCons (eVar 1) (lCons (eVar 2) (lCons (eVar 9) lNil)))) (eCall f__law_is_bar (lCons (eVar 1) (lCons (eVar 2) (lCons (eVar 9) lNil))))) (sRet (eCon (.bl false))) sPass)))) (sRet (eCon (.bl true))))))))
noncomputable def dt__law_bars_right : DT := ⟨⟨("_law_bars_right", none), "_law_bars_right", "_law_bars_right", defArgs (top 94), defBody (top 94), defScope (top 94), [], []⟩, ["jar", "width", "room", "bar", "other", "good", "more", "turn", "at", "near"], ["jar", "width"], [], sm__law_bars_right⟩
noncomputable def sm__law_room_right : SM := sSeq (sIf (tOr (tCmp .isnot (eCall f_is_room (lCons (eVar 1) (lCons (eVar 2) lNil))) (eCon (.bl true))) (tOr (tCmp .isnot (eCall f_does_hold (lCons (eVar 1) (lCons (eVar 2) (lCons (eVar 3) lNil)))) (eCon (.bl true))) (tCmp .isnot (eCall f_first_broken (lCons (eVar 1) (lCons (eVar 2) (lCons (eVar 3) lNil)))) (eCon (.non))))) (sRet (eCon (.bl false))) sPass) (sSeq (sFor (iRng1 (eCon (.int 4))) (gName 4) (sSeq (sAsg (eCall f__law_dip (lCons (eVar 0) (lCons (eBi .max (lCons (eCon (.int 1)) (lCons (eVar 1) lNil))) lNil))) (gName 5)) (sSeq (sAsg (eIf (tCmp .gt (eVar 1) (eCon (.int 0))) (eBin .add (eBin .add (eSl (eVar 3) oNone (oSome (eVar 5))) (eTup (lCons (eCall f__law_drawn_number (lCons (eVar 0) lNil)) lNil))) (eSl (eVar 3) (oSome (eBin .add (eVar 5) (eCon (.int 1)))) oNone)) (eVar 3)) (gName 6)) (sSeq (sAsg (eLc (cLc (iEnum (eVar 2)) [9, 10] (gTup 2 (gCons (gName 9) (gCons (gName 10) gNil))) (tNot (tVal (eCall f__law_keeps (lCons (eVar 10) (lCons (eVar 6) lNil))))) (eVar 9))) (gName 7)) (sIf (tOr (tCmp .ne (eCall f_does_hold (lCons (eVar 1) (lCons (eVar 2) (lCons (eVar 6) lNil)))) (eCmp .eq (eVar 7) (eLst lNil))) (tCmp .ne (eCall f_first_broken (lCons (eVar 1) (lCons (eVar 2) (lCons (eVar 6) lNil)))) (eIf (tCmp .ne (eVar 7) (eLst lNil)) (eIx (eVar 7) (eCon (.int 0))) (eCon (.non))))) (sRet (eCon (.bl false))) sPass))))) (sSeq (sAsg (eCall f__law_weights (lCons (eVar 0) (lCons (eBi .len (lCons (eVar 2) lNil)) lNil))) (gName 8)) (sSeq (sIf (tCmp .ne (eCall f_summed (lCons (eVar 1) (lCons (eVar 2) (lCons (eVar 8) lNil)))) (eCall f__law_summed (lCons (eVar 1) (lCons (eVar 2) (lCons (eVar 8) lNil))))) (sRet (eCon (.bl false))) sPass) (sRet (eAnd (eCmp .is (eCall f_is_bar (lCons (eVar 1) (lCons (eVar 2) (lCons (eVar 8) lNil)))) (eCon (.bl false))) (eCmp .is (eCall f_is_bar (lCons (eVar 1) (lCons (eVar 2) (lCons (eBin .mul (eTup (lCons (eTup (lCons (eCon (.int 0)) (lCons (eCon (.int 1)) lNil))) lNil)) (eBi .len (lCons (eVar 2) lNil))) lNil)))) (eCon (.bl false))))))))
noncomputable def dt__law_room_right : DT := ⟨⟨("_law_room_right", none), "_law_room_right", "_law_room_right", defArgs (top 93), defBody (top 93), defScope (top 93), [], []⟩, ["jar", "width", "room", "point", "turn", "at", "bent", "broken", "weights", "number", "fence"], ["jar", "width", "room", "point"], [], sm__law_room_right⟩
noncomputable def sm__law_one_of : SM := sRet (eIx (eVar 1) (eCall f__law_dip (lCons (eVar 0) (lCons (eBi .len (lCons (eVar 1) lNil)) lNil))))
noncomputable def dt__law_one_of : DT := ⟨⟨("_law_one_of", none), "_law_one_of", "_law_one_of", defArgs (top 67), defBody (top 67), defScope (top 67), [], []⟩, ["jar", "items"], ["jar", "items"], [], sm__law_one_of⟩
noncomputable def sm__law_drawn_row : SM := sRet (eBi .tuple (lCons (eLc (cLc (iRng1 (eVar 1)) [3] (gName 3) tYes (eIf (tCmp .lt (eCall f__law_dip (lCons (eVar 0) (lCons (eCon (.int 10)) lNil))) (eVar 2)) (eTup (lCons (eCon (.int 0)) (lCons (eCon (.int 1)) lNil))) (eCall f__law_drawn_number (lCons (eVar 0) lNil))))) lNil))
noncomputable def dt__law_drawn_row : DT := ⟨⟨("_law_drawn_row", none), "_law_drawn_row", "_law_drawn_row", defArgs (top 80), defBody (top 80), defScope (top 80), [], []⟩, ["jar", "width", "often", "at"], ["jar", "width", "often"], [], sm__law_drawn_row⟩
noncomputable def sm__law_size : SM := sRet (eCall f__law_one_of (lCons (eVar 0) (lCons (eLst (lCons (eCon (.int 0)) (lCons (eCon (.int 1)) (lCons (eCon (.int 1)) (lCons (eCon (.int 2)) (lCons (eCon (.int 3)) (lCons (eCon (.int 4)) (lCons (eCon (.int 5)) (lCons (eCon (.int 7)) (lCons (eCon (.int 11)) (lCons (eCon (.int 23)) (lCons (eCon (.int 40)) lNil)))))))))))) lNil)))
noncomputable def dt__law_size : DT := ⟨⟨("_law_size", none), "_law_size", "_law_size", defArgs (top 92), defBody (top 92), defScope (top 92), [], []⟩, ["jar"], ["jar"], [], sm__law_size⟩
noncomputable def sm_is_plain_room : SM := sSeq (sIf (tOr (tNot (tVal (eIsi (eVar 1) .tuple))) (tCmp .gt (eBi .len (lCons (eVar 1) lNil)) (eCon (.int 80)))) (sRet (eCon (.bl false))) sPass) (sRet (eBi .all (lCons (eLc (cLc (iSeq (eVar 1)) [2] (gName 2) tYes (eCall f_is_plain_fence (lCons (eVar 0) (lCons (eVar 2) lNil))))) lNil)))
noncomputable def dt_is_plain_room : DT := ⟨⟨("is_plain_room", none), "is_plain_room", "is_plain_room", defArgs (top 35), defBody (top 35), defScope (top 35), [], []⟩, ["width", "value", "fence"], ["width", "value"], [], sm_is_plain_room⟩
noncomputable def sm_require_width : SM := sExpr (eCall f_require_count (lCons (eVar 0) (lCons (eCon (.int 0)) (lCons (eCon (.int 40)) lNil))))
noncomputable def dt_require_width : DT := ⟨⟨("require_width", none), "require_width", "require_width", defArgs (top 33), defBody (top 33), defScope (top 33), [], []⟩, ["width"], ["width"], [], sm_require_width⟩
noncomputable def sm__law_dip : SM := sSeq (sIf (tCmp .gt (eIx (eVar 0) (eCon (.int 0))) (eCon (.int 0))) (sSeq (sAsg (eBin .mod (eBi .int (lCons (eIx (eVar 0) (eCon (.int 0))) lNil)) (eVar 1)) (gName 2)) (sSeq (sPut (eBin .fdiv (eIx (eVar 0) (eCon (.int 0))) (eVar 1)) (eVar 0) (eCon (.int 0))) (sRet (eVar 2)))) sPass) (sSeq (sPut (eBin .mod (eBi .int (lCons (eBin .add (eBin .mul (eIx (eVar 0) (eCon (.int 1))) (eCon (.int 6364136223846793005))) (eCon (.int 1442695040888963407))) lNil)) (eCon (.int 18446744073709551616))) (eVar 0) (eCon (.int 1))) (sRet (eBin .mod (eBi .int (lCons (eBin .fdiv (eIx (eVar 0) (eCon (.int 1))) (eCon (.int 4294967296))) lNil)) (eVar 1))))
noncomputable def dt__law_dip : DT := ⟨⟨("_law_dip", none), "_law_dip", "_law_dip", defArgs (top 66), defBody (top 66), defScope (top 66), [], []⟩, ["jar", "below", "found"], ["jar", "below"], [], sm__law_dip⟩
noncomputable def sm_is_plain_fence : SM := sSeq (sIf (tOr (tNot (tVal (eIsi (eVar 1) .tuple))) (tOr (tCmp .ne (eBi .len (lCons (eVar 1) lNil)) (eCon (.int 3))) (tNot (tVal (eIsi (eIx (eVar 1) (eCon (.int 2))) .bool))))) (sRet (eCon (.bl false))) sPass) (sRet (eAnd (eCall f_is_plain_row (lCons (eVar 0) (lCons (eIx (eVar 1) (eCon (.int 0))) lNil))) (eCall f_is_number (lCons (eIx (eVar 1) (eCon (.int 1))) lNil))))
noncomputable def dt_is_plain_fence : DT := ⟨⟨("is_plain_fence", none), "is_plain_fence", "is_plain_fence", defArgs (top 34), defBody (top 34), defScope (top 34), [], []⟩, ["width", "value"], ["width", "value"], [], sm_is_plain_fence⟩
noncomputable def sm__law_is_number : SM := sSeq (sIf (tOr (tNot (tVal (eIsi (eVar 0) .tuple))) (tOr (tCmp .ne (eBi .len (lCons (eVar 0) lNil)) (eCon (.int 2))) (tOr (tNot (tVal (eCall f__law_is_whole (lCons (eIx (eVar 0) (eCon (.int 0))) lNil)))) (tNot (tVal (eCall f__law_is_whole (lCons (eIx (eVar 0) (eCon (.int 1))) lNil))))))) (sRet (eCon (.bl false))) sPass) (sRet (eAnd (eCmp .gt (eIx (eVar 0) (eCon (.int 1))) (eCon (.int 0))) (eCmp .eq (eCall f__law_lowest (lCons (eIx (eVar 0) (eCon (.int 0))) (lCons (eIx (eVar 0) (eCon (.int 1))) lNil))) (eVar 0))))
noncomputable def dt__law_is_number : DT := ⟨⟨("_law_is_number", none), "_law_is_number", "_law_is_number", defArgs (top 77), defBody (top 77), defScope (top 77), [], []⟩, ["value"], ["value"], [], sm__law_is_number⟩
noncomputable def sm__law_is_row : SM := sRet (eAnd (eIsi (eVar 1) .tuple) (eAnd (eCmp .eq (eBi .len (lCons (eVar 1) lNil)) (eVar 0)) (eCmp .eq (eLc (cLc (iSeq (eVar 1)) [2] (gName 2) (tNot (tVal (eCall f__law_is_number (lCons (eVar 2) lNil)))) (eVar 2))) (eLst lNil))))
noncomputable def dt__law_is_row : DT := ⟨⟨("_law_is_row", none), "_law_is_row", "_law_is_row", defArgs (top 78), defBody (top 78), defScope (top 78), [], []⟩, ["width", "value", "one"], ["width", "value"], [], sm__law_is_row⟩
noncomputable def sm__law_plus : SM := sRet (eCall f__law_lowest (lCons (eBin .add (eBin .mul (eIx (eVar 0) (eCon (.int 0))) (eIx (eVar 1) (eCon (.int 1)))) (eBin .mul (eIx (eVar 1) (eCon (.int 0))) (eIx (eVar 0) (eCon (.int 1))))) (lCons (eBin .mul (eIx (eVar 0) (eCon (.int 1))) (eIx (eVar 1) (eCon (.int 1)))) lNil)))
noncomputable def dt__law_plus : DT := ⟨⟨("_law_plus", none), "_law_plus", "_law_plus", defArgs (top 70), defBody (top 70), defScope (top 70), [], []⟩, ["one", "other"], ["one", "other"], [], sm__law_plus⟩
noncomputable def sm_is_for_none : SM := sSeq (sExpr (eCall f_require_fenced (lCons (eVar 0) (lCons (eVar 1) lNil)))) (sRet (eCall f_is_for_none_by (lCons (eVar 1) lNil)))
noncomputable def dt_is_for_none : DT := ⟨⟨("is_for_none", none), "is_for_none", "is_for_none", defArgs (top 60), defBody (top 60), defScope (top 60), [], []⟩, ["width", "fence"], ["width", "fence"], [], sm_is_for_none⟩
noncomputable def sm__law_truth_of : SM := sRet (eOr (eCall f__law_is_less (lCons (eIx (eVar 0) (eCon (.int 1))) (lCons (eTup (lCons (eCon (.int 0)) (lCons (eCon (.int 1)) lNil))) lNil))) (eAnd (eNot (eIx (eVar 0) (eCon (.int 2)))) (eCmp .eq (eIx (eVar 0) (eCon (.int 1))) (eTup (lCons (eCon (.int 0)) (lCons (eCon (.int 1)) lNil))))))
noncomputable def dt__law_truth_of : DT := ⟨⟨("_law_truth_of", none), "_law_truth_of", "_law_truth_of", defArgs (top 95), defBody (top 95), defScope (top 95), [], []⟩, ["fence"], ["fence"], [], sm__law_truth_of⟩
noncomputable def sm_is_for_all : SM := sSeq (sExpr (eCall f_require_fenced (lCons (eVar 0) (lCons (eVar 1) lNil)))) (sRet (eCall f_is_for_all_by (lCons (eVar 1) lNil)))
noncomputable def dt_is_for_all : DT := ⟨⟨("is_for_all", none), "is_for_all", "is_for_all", defArgs (top 59), defBody (top 59), defScope (top 59), [], []⟩, ["width", "fence"], ["width", "fence"], [], sm_is_for_all⟩
noncomputable def sm_are_alike : SM := sSeq (sExpr (eCall f_require_fenced (lCons (eVar 0) (lCons (eVar 1) lNil)))) (sSeq (sExpr (eCall f_require_fence (lCons (eVar 0) (lCons (eVar 2) lNil)))) (sSeq (sIf (tOr (tVal (eCall f_is_rest (lCons (eIx (eVar 1) (eCon (.int 0))) lNil))) (tVal (eCall f_is_rest (lCons (eIx (eVar 2) (eCon (.int 0))) lNil)))) (sRet (eAnd (eCall f_is_rest (lCons (eIx (eVar 1) (eCon (.int 0))) lNil)) (eAnd (eCall f_is_rest (lCons (eIx (eVar 2) (eCon (.int 0))) lNil)) (eCmp .eq (eCall f_is_for_all_by (lCons (eVar 1) lNil)) (eCall f_is_for_all_by (lCons (eVar 2) lNil)))))) sPass) (sRet (eCmp .eq (eCall f_scaled (lCons (eVar 1) lNil)) (eCall f_scaled (lCons (eVar 2) lNil))))))
noncomputable def dt_are_alike : DT := ⟨⟨("are_alike", none), "are_alike", "are_alike", defArgs (top 62), defBody (top 62), defScope (top 62), [], []⟩, ["width", "fence", "other"], ["width", "fence", "other"], [], sm_are_alike⟩
noncomputable def sm__law_are_alike : SM := sSeq (sAsg (eLc (cLc (iSeq (eTup (lCons (eVar 0) (lCons (eVar 1) lNil)))) [5] (gName 5) tYes (eCmp .eq (eLc (cLc (iSeq (eIx (eVar 5) (eCon (.int 0)))) [7] (gName 7) (tCmp .ne (eIx (eVar 7) (eCon (.int 0))) (eCon (.int 0))) (eVar 7))) (eLst lNil)))) (gName 2)) (sSeq (sIf (tOr (tVal (eIx (eVar 2) (eCon (.int 0)))) (tVal (eIx (eVar 2) (eCon (.int 1))))) (sRet (eAnd (eIx (eVar 2) (eCon (.int 0))) (eAnd (eIx (eVar 2) (eCon (.int 1))) (eCmp .eq (eCall f__law_truth_of (lCons (eVar 0) lNil)) (eCall f__law_truth_of (lCons (eVar 1) lNil)))))) sPass) (sSeq (sAsg (eIx (eLc (cLc (iEnum (eIx (eVar 0) (eCon (.int 0)))) [6, 7] (gTup 2 (gCons (gName 6) (gCons (gName 7) gNil))) (tCmp .ne (eIx (eVar 7) (eCon (.int 0))) (eCon (.int 0))) (eVar 6))) (eCon (.int 0))) (gName 3)) (sSeq (sAsg (eCall f__law_lowest (lCons (eBin .mul (eIx (eIx (eIx (eVar 1) (eCon (.int 0))) (eVar 3)) (eCon (.int 0))) (eIx (eIx (eIx (eVar 0) (eCon (.int 0))) (eVar 3)) (eCon (.int 1)))) (lCons (eBin .mul (eIx (eIx (eIx (eVar 1) (eCon (.int 0))) (eVar 3)) (eCon (.int 1))) (eIx (eIx (eIx (eVar 0) (eCon (.int 0))) (eVar 3)) (eCon (.int 0)))) lNil))) (gName 4)) (sSeq (sIf (tOr (tCmp .le (eIx (eVar 4) (eCon (.int 0))) (eCon (.int 0))) (tCmp .ne (eCall f__law_scaled (lCons (eVar 4) (lCons (eIx (eVar 0) (eCon (.int 0))) lNil))) (eIx (eVar 1) (eCon (.int 0))))) (sRet (eCon (.bl false))) sPass) (sRet (eAnd (eCmp .eq (eCall f__law_times (lCons (eVar 4) (lCons (eIx (eVar 0) (eCon (.int 1))) lNil))) (eIx (eVar 1) (eCon (.int 1)))) (eCmp .eq (eIx (eVar 0) (eCon (.int 2))) (eIx (eVar 1) (eCon (.int 2))))))))))
noncomputable def dt__law_are_alike : DT := ⟨⟨("_law_are_alike", none), "_law_are_alike", "_law_are_alike", defArgs (top 96), defBody (top 96), defScope (top 96), [], []⟩, ["fence", "other", "rests", "at", "by", "some", "number", "one"], ["fence", "other"], [], sm__law_are_alike⟩
noncomputable def sm_times_fence : SM := sSeq (sExpr (eCall f_require_width (lCons (eVar 0) lNil))) (sSeq (sExpr (eCall f_require_number (lCons (eVar 1) lNil))) (sSeq (sExpr (eCall f_require_fence (lCons (eVar 0) (lCons (eVar 2) lNil)))) (sSeq (sIf (tCmp .le (eIx (eVar 1) (eCon (.int 0))) (eCon (.int 0))) sNever sPass) (sRet (eTup (lCons (eCall f_times_row (lCons (eVar 1) (lCons (eIx (eVar 2) (eCon (.int 0))) lNil))) (lCons (eCall f_multiplied (lCons (eVar 1) (lCons (eIx (eVar 2) (eCon (.int 1))) lNil))) (lCons (eIx (eVar 2) (eCon (.int 2))) lNil))))))))
noncomputable def dt_times_fence : DT := ⟨⟨("times_fence", none), "times_fence", "times_fence", defArgs (top 63), defBody (top 63), defScope (top 63), [], []⟩, ["width", "number", "fence"], ["width", "number", "fence"], [], sm_times_fence⟩
noncomputable def sm__law_times : SM := sRet (eCall f__law_lowest (lCons (eBin .mul (eIx (eVar 0) (eCon (.int 0))) (eIx (eVar 1) (eCon (.int 0)))) (lCons (eBin .mul (eIx (eVar 0) (eCon (.int 1))) (eIx (eVar 1) (eCon (.int 1)))) lNil)))
noncomputable def dt__law_times : DT := ⟨⟨("_law_times", none), "_law_times", "_law_times", defArgs (top 71), defBody (top 71), defScope (top 71), [], []⟩, ["one", "other"], ["one", "other"], [], sm__law_times⟩
noncomputable def sm__law_scaled : SM := sRet (eBi .tuple (lCons (eLc (cLc (iSeq (eVar 1)) [2] (gName 2) tYes (eCall f__law_times (lCons (eVar 0) (lCons (eVar 2) lNil))))) lNil))
noncomputable def dt__law_scaled : DT := ⟨⟨("_law_scaled", none), "_law_scaled", "_law_scaled", defArgs (top 75), defBody (top 75), defScope (top 75), [], []⟩, ["number", "row", "one"], ["number", "row"], [], sm__law_scaled⟩
noncomputable def sm__law_some_times : SM := sRet (eCall f__law_lowest (lCons (eBin .add (eCon (.int 1)) (eCall f__law_dip (lCons (eVar 0) (lCons (eCon (.int 7)) lNil)))) (lCons (eBin .add (eCon (.int 1)) (eCall f__law_dip (lCons (eVar 0) (lCons (eCon (.int 4)) lNil)))) lNil)))
noncomputable def dt__law_some_times : DT := ⟨⟨("_law_some_times", none), "_law_some_times", "_law_some_times", defArgs (top 81), defBody (top 81), defScope (top 81), [], []⟩, ["jar"], ["jar"], [], sm__law_some_times⟩
noncomputable def sm_keeps : SM := sSeq (sExpr (eCall f_require_fenced (lCons (eVar 0) (lCons (eVar 1) lNil)))) (sSeq (sExpr (eCall f_require_row (lCons (eVar 0) (lCons (eVar 2) lNil)))) (sRet (eCall f_keeps_by (lCons (eVar 1) (lCons (eVar 2) lNil)))))
noncomputable def dt_keeps : DT := ⟨⟨("keeps", none), "keeps", "keeps", defArgs (top 54), defBody (top 54), defScope (top 54), [], []⟩, ["width", "fence", "row"], ["width", "fence", "row"], [], sm_keeps⟩
noncomputable def sm_opposite_rooms : SM := sSeq (sExpr (eCall f_require_fenced (lCons (eVar 0) (lCons (eVar 1) lNil)))) (sRet (eCall f_opposite_by (lCons (eVar 1) lNil)))
noncomputable def dt_opposite_rooms : DT := ⟨⟨("opposite_rooms", none), "opposite", "opposite", defArgs (top 52), defBody (top 52), defScope (top 52), [], []⟩, ["width", "fence"], ["width", "fence"], [], sm_opposite_rooms⟩
noncomputable def sm__law_opposite : SM := sRet (eTup (lCons (eCall f__law_scaled (lCons (eTup (lCons (eNeg (eCon (.int 1))) (lCons (eCon (.int 1)) lNil))) (lCons (eIx (eVar 0) (eCon (.int 0))) lNil))) (lCons (eCall f__law_times (lCons (eTup (lCons (eNeg (eCon (.int 1))) (lCons (eCon (.int 1)) lNil))) (lCons (eIx (eVar 0) (eCon (.int 1))) lNil))) (lCons (eNot (eIx (eVar 0) (eCon (.int 2)))) lNil))))
noncomputable def dt__law_opposite : DT := ⟨⟨("_law_opposite", none), "_law_opposite", "_law_opposite", defArgs (top 85), defBody (top 85), defScope (top 85), [], []⟩, ["fence"], ["fence"], [], sm__law_opposite⟩
noncomputable def sm__law_minus : SM := sRet (eCall f__law_plus (lCons (eVar 0) (lCons (eTup (lCons (eNeg (eIx (eVar 1) (eCon (.int 0)))) (lCons (eIx (eVar 1) (eCon (.int 1))) lNil))) lNil)))
noncomputable def dt__law_minus : DT := ⟨⟨("_law_minus", none), "_law_minus", "_law_minus", defArgs (top 72), defBody (top 72), defScope (top 72), [], []⟩, ["one", "other"], ["one", "other"], [], sm__law_minus⟩
noncomputable def sm__law_product : SM := sSeq (sAsg (eTup (lCons (eCon (.int 0)) (lCons (eCon (.int 1)) lNil))) (gName 2)) (sSeq (sFor (iZip (eVar 0) (eVar 1)) (gTup 2 (gCons (gName 3) (gCons (gName 4) gNil))) (sAsg (eCall f__law_plus (lCons (eVar 2) (lCons (eCall f__law_times (lCons (eVar 3) (lCons (eVar 4) lNil))) lNil))) (gName 2))) (sRet (eVar 2)))
noncomputable def dt__law_product : DT := ⟨⟨("_law_product", none), "_law_product", "_law_product", defArgs (top 74), defBody (top 74), defScope (top 74), [], []⟩, ["one", "other", "found", "near", "far"], ["one", "other"], [], sm__law_product⟩
noncomputable def sm_is_bar : SM := sSeq (sExpr (eCall f_require_roomed (lCons (eVar 0) (lCons (eVar 1) lNil)))) (sRet (eCall f_is_bar_by (lCons (eVar 0) (lCons (eVar 1) (lCons (eVar 2) lNil)))))
noncomputable def dt_is_bar : DT := ⟨⟨("is_bar", none), "is_bar", "is_bar", defArgs (top 58), defBody (top 58), defScope (top 58), [], []⟩, ["width", "room", "value"], ["width", "room", "value"], [], sm_is_bar⟩
noncomputable def sm__law_is_bar : SM := sSeq (sIf (tOr (tNot (tVal (eCall f__law_is_row (lCons (eBi .len (lCons (eVar 1) lNil)) (lCons (eVar 2) lNil))))) (tCmp .ne (eLc (cLc (iSeq (eVar 2)) [8] (gName 8) (tCmp .lt (eIx (eVar 8) (eCon (.int 0))) (eCon (.int 0))) (eVar 8))) (eLst lNil))) (sRet (eCon (.bl false))) sPass) (sSeq (sAsg (eCall f__law_summed (lCons (eVar 0) (lCons (eVar 1) (lCons (eVar 2) lNil)))) (gTup 2 (gCons (gName 3) (gCons (gName 4) gNil)))) (sSeq (sIf (tCmp .ne (eLc (cLc (iSeq (eVar 3)) [8] (gName 8) (tCmp .ne (eIx (eVar 8) (eCon (.int 0))) (eCon (.int 0))) (eVar 8))) (eLst lNil)) (sRet (eCon (.bl false))) sPass) (sSeq (sAsg (eLc (cLc (iZip (eVar 1) (eVar 2)) [6, 7] (gTup 2 (gCons (gName 6) (gCons (gName 7) gNil))) (tAnd (tVal (eIx (eVar 6) (eCon (.int 2)))) (tCmp .gt (eIx (eVar 7) (eCon (.int 0))) (eCon (.int 0)))) (eCon (.int 1)))) (gName 5)) (sRet (eOr (eCmp .gt (eIx (eVar 4) (eCon (.int 0))) (eCon (.int 0))) (eAnd (eCmp .eq (eIx (eVar 4) (eCon (.int 0))) (eCon (.int 0))) (eCmp .ne (eVar 5) (eLst lNil))))))))
noncomputable def dt__law_is_bar : DT := ⟨⟨("_law_is_bar", none), "_law_is_bar", "_law_is_bar", defArgs (top 89), defBody (top 89), defScope (top 89), [], []⟩, ["width", "room", "value", "row", "number", "strict", "fence", "weight", "one"], ["width", "room", "value"], [], sm__law_is_bar⟩
noncomputable def sm__law_drawn_number : SM := sSeq (sAsg (eCall f__law_dip (lCons (eVar 0) (lCons (eCon (.int 12)) lNil))) (gName 1)) (sSeq (sIf (tCmp .eq (eVar 1) (eCon (.int 0))) (sRet (eCall f__law_lowest (lCons (eCall f__law_one_of (lCons (eVar 0) (lCons (eLst (lCons (eBin .add (eBin .pow (eCon (.int 10)) (eCon (.int 30))) (eCon (.int 7))) (lCons (eNeg (eBin .pow (eCon (.int 10)) (eCon (.int 39)))) (lCons (eCon (.int 3)) (lCons (eCon (.int 1)) lNil))))) lNil))) (lCons (eCall f__law_one_of (lCons (eVar 0) (lCons (eLst (lCons (eBin .add (eBin .pow (eCon (.int 10)) (eCon (.int 20))) (eCon (.int 1))) (lCons (eCon (.int 7)) (lCons (eCon (.int 1)) lNil)))) lNil))) lNil)))) sPass) (sSeq (sIf (tCmp .lt (eVar 1) (eCon (.int 4))) (sRet (eCall f__law_lowest (lCons (eBin .sub (eCall f__law_dip (lCons (eVar 0) (lCons (eCon (.int 13)) lNil))) (eCon (.int 6))) (lCons (eBin .add (eCon (.int 1)) (eCall f__law_dip (lCons (eVar 0) (lCons (eCon (.int 5)) lNil)))) lNil)))) sPass) (sRet (eTup (lCons (eBin .sub (eCall f__law_dip (lCons (eVar 0) (lCons (eCon (.int 9)) lNil))) (eCon (.int 4))) (lCons (eCon (.int 1)) lNil))))))
noncomputable def dt__law_drawn_number : DT := ⟨⟨("_law_drawn_number", none), "_law_drawn_number", "_law_drawn_number", defArgs (top 79), defBody (top 79), defScope (top 79), [], []⟩, ["jar", "way"], ["jar"], [], sm__law_drawn_number⟩
noncomputable def sm__law_added : SM := sRet (eBi .tuple (lCons (eLc (cLc (iZip (eVar 0) (eVar 1)) [2, 3] (gTup 2 (gCons (gName 2) (gCons (gName 3) gNil))) tYes (eCall f__law_plus (lCons (eVar 2) (lCons (eVar 3) lNil))))) lNil))
noncomputable def dt__law_added : DT := ⟨⟨("_law_added", none), "_law_added", "_law_added", defArgs (top 76), defBody (top 76), defScope (top 76), [], []⟩, ["one", "other", "near", "far"], ["one", "other"], [], sm__law_added⟩
noncomputable def sm__law_barred_room : SM := sSeq (sAsg (eCall f__law_room_about (lCons (eVar 0) (lCons (eVar 1) (lCons (eBin .sub (eVar 2) (eCon (.int 1))) (lCons (eCall f__law_drawn_row (lCons (eVar 0) (lCons (eVar 1) (lCons (eCon (.int 3)) lNil)))) lNil))))) (gName 3)) (sSeq (sAsg (eCall f__law_weights (lCons (eVar 0) (lCons (eBin .sub (eVar 2) (eCon (.int 1))) lNil))) (gName 4)) (sSeq (sAsg (eCall f__law_summed (lCons (eVar 1) (lCons (eVar 3) (lCons (eVar 4) lNil)))) (gTup 2 (gCons (gName 5) (gCons (gName 6) gNil)))) (sSeq (sAsg (eCmp .ne (eLc (cLc (iZip (eVar 3) (eVar 4)) [14, 15] (gTup 2 (gCons (gName 14) (gCons (gName 15) gNil))) (tAnd (tVal (eIx (eVar 14) (eCon (.int 2)))) (tCmp .gt (eIx (eVar 15) (eCon (.int 0))) (eCon (.int 0)))) (eCon (.int 1)))) (eLst lNil)) (gName 7)) (sSeq (sPar (lCons (eCall f__law_some_times (lCons (eVar 0) lNil)) (lCons (eCall f__law_some_times (lCons (eVar 0) lNil)) lNil)) (gCons (gName 8) (gCons (gName 9) gNil))) (sSeq (sAsg (eCall f__law_one_of (lCons (eVar 0) (lCons (eLst (lCons (eCon (.bl false)) (lCons (eCon (.bl true)) lNil))) lNil))) (gName 10)) (sSeq (sAsg (eIf (tAnd (tOr (tVal (eVar 7)) (tVal (eVar 10))) (tCmp .eq (eCall f__law_dip (lCons (eVar 0) (lCons (eCon (.int 2)) lNil))) (eCon (.int 0)))) (eTup (lCons (eCon (.int 0)) (lCons (eCon (.int 1)) lNil))) (eVar 9)) (gName 11)) (sSeq (sAsg (eTup (lCons (eCall f__law_scaled (lCons (eCall f__law_lowest (lCons (eNeg (eIx (eVar 8) (eCon (.int 1)))) (lCons (eIx (eVar 8) (eCon (.int 0))) lNil))) (lCons (eVar 5) lNil))) (lCons (eCall f__law_times (lCons (eCall f__law_lowest (lCons (eIx (eVar 8) (eCon (.int 1))) (lCons (eIx (eVar 8) (eCon (.int 0))) lNil))) (lCons (eCall f__law_minus (lCons (eVar 11) (lCons (eVar 6) lNil))) lNil))) (lCons (eVar 10) lNil)))) (gName 12)) (sSeq (sAsg (eCall f__law_dip (lCons (eVar 0) (lCons (eVar 2) lNil))) (gName 13)) (sRet (eTup (lCons (eBin .add (eBin .add (eSl (eVar 3) oNone (oSome (eVar 13))) (eTup (lCons (eVar 12) lNil))) (eSl (eVar 3) (oSome (eVar 13)) oNone)) (lCons (eBin .add (eBin .add (eSl (eVar 4) oNone (oSome (eVar 13))) (eTup (lCons (eVar 8) lNil))) (eSl (eVar 4) (oSome (eVar 13)) oNone)) lNil))))))))))))
noncomputable def dt__law_barred_room : DT := ⟨⟨("_law_barred_room", none), "_law_barred_room", "_law_barred_room", defArgs (top 91), defBody (top 91), defScope (top 91), [], []⟩, ["jar", "width", "many", "room", "weights", "row", "number", "strict", "by", "more", "own", "extra", "last", "at", "fence", "weight"], ["jar", "width", "many"], [], sm__law_barred_room⟩
noncomputable def sm_summed : SM := sSeq (sExpr (eCall f_require_roomed (lCons (eVar 0) (lCons (eVar 1) lNil)))) (sSeq (sIf (tNot (tVal (eCall f_are_weights (lCons (eVar 1) (lCons (eVar 2) lNil))))) sNever sPass) (sRet (eCall f_summed_by (lCons (eVar 0) (lCons (eVar 1) (lCons (eVar 2) lNil))))))
noncomputable def dt_summed : DT := ⟨⟨("summed", none), "summed", "summed", defArgs (top 57), defBody (top 57), defScope (top 57), [], []⟩, ["width", "room", "weights"], ["width", "room", "weights"], [], sm_summed⟩
noncomputable def sm__law_summed : SM := sSeq (sPar (lCons (eBin .mul (eTup (lCons (eTup (lCons (eCon (.int 0)) (lCons (eCon (.int 1)) lNil))) lNil)) (eVar 0)) (lCons (eTup (lCons (eCon (.int 0)) (lCons (eCon (.int 1)) lNil))) lNil)) (gCons (gName 3) (gCons (gName 4) gNil))) (sSeq (sFor (iZip (eVar 1) (eVar 2)) (gTup 2 (gCons (gName 5) (gCons (gName 6) gNil))) (sPar (lCons (eCall f__law_added (lCons (eVar 3) (lCons (eCall f__law_scaled (lCons (eVar 6) (lCons (eIx (eVar 5) (eCon (.int 0))) lNil))) lNil))) (lCons (eCall f__law_plus (lCons (eVar 4) (lCons (eCall f__law_times (lCons (eVar 6) (lCons (eIx (eVar 5) (eCon (.int 1))) lNil))) lNil))) lNil)) (gCons (gName 3) (gCons (gName 4) gNil)))) (sRet (eTup (lCons (eVar 3) (lCons (eVar 4) lNil)))))
noncomputable def dt__law_summed : DT := ⟨⟨("_law_summed", none), "_law_summed", "_law_summed", defArgs (top 86), defBody (top 86), defScope (top 86), [], []⟩, ["width", "room", "weights", "row", "number", "fence", "weight"], ["width", "room", "weights"], [], sm__law_summed⟩
noncomputable def sm__law_weights : SM := sRet (eBi .tuple (lCons (eLc (cLc (iRng1 (eVar 1)) [2] (gName 2) tYes (eIf (tCmp .eq (eCall f__law_dip (lCons (eVar 0) (lCons (eCon (.int 2)) lNil))) (eCon (.int 0))) (eCall f__law_some_times (lCons (eVar 0) lNil)) (eTup (lCons (eCon (.int 0)) (lCons (eCon (.int 1)) lNil)))))) lNil))
noncomputable def dt__law_weights : DT := ⟨⟨("_law_weights", none), "_law_weights", "_law_weights", defArgs (top 83), defBody (top 83), defScope (top 83), [], []⟩, ["jar", "many", "at"], ["jar", "many"], [], sm__law_weights⟩
noncomputable def sm_first_broken : SM := sSeq (sExpr (eCall f_require_roomed (lCons (eVar 0) (lCons (eVar 1) lNil)))) (sSeq (sExpr (eCall f_require_row (lCons (eVar 0) (lCons (eVar 2) lNil)))) (sRet (eCall f_broken_by (lCons (eVar 1) (lCons (eVar 2) lNil)))))
noncomputable def dt_first_broken : DT := ⟨⟨("first_broken", none), "first_broken", "first_broken", defArgs (top 56), defBody (top 56), defScope (top 56), [], []⟩, ["width", "room", "row"], ["width", "room", "row"], [], sm_first_broken⟩
noncomputable def sm_does_hold : SM := sSeq (sExpr (eCall f_require_roomed (lCons (eVar 0) (lCons (eVar 1) lNil)))) (sSeq (sExpr (eCall f_require_row (lCons (eVar 0) (lCons (eVar 2) lNil)))) (sRet (eCall f_holds_by (lCons (eVar 1) (lCons (eVar 2) lNil)))))
noncomputable def dt_does_hold : DT := ⟨⟨("does_hold", none), "does_hold", "does_hold", defArgs (top 55), defBody (top 55), defScope (top 55), [], []⟩, ["width", "room", "row"], ["width", "room", "row"], [], sm_does_hold⟩
noncomputable def sm__law_keeps : SM := sSeq (sAsg (eCall f__law_product (lCons (eIx (eVar 0) (eCon (.int 0))) (lCons (eVar 1) lNil))) (gName 2)) (sRet (eOr (eCall f__law_is_less (lCons (eIx (eVar 0) (eCon (.int 1))) (lCons (eVar 2) lNil))) (eAnd (eNot (eIx (eVar 0) (eCon (.int 2)))) (eCmp .eq (eVar 2) (eIx (eVar 0) (eCon (.int 1)))))))
noncomputable def dt__law_keeps : DT := ⟨⟨("_law_keeps", none), "_law_keeps", "_law_keeps", defArgs (top 84), defBody (top 84), defScope (top 84), [], []⟩, ["fence", "row", "told"], ["fence", "row"], [], sm__law_keeps⟩
noncomputable def sm_require_count : SM := sIf (tOr (tNot (tVal (eCall f_is_integer (lCons (eVar 0) lNil)))) (tNot (tChain .le .le (eVar 1) (eVar 0) (eVar 2)))) sNever sPass
noncomputable def dt_require_count : DT := ⟨⟨("require_count", none), "require_count", "require_count", defArgs (top 16), defBody (top 16), defScope (top 16), [.int 0, .int 60], []⟩, ["value", "least", "most"], ["value", "least", "most"], [.int 0, .int 60], sm_require_count⟩
noncomputable def sm_is_number : SM := sSeq (sIf (tOr (tNot (tVal (eIsi (eVar 0) .tuple))) (tOr (tCmp .ne (eBi .len (lCons (eVar 0) lNil)) (eCon (.int 2))) (tNot (tVal (eBi .all (lCons (eLc (cLc (iSeq (eVar 0)) [1] (gName 1) tYes (eCall f_is_integer (lCons (eVar 1) lNil)))) lNil)))))) (sRet (eCon (.bl false))) sPass) (sRet (eAnd (eCmp .ge (eIx (eVar 0) (eCon (.int 1))) (eCon (.int 1))) (eCmp .eq (eCall f_common_divisor (lCons (eIx (eVar 0) (eCon (.int 0))) (lCons (eIx (eVar 0) (eCon (.int 1))) lNil))) (eCon (.int 1)))))
noncomputable def dt_is_number : DT := ⟨⟨("is_number", none), "is_number", "is_number", defArgs (top 13), defBody (top 13), defScope (top 13), [], []⟩, ["value", "one"], ["value"], [], sm_is_number⟩
noncomputable def sm_is_plain_row : SM := sRet (eAnd (eIsi (eVar 1) .tuple) (eAnd (eCmp .eq (eBi .len (lCons (eVar 1) lNil)) (eVar 0)) (eBi .all (lCons (eLc (cLc (iSeq (eVar 1)) [2] (gName 2) tYes (eCall f_is_number (lCons (eVar 2) lNil)))) lNil))))
noncomputable def dt_is_plain_row : DT := ⟨⟨("is_plain_row", none), "is_plain_row", "is_plain_row", defArgs (top 22), defBody (top 22), defScope (top 22), [], []⟩, ["width", "value", "one"], ["width", "value"], [], sm_is_plain_row⟩
noncomputable def sm__law_lowest : SM := sSeq (sPar (lCons (eBi .abs (lCons (eBi .int (lCons (eVar 0) lNil)) lNil)) (lCons (eBi .abs (lCons (eBi .int (lCons (eVar 1) lNil)) lNil)) lNil)) (gCons (gName 2) (gCons (gName 3) gNil))) (sSeq (sWhile (tCmp .ne (eVar 3) (eCon (.int 0))) (sPar (lCons (eVar 3) (lCons (eBin .mod (eVar 2) (eVar 3)) lNil)) (gCons (gName 2) (gCons (gName 3) gNil)))) (sSeq (sAsg (eIf (tCmp .gt (eVar 1) (eCon (.int 0))) (eCon (.int 1)) (eNeg (eCon (.int 1)))) (gName 4)) (sRet (eTup (lCons (eBin .fdiv (eBin .mul (eVar 4) (eBi .int (lCons (eVar 0) lNil))) (eVar 2)) (lCons (eBin .fdiv (eBin .mul (eVar 4) (eBi .int (lCons (eVar 1) lNil))) (eVar 2)) lNil))))))
noncomputable def dt__law_lowest : DT := ⟨⟨("_law_lowest", none), "_law_lowest", "_law_lowest", defArgs (top 69), defBody (top 69), defScope (top 69), [], []⟩, ["top", "bottom", "one", "other", "sign"], ["top", "bottom"], [], sm__law_lowest⟩
noncomputable def sm__law_is_whole : SM := sRet (eAnd (eIsi (eVar 0) .int) (eNot (eIsi (eVar 0) .bool)))
noncomputable def dt__law_is_whole : DT := ⟨⟨("_law_is_whole", none), "_law_is_whole", "_law_is_whole", defArgs (top 68), defBody (top 68), defScope (top 68), [], []⟩, ["value"], ["value"], [], sm__law_is_whole⟩
noncomputable def sm_is_for_none_by : SM := sRet (eCall f_is_for_all_by (lCons (eCall f_opposite_by (lCons (eVar 0) lNil)) lNil))
noncomputable def dt_is_for_none_by : DT := ⟨⟨("is_for_none_by", none), "is_for_none_by", "is_for_none_by", defArgs (top 49), defBody (top 49), defScope (top 49), [], []⟩, ["fence"], ["fence"], [], sm_is_for_none_by⟩
noncomputable def sm_require_fenced : SM := sSeq (sExpr (eCall f_require_width (lCons (eVar 0) lNil))) (sExpr (eCall f_require_fence (lCons (eVar 0) (lCons (eVar 1) lNil))))
noncomputable def dt_require_fenced : DT := ⟨⟨("require_fenced", none), "require_fenced", "require_fenced", defArgs (top 39), defBody (top 39), defScope (top 39), [], []⟩, ["width", "fence"], ["width", "fence"], [], sm_require_fenced⟩
noncomputable def sm__law_is_less : SM := sRet (eCmp .lt (eBin .mul (eIx (eVar 0) (eCon (.int 0))) (eIx (eVar 1) (eCon (.int 1)))) (eBin .mul (eIx (eVar 1) (eCon (.int 0))) (eIx (eVar 0) (eCon (.int 1)))))
noncomputable def dt__law_is_less : DT := ⟨⟨("_law_is_less", none), "_law_is_less", "_law_is_less", defArgs (top 73), defBody (top 73), defScope (top 73), [], []⟩, ["one", "other"], ["one", "other"], [], sm__law_is_less⟩
noncomputable def sm_is_for_all_by : SM := sSeq (sAsg (eVar 0) (gTup 3 (gCons (gName 1) (gCons (gName 2) (gCons (gName 3) gNil))))) (sRet (eAnd (eCall f_is_rest (lCons (eVar 1) lNil)) (eOr (eCmp .lt (eIx (eVar 2) (eCon (.int 0))) (eCon (.int 0))) (eAnd (eCmp .eq (eIx (eVar 2) (eCon (.int 0))) (eCon (.int 0))) (eNot (eVar 3))))))
noncomputable def dt_is_for_all_by : DT := ⟨⟨("is_for_all_by", none), "is_for_all_by", "is_for_all_by", defArgs (top 48), defBody (top 48), defScope (top 48), [], []⟩, ["fence", "row", "number", "strict"], ["fence"], [], sm_is_for_all_by⟩
noncomputable def sm_scaled : SM := sSeq (sAsg (eIx (eLc (cLc (iSeq (eIx (eVar 0) (eCon (.int 0)))) [2] (gName 2) (tCmp .ne (eVar 2) (eCon (.tup [.int 0, .int 1]))) (eVar 2))) (eCon (.int 0))) (gName 1)) (sSeq (sAsg (eTup (lCons (eIx (eVar 1) (eCon (.int 1))) (lCons (eBi .abs (lCons (eIx (eVar 1) (eCon (.int 0))) lNil)) lNil))) (gName 2)) (sRet (eTup (lCons (eCall f_times_row (lCons (eVar 2) (lCons (eIx (eVar 0) (eCon (.int 0))) lNil))) (lCons (eCall f_multiplied (lCons (eVar 2) (lCons (eIx (eVar 0) (eCon (.int 1))) lNil))) (lCons (eIx (eVar 0) (eCon (.int 2))) lNil))))))
noncomputable def dt_scaled : DT := ⟨⟨("scaled", none), "scaled", "scaled", defArgs (top 61), defBody (top 61), defScope (top 61), [], []⟩, ["fence", "lead", "number"], ["fence"], [], sm_scaled⟩
noncomputable def sm_is_rest : SM := sRet (eCmp .is (eCall f_first_index (lCons (eVar 0) lNil)) (eCon (.non)))
noncomputable def dt_is_rest : DT := ⟨⟨("is_rest", none), "is_rest", "is_rest", defArgs (top 25), defBody (top 25), defScope (top 25), [], []⟩, ["row"], ["row"], [], sm_is_rest⟩
noncomputable def sm_require_fence : SM := sIf (tNot (tVal (eCall f_is_plain_fence (lCons (eVar 0) (lCons (eVar 1) lNil))))) sNever sPass
noncomputable def dt_require_fence : DT := ⟨⟨("require_fence", none), "require_fence", "require_fence", defArgs (top 36), defBody (top 36), defScope (top 36), [], []⟩, ["width", "value"], ["width", "value"], [], sm_require_fence⟩
noncomputable def sm_multiplied : SM := sSeq (sIf (tChain .eq .eq (eIx (eVar 0) (eCon (.int 1))) (eIx (eVar 1) (eCon (.int 1))) (eCon (.int 1))) (sRet (eTup (lCons (eBin .mul (eIx (eVar 0) (eCon (.int 0))) (eIx (eVar 1) (eCon (.int 0)))) (lCons (eCon (.int 1)) lNil)))) sPass) (sRet (eCall f_reduced (lCons (eBin .mul (eIx (eVar 0) (eCon (.int 0))) (eIx (eVar 1) (eCon (.int 0)))) (lCons (eBin .mul (eIx (eVar 0) (eCon (.int 1))) (eIx (eVar 1) (eCon (.int 1)))) lNil))))
noncomputable def dt_multiplied : DT := ⟨⟨("multiplied", none), "multiplied", "multiplied", defArgs (top 18), defBody (top 18), defScope (top 18), [], []⟩, ["one", "other"], ["one", "other"], [], sm_multiplied⟩
noncomputable def sm_times_row : SM := sRet (eBi .tuple (lCons (eLc (cLc (iSeq (eVar 1)) [2] (gName 2) tYes (eIf (tCmp .ne (eVar 2) (eCon (.tup [.int 0, .int 1]))) (eCall f_multiplied (lCons (eVar 0) (lCons (eVar 2) lNil))) (eCon (.tup [.int 0, .int 1]))))) lNil))
noncomputable def dt_times_row : DT := ⟨⟨("times_row", none), "times_row", "times_row", defArgs (top 27), defBody (top 27), defScope (top 27), [], []⟩, ["number", "row", "one"], ["number", "row"], [], sm_times_row⟩
noncomputable def sm_require_number : SM := sIf (tNot (tVal (eCall f_is_number (lCons (eVar 0) lNil)))) sNever sPass
noncomputable def dt_require_number : DT := ⟨⟨("require_number", none), "require_number", "require_number", defArgs (top 15), defBody (top 15), defScope (top 15), [], []⟩, ["value"], ["value"], [], sm_require_number⟩
noncomputable def sm_keeps_by : SM := sSeq (sAsg (eCall f_added (lCons (eCall f_product_of (lCons (eIx (eVar 0) (eCon (.int 0))) (lCons (eVar 1) lNil))) (lCons (eCall f_opposite_numbers (lCons (eIx (eVar 0) (eCon (.int 1))) lNil)) lNil))) (gName 2)) (sRet (eOr (eCmp .gt (eIx (eVar 2) (eCon (.int 0))) (eCon (.int 0))) (eAnd (eCmp .eq (eIx (eVar 2) (eCon (.int 0))) (eCon (.int 0))) (eNot (eIx (eVar 0) (eCon (.int 2)))))))
noncomputable def dt_keeps_by : DT := ⟨⟨("keeps_by", none), "keeps_by", "keeps_by", defArgs (top 42), defBody (top 42), defScope (top 42), [], []⟩, ["fence", "row", "gap"], ["fence", "row"], [], sm_keeps_by⟩
noncomputable def sm_require_row : SM := sIf (tNot (tVal (eCall f_is_plain_row (lCons (eVar 0) (lCons (eVar 1) lNil))))) sNever sPass
noncomputable def dt_require_row : DT := ⟨⟨("require_row", none), "require_row", "require_row", defArgs (top 38), defBody (top 38), defScope (top 38), [], []⟩, ["width", "value"], ["width", "value"], [], sm_require_row⟩
noncomputable def sm_opposite_by : SM := sSeq (sAsg (eVar 0) (gTup 3 (gCons (gName 1) (gCons (gName 2) (gCons (gName 3) gNil))))) (sRet (eTup (lCons (eCall f_times_row (lCons (eTup (lCons (eNeg (eCon (.int 1))) (lCons (eCon (.int 1)) lNil))) (lCons (eVar 1) lNil))) (lCons (eCall f_opposite_numbers (lCons (eVar 2) lNil)) (lCons (eNot (eVar 3)) lNil)))))
noncomputable def dt_opposite_by : DT := ⟨⟨("opposite_by", none), "opposite_by", "opposite_by", defArgs (top 41), defBody (top 41), defScope (top 41), [], []⟩, ["fence", "row", "number", "strict"], ["fence"], [], sm_opposite_by⟩
noncomputable def sm_is_bar_by : SM := sSeq (sIf (tNot (tVal (eCall f_are_weights (lCons (eVar 1) (lCons (eVar 2) lNil))))) (sRet (eCon (.bl false))) sPass) (sSeq (sAsg (eCall f_summed_by (lCons (eVar 0) (lCons (eVar 1) (lCons (eVar 2) lNil)))) (gTup 2 (gCons (gName 3) (gCons (gName 4) gNil)))) (sSeq (sIf (tOr (tNot (tVal (eCall f_is_rest (lCons (eVar 3) lNil)))) (tCmp .lt (eIx (eVar 4) (eCon (.int 0))) (eCon (.int 0)))) (sRet (eCon (.bl false))) sPass) (sRet (eOr (eCmp .gt (eIx (eVar 4) (eCon (.int 0))) (eCon (.int 0))) (eBi .any (lCons (eLc (cLc (iZip (eVar 1) (eVar 2)) [5, 6] (gTup 2 (gCons (gName 5) (gCons (gName 6) gNil))) tYes (eAnd (eIx (eVar 5) (eCon (.int 2))) (eCmp .gt (eIx (eVar 6) (eCon (.int 0))) (eCon (.int 0)))))) lNil))))))
noncomputable def dt_is_bar_by : DT := ⟨⟨("is_bar_by", none), "is_bar_by", "is_bar_by", defArgs (top 47), defBody (top 47), defScope (top 47), [], []⟩, ["width", "room", "value", "row", "number", "fence", "weight"], ["width", "room", "value"], [], sm_is_bar_by⟩
noncomputable def sm_require_roomed : SM := sSeq (sExpr (eCall f_require_width (lCons (eVar 0) lNil))) (sExpr (eCall f_require_room (lCons (eVar 0) (lCons (eVar 1) lNil))))
noncomputable def dt_require_roomed : DT := ⟨⟨("require_roomed", none), "require_roomed", "require_roomed", defArgs (top 40), defBody (top 40), defScope (top 40), [], []⟩, ["width", "room"], ["width", "room"], [], sm_require_roomed⟩
noncomputable def sm_summed_by : SM := sSeq (sPar (lCons (eCall f_rest_row (lCons (eVar 0) lNil)) (lCons (eCon (.tup [.int 0, .int 1])) lNil)) (gCons (gName 3) (gCons (gName 4) gNil))) (sSeq (sFor (iZip (eVar 1) (eVar 2)) (gTup 2 (gCons (gName 5) (gCons (gName 6) gNil))) (sIf (tCmp .ne (eVar 6) (eCon (.tup [.int 0, .int 1]))) (sSeq (sAsg (eCall f_sum_of_rows (lCons (eVar 3) (lCons (eCall f_times_row (lCons (eVar 6) (lCons (eIx (eVar 5) (eCon (.int 0))) lNil))) lNil))) (gName 3)) (sAsg (eCall f_added (lCons (eVar 4) (lCons (eCall f_multiplied (lCons (eVar 6) (lCons (eIx (eVar 5) (eCon (.int 1))) lNil))) lNil))) (gName 4))) sPass)) (sRet (eTup (lCons (eVar 3) (lCons (eVar 4) lNil)))))
noncomputable def dt_summed_by : DT := ⟨⟨("summed_by", none), "summed_by", "summed_by", defArgs (top 46), defBody (top 46), defScope (top 46), [], []⟩, ["width", "room", "weights", "row", "number", "fence", "weight"], ["width", "room", "weights"], [], sm_summed_by⟩
noncomputable def sm_are_weights : SM := sRet (eAnd (eCall f_is_plain_row (lCons (eBi .len (lCons (eVar 0) lNil)) (lCons (eVar 1) lNil))) (eBi .all (lCons (eLc (cLc (iSeq (eVar 1)) [2] (gName 2) tYes (eCmp .ge (eIx (eVar 2) (eCon (.int 0))) (eCon (.int 0))))) lNil)))
noncomputable def dt_are_weights : DT := ⟨⟨("are_weights", none), "are_weights", "are_weights", defArgs (top 45), defBody (top 45), defScope (top 45), [], []⟩, ["room", "value", "number"], ["room", "value"], [], sm_are_weights⟩
noncomputable def sm_broken_by : SM := sSeq (sFor (iEnum (eVar 0)) (gTup 2 (gCons (gName 2) (gCons (gName 3) gNil))) (sIf (tNot (tVal (eCall f_keeps_by (lCons (eVar 3) (lCons (eVar 1) lNil))))) (sRet (eVar 2)) sPass)) (sRet (eCon (.non)))
noncomputable def dt_broken_by : DT := ⟨⟨("broken_by", none), "broken_by", "broken_by", defArgs (top 43), defBody (top 43), defScope (top 43), [], []⟩, ["room", "row", "index", "fence"], ["room", "row"], [], sm_broken_by⟩
noncomputable def sm_holds_by : SM := sRet (eCmp .is (eCall f_broken_by (lCons (eVar 0) (lCons (eVar 1) lNil))) (eCon (.non)))
noncomputable def dt_holds_by : DT := ⟨⟨("holds_by", none), "holds_by", "holds_by", defArgs (top 44), defBody (top 44), defScope (top 44), [], []⟩, ["room", "row"], ["room", "row"], [], sm_holds_by⟩
noncomputable def sm_is_integer : SM := sRet (eAnd (eIsi (eVar 0) .int) (eNot (eIsi (eVar 0) .bool)))
noncomputable def dt_is_integer : DT := ⟨⟨("is_integer", none), "is_integer", "is_integer", defArgs (top 11), defBody (top 11), defScope (top 11), [], []⟩, ["value"], ["value"], [], sm_is_integer⟩
noncomputable def sm_common_divisor : SM := sSeq (sPar (lCons (eBi .abs (lCons (eVar 0) lNil)) (lCons (eBi .abs (lCons (eVar 1) lNil)) lNil)) (gCons (gName 0) (gCons (gName 1) gNil))) (sSeq (sWhile (tCmp .gt (eVar 1) (eCon (.int 0))) (sPar (lCons (eVar 1) (lCons (eBin .mod (eVar 0) (eVar 1)) lNil)) (gCons (gName 0) (gCons (gName 1) gNil)))) (sRet (eVar 0)))
noncomputable def dt_common_divisor : DT := ⟨⟨("common_divisor", none), "common_divisor", "common_divisor", defArgs (top 12), defBody (top 12), defScope (top 12), [], []⟩, ["one", "other"], ["one", "other"], [], sm_common_divisor⟩
noncomputable def sm_first_index : SM := sSeq (sFor (iEnum (eVar 0)) (gTup 2 (gCons (gName 1) (gCons (gName 2) gNil))) (sIf (tCmp .ne (eVar 2) (eCon (.tup [.int 0, .int 1]))) (sRet (eVar 1)) sPass)) (sRet (eCon (.non)))
noncomputable def dt_first_index : DT := ⟨⟨("first_index", none), "first_index", "first_index", defArgs (top 23), defBody (top 23), defScope (top 23), [], []⟩, ["row", "index", "one"], ["row"], [], sm_first_index⟩
noncomputable def sm_reduced : SM := sSeq (sIf (tCmp .lt (eVar 1) (eCon (.int 0))) (sPar (lCons (eBin .sub (eCon (.int 0)) (eVar 0)) (lCons (eBin .sub (eCon (.int 0)) (eVar 1)) lNil)) (gCons (gName 0) (gCons (gName 1) gNil))) sPass) (sSeq (sAsg (eCall f_common_divisor (lCons (eVar 0) (lCons (eVar 1) lNil))) (gName 2)) (sRet (eTup (lCons (eBin .fdiv (eVar 0) (eVar 2)) (lCons (eBin .fdiv (eVar 1) (eVar 2)) lNil)))))
noncomputable def dt_reduced : DT := ⟨⟨("reduced", none), "reduced", "reduced", defArgs (top 14), defBody (top 14), defScope (top 14), [], []⟩, ["top", "bottom", "divisor"], ["top", "bottom"], [], sm_reduced⟩
noncomputable def sm_added : SM := sSeq (sIf (tChain .eq .eq (eIx (eVar 0) (eCon (.int 1))) (eIx (eVar 1) (eCon (.int 1))) (eCon (.int 1))) (sRet (eTup (lCons (eBin .add (eIx (eVar 0) (eCon (.int 0))) (eIx (eVar 1) (eCon (.int 0)))) (lCons (eCon (.int 1)) lNil)))) sPass) (sRet (eCall f_reduced (lCons (eBin .add (eBin .mul (eIx (eVar 0) (eCon (.int 0))) (eIx (eVar 1) (eCon (.int 1)))) (eBin .mul (eIx (eVar 1) (eCon (.int 0))) (eIx (eVar 0) (eCon (.int 1))))) (lCons (eBin .mul (eIx (eVar 0) (eCon (.int 1))) (eIx (eVar 1) (eCon (.int 1)))) lNil))))
noncomputable def dt_added : DT := ⟨⟨("added", none), "added", "added", defArgs (top 17), defBody (top 17), defScope (top 17), [], []⟩, ["one", "other"], ["one", "other"], [], sm_added⟩
noncomputable def sm_opposite_numbers : SM := sRet (eTup (lCons (eBin .sub (eCon (.int 0)) (eIx (eVar 0) (eCon (.int 0)))) (lCons (eIx (eVar 0) (eCon (.int 1))) lNil)))
noncomputable def dt_opposite_numbers : DT := ⟨⟨("opposite_numbers", none), "opposite", "opposite", defArgs (top 19), defBody (top 19), defScope (top 19), [], []⟩, ["one"], ["one"], [], sm_opposite_numbers⟩
noncomputable def sm_product_of : SM := sSeq (sAsg (eCon (.tup [.int 0, .int 1])) (gName 2)) (sSeq (sFor (iZip (eVar 0) (eVar 1)) (gTup 2 (gCons (gName 3) (gCons (gName 4) gNil))) (sIf (tAnd (tCmp .ne (eVar 3) (eCon (.tup [.int 0, .int 1]))) (tCmp .ne (eVar 4) (eCon (.tup [.int 0, .int 1])))) (sAsg (eCall f_added (lCons (eVar 2) (lCons (eCall f_multiplied (lCons (eVar 3) (lCons (eVar 4) lNil))) lNil))) (gName 2)) sPass)) (sRet (eVar 2)))
noncomputable def dt_product_of : DT := ⟨⟨("product_of", none), "product_of", "product_of", defArgs (top 28), defBody (top 28), defScope (top 28), [], []⟩, ["one", "other", "found", "left", "right"], ["one", "other"], [], sm_product_of⟩
noncomputable def sm_require_room : SM := sIf (tNot (tVal (eCall f_is_plain_room (lCons (eVar 0) (lCons (eVar 1) lNil))))) sNever sPass
noncomputable def dt_require_room : DT := ⟨⟨("require_room", none), "require_room", "require_room", defArgs (top 37), defBody (top 37), defScope (top 37), [], []⟩, ["width", "value"], ["width", "value"], [], sm_require_room⟩
noncomputable def sm_sum_of_rows : SM := sRet (eBi .tuple (lCons (eLc (cLc (iZip (eVar 0) (eVar 1)) [2, 3] (gTup 2 (gCons (gName 2) (gCons (gName 3) gNil))) tYes (eCall f_added (lCons (eVar 2) (lCons (eVar 3) lNil))))) lNil))
noncomputable def dt_sum_of_rows : DT := ⟨⟨("sum_of_rows", none), "sum_of_rows", "sum_of_rows", defArgs (top 26), defBody (top 26), defScope (top 26), [], []⟩, ["one", "other", "left", "right"], ["one", "other"], [], sm_sum_of_rows⟩
noncomputable def sm_rest_row : SM := sRet (eBin .mul (eTup (lCons (eCon (.tup [.int 0, .int 1])) lNil)) (eVar 0))
noncomputable def dt_rest_row : DT := ⟨⟨("rest_row", none), "rest_row", "rest_row", defArgs (top 24), defBody (top 24), defScope (top 24), [], []⟩, ["width"], ["width"], [], sm_rest_row⟩
noncomputable def T : List DT := dt_law :: dt__law_right :: dt__law_jar :: dt_is_room :: dt__law_is_room :: dt__law_bent :: dt_is_fence :: dt__law_is_fence :: dt__law_fences_right :: dt__law_room_about :: dt__law_bars_right :: dt__law_room_right :: dt__law_one_of :: dt__law_drawn_row :: dt__law_size :: dt_is_plain_room :: dt_require_width :: dt__law_dip :: dt_is_plain_fence :: dt__law_is_number :: dt__law_is_row :: dt__law_plus :: dt_is_for_none :: dt__law_truth_of :: dt_is_for_all :: dt_are_alike :: dt__law_are_alike :: dt_times_fence :: dt__law_times :: dt__law_scaled :: dt__law_some_times :: dt_keeps :: dt_opposite_rooms :: dt__law_opposite :: dt__law_minus :: dt__law_product :: dt_is_bar :: dt__law_is_bar :: dt__law_drawn_number :: dt__law_added :: dt__law_barred_room :: dt_summed :: dt__law_summed :: dt__law_weights :: dt_first_broken :: dt_does_hold :: dt__law_keeps :: dt_require_count :: dt_is_number :: dt_is_plain_row :: dt__law_lowest :: dt__law_is_whole :: dt_is_for_none_by :: dt_require_fenced :: dt__law_is_less :: dt_is_for_all_by :: dt_scaled :: dt_is_rest :: dt_require_fence :: dt_multiplied :: dt_times_row :: dt_require_number :: dt_keeps_by :: dt_require_row :: dt_opposite_by :: dt_is_bar_by :: dt_require_roomed :: dt_summed_by :: dt_are_weights :: dt_broken_by :: dt_holds_by :: dt_is_integer :: dt_common_divisor :: dt_first_index :: dt_reduced :: dt_added :: dt_opposite_numbers :: dt_product_of :: dt_require_room :: dt_sum_of_rows :: dt_rest_row :: []
theorem P_law : tabP T f_law = some ⟨1, 4, [], sm_law⟩ := rfl
theorem P__law_right : tabP T f__law_right = some ⟨1, 7, [], sm__law_right⟩ := rfl
theorem P__law_jar : tabP T f__law_jar = some ⟨2, 4, [], sm__law_jar⟩ := rfl
theorem P_is_room : tabP T f_is_room = some ⟨2, 2, [], sm_is_room⟩ := rfl
theorem P__law_is_room : tabP T f__law_is_room = some ⟨3, 4, [], sm__law_is_room⟩ := rfl
theorem P__law_bent : tabP T f__law_bent = some ⟨2, 4, [], sm__law_bent⟩ := rfl
theorem P_is_fence : tabP T f_is_fence = some ⟨2, 2, [], sm_is_fence⟩ := rfl
theorem P__law_is_fence : tabP T f__law_is_fence = some ⟨2, 2, [], sm__law_is_fence⟩ := rfl
theorem P__law_fences_right : tabP T f__law_fences_right = some ⟨4, 11, [], sm__law_fences_right⟩ := rfl
theorem P__law_room_about : tabP T f__law_room_about = some ⟨4, 9, [], sm__law_room_about⟩ := rfl
theorem P__law_bars_right : tabP T f__law_bars_right = some ⟨2, 10, [], sm__law_bars_right⟩ := rfl
theorem P__law_room_right : tabP T f__law_room_right = some ⟨4, 11, [], sm__law_room_right⟩ := rfl
theorem P__law_one_of : tabP T f__law_one_of = some ⟨2, 2, [], sm__law_one_of⟩ := rfl
theorem P__law_drawn_row : tabP T f__law_drawn_row = some ⟨3, 4, [], sm__law_drawn_row⟩ := rfl
theorem P__law_size : tabP T f__law_size = some ⟨1, 1, [], sm__law_size⟩ := rfl
theorem P_is_plain_room : tabP T f_is_plain_room = some ⟨2, 3, [], sm_is_plain_room⟩ := rfl
theorem P_require_width : tabP T f_require_width = some ⟨1, 1, [], sm_require_width⟩ := rfl
theorem P__law_dip : tabP T f__law_dip = some ⟨2, 3, [], sm__law_dip⟩ := rfl
theorem P_is_plain_fence : tabP T f_is_plain_fence = some ⟨2, 2, [], sm_is_plain_fence⟩ := rfl
theorem P__law_is_number : tabP T f__law_is_number = some ⟨1, 1, [], sm__law_is_number⟩ := rfl
theorem P__law_is_row : tabP T f__law_is_row = some ⟨2, 3, [], sm__law_is_row⟩ := rfl
theorem P__law_plus : tabP T f__law_plus = some ⟨2, 2, [], sm__law_plus⟩ := rfl
theorem P_is_for_none : tabP T f_is_for_none = some ⟨2, 2, [], sm_is_for_none⟩ := rfl
theorem P__law_truth_of : tabP T f__law_truth_of = some ⟨1, 1, [], sm__law_truth_of⟩ := rfl
theorem P_is_for_all : tabP T f_is_for_all = some ⟨2, 2, [], sm_is_for_all⟩ := rfl
theorem P_are_alike : tabP T f_are_alike = some ⟨3, 3, [], sm_are_alike⟩ := rfl
theorem P__law_are_alike : tabP T f__law_are_alike = some ⟨2, 8, [], sm__law_are_alike⟩ := rfl
theorem P_times_fence : tabP T f_times_fence = some ⟨3, 3, [], sm_times_fence⟩ := rfl
theorem P__law_times : tabP T f__law_times = some ⟨2, 2, [], sm__law_times⟩ := rfl
theorem P__law_scaled : tabP T f__law_scaled = some ⟨2, 3, [], sm__law_scaled⟩ := rfl
theorem P__law_some_times : tabP T f__law_some_times = some ⟨1, 1, [], sm__law_some_times⟩ := rfl
theorem P_keeps : tabP T f_keeps = some ⟨3, 3, [], sm_keeps⟩ := rfl
theorem P_opposite_rooms : tabP T f_opposite_rooms = some ⟨2, 2, [], sm_opposite_rooms⟩ := rfl
theorem P__law_opposite : tabP T f__law_opposite = some ⟨1, 1, [], sm__law_opposite⟩ := rfl
theorem P__law_minus : tabP T f__law_minus = some ⟨2, 2, [], sm__law_minus⟩ := rfl
theorem P__law_product : tabP T f__law_product = some ⟨2, 5, [], sm__law_product⟩ := rfl
theorem P_is_bar : tabP T f_is_bar = some ⟨3, 3, [], sm_is_bar⟩ := rfl
theorem P__law_is_bar : tabP T f__law_is_bar = some ⟨3, 9, [], sm__law_is_bar⟩ := rfl
theorem P__law_drawn_number : tabP T f__law_drawn_number = some ⟨1, 2, [], sm__law_drawn_number⟩ := rfl
theorem P__law_added : tabP T f__law_added = some ⟨2, 4, [], sm__law_added⟩ := rfl
theorem P__law_barred_room : tabP T f__law_barred_room = some ⟨3, 16, [], sm__law_barred_room⟩ := rfl
theorem P_summed : tabP T f_summed = some ⟨3, 3, [], sm_summed⟩ := rfl
theorem P__law_summed : tabP T f__law_summed = some ⟨3, 7, [], sm__law_summed⟩ := rfl
theorem P__law_weights : tabP T f__law_weights = some ⟨2, 3, [], sm__law_weights⟩ := rfl
theorem P_first_broken : tabP T f_first_broken = some ⟨3, 3, [], sm_first_broken⟩ := rfl
theorem P_does_hold : tabP T f_does_hold = some ⟨3, 3, [], sm_does_hold⟩ := rfl
theorem P__law_keeps : tabP T f__law_keeps = some ⟨2, 3, [], sm__law_keeps⟩ := rfl
theorem P_require_count : tabP T f_require_count = some ⟨3, 3, [.int 0, .int 60], sm_require_count⟩ := rfl
theorem P_is_number : tabP T f_is_number = some ⟨1, 2, [], sm_is_number⟩ := rfl
theorem P_is_plain_row : tabP T f_is_plain_row = some ⟨2, 3, [], sm_is_plain_row⟩ := rfl
theorem P__law_lowest : tabP T f__law_lowest = some ⟨2, 5, [], sm__law_lowest⟩ := rfl
theorem P__law_is_whole : tabP T f__law_is_whole = some ⟨1, 1, [], sm__law_is_whole⟩ := rfl
theorem P_is_for_none_by : tabP T f_is_for_none_by = some ⟨1, 1, [], sm_is_for_none_by⟩ := rfl
theorem P_require_fenced : tabP T f_require_fenced = some ⟨2, 2, [], sm_require_fenced⟩ := rfl
theorem P__law_is_less : tabP T f__law_is_less = some ⟨2, 2, [], sm__law_is_less⟩ := rfl
theorem P_is_for_all_by : tabP T f_is_for_all_by = some ⟨1, 4, [], sm_is_for_all_by⟩ := rfl
theorem P_scaled : tabP T f_scaled = some ⟨1, 3, [], sm_scaled⟩ := rfl
theorem P_is_rest : tabP T f_is_rest = some ⟨1, 1, [], sm_is_rest⟩ := rfl
theorem P_require_fence : tabP T f_require_fence = some ⟨2, 2, [], sm_require_fence⟩ := rfl
theorem P_multiplied : tabP T f_multiplied = some ⟨2, 2, [], sm_multiplied⟩ := rfl
theorem P_times_row : tabP T f_times_row = some ⟨2, 3, [], sm_times_row⟩ := rfl
theorem P_require_number : tabP T f_require_number = some ⟨1, 1, [], sm_require_number⟩ := rfl
theorem P_keeps_by : tabP T f_keeps_by = some ⟨2, 3, [], sm_keeps_by⟩ := rfl
theorem P_require_row : tabP T f_require_row = some ⟨2, 2, [], sm_require_row⟩ := rfl
theorem P_opposite_by : tabP T f_opposite_by = some ⟨1, 4, [], sm_opposite_by⟩ := rfl
theorem P_is_bar_by : tabP T f_is_bar_by = some ⟨3, 7, [], sm_is_bar_by⟩ := rfl
theorem P_require_roomed : tabP T f_require_roomed = some ⟨2, 2, [], sm_require_roomed⟩ := rfl
theorem P_summed_by : tabP T f_summed_by = some ⟨3, 7, [], sm_summed_by⟩ := rfl
theorem P_are_weights : tabP T f_are_weights = some ⟨2, 3, [], sm_are_weights⟩ := rfl
theorem P_broken_by : tabP T f_broken_by = some ⟨2, 4, [], sm_broken_by⟩ := rfl
theorem P_holds_by : tabP T f_holds_by = some ⟨2, 2, [], sm_holds_by⟩ := rfl
theorem P_is_integer : tabP T f_is_integer = some ⟨1, 1, [], sm_is_integer⟩ := rfl
theorem P_common_divisor : tabP T f_common_divisor = some ⟨2, 2, [], sm_common_divisor⟩ := rfl
theorem P_first_index : tabP T f_first_index = some ⟨1, 3, [], sm_first_index⟩ := rfl
theorem P_reduced : tabP T f_reduced = some ⟨2, 3, [], sm_reduced⟩ := rfl
theorem P_added : tabP T f_added = some ⟨2, 2, [], sm_added⟩ := rfl
theorem P_opposite_numbers : tabP T f_opposite_numbers = some ⟨1, 1, [], sm_opposite_numbers⟩ := rfl
theorem P_product_of : tabP T f_product_of = some ⟨2, 5, [], sm_product_of⟩ := rfl
theorem P_require_room : tabP T f_require_room = some ⟨2, 2, [], sm_require_room⟩ := rfl
theorem P_sum_of_rows : tabP T f_sum_of_rows = some ⟨2, 4, [], sm_sum_of_rows⟩ := rfl
theorem P_rest_row : tabP T f_rest_row = some ⟨1, 1, [], sm_rest_row⟩ := rfl
theorem den_law : denSs (denS fuel ⟨gl, dt_law.N⟩ (defScope (top 99))) (defBody (top 99)) = some sm_law := by kernel_rfl
theorem ok_law : T1 gl dt_law := ⟨⟨rfl, rfl, rfl, by decide +kernel, rfl, by decide +kernel, by decide +kernel⟩, den_law, fun _ _ _ _ _ _ _ _ => rfl, Nat.zero_le _, .inl ⟨rfl, fun _ _ _ _ _ _ us hl => match us, hl with | [_], _ => rfl⟩⟩
theorem den__law_right : denSs (denS fuel ⟨gl, dt__law_right.N⟩ (defScope (top 98))) (defBody (top 98)) = some sm__law_right := by kernel_rfl
theorem ok__law_right : T1 gl dt__law_right := ⟨⟨rfl, rfl, rfl, by decide +kernel, rfl, by decide +kernel, by decide +kernel⟩, den__law_right, fun _ _ _ _ _ _ _ _ => rfl, Nat.zero_le _, .inl ⟨rfl, fun _ _ _ _ _ _ us hl => match us, hl with | [_], _ => rfl⟩⟩
theorem den__law_jar : denSs (denS fuel ⟨gl, dt__law_jar.N⟩ (defScope (top 65))) (defBody (top 65)) = some sm__law_jar := by kernel_rfl
theorem ok__law_jar : T1 gl dt__law_jar := ⟨⟨rfl, rfl, rfl, by decide +kernel, rfl, by decide +kernel, by decide +kernel⟩, den__law_jar, fun _ _ _ _ _ _ _ _ => rfl, Nat.zero_le _, .inl ⟨rfl, fun _ _ _ _ _ _ us hl => match us, hl with | [_, _], _ => rfl⟩⟩
theorem den_is_room : denSs (denS fuel ⟨gl, dt_is_room.N⟩ (defScope (top 51))) (defBody (top 51)) = some sm_is_room := by kernel_rfl
theorem ok_is_room : T1 gl dt_is_room := ⟨⟨rfl, rfl, rfl, by decide +kernel, rfl, by decide +kernel, by decide +kernel⟩, den_is_room, fun _ _ _ _ _ _ _ _ => rfl, Nat.zero_le _, .inl ⟨rfl, fun _ _ _ _ _ _ us hl => match us, hl with | [_, _], _ => rfl⟩⟩
theorem den__law_is_room : denSs (denS fuel ⟨gl, dt__law_is_room.N⟩ (defScope (top 88))) (defBody (top 88)) = some sm__law_is_room := by kernel_rfl
theorem ok__law_is_room : T1 gl dt__law_is_room := ⟨⟨rfl, rfl, rfl, by decide +kernel, rfl, by decide +kernel, by decide +kernel⟩, den__law_is_room, fun _ _ _ _ _ _ _ _ => rfl, Nat.zero_le _, .inl ⟨rfl, fun _ _ _ _ _ _ us hl => match us, hl with | [_, _, _], _ => rfl⟩⟩
theorem den__law_bent : denSs (denS fuel ⟨gl, dt__law_bent.N⟩ (defScope (top 82))) (defBody (top 82)) = some sm__law_bent := by kernel_rfl
theorem ok__law_bent : T1 gl dt__law_bent := ⟨⟨rfl, rfl, rfl, by decide +kernel, rfl, by decide +kernel, by decide +kernel⟩, den__law_bent, fun _ _ _ _ _ _ _ _ => rfl, Nat.zero_le _, .inl ⟨rfl, fun _ _ _ _ _ _ us hl => match us, hl with | [_, _], _ => rfl⟩⟩
theorem den_is_fence : denSs (denS fuel ⟨gl, dt_is_fence.N⟩ (defScope (top 50))) (defBody (top 50)) = some sm_is_fence := by kernel_rfl
theorem ok_is_fence : T1 gl dt_is_fence := ⟨⟨rfl, rfl, rfl, by decide +kernel, rfl, by decide +kernel, by decide +kernel⟩, den_is_fence, fun _ _ _ _ _ _ _ _ => rfl, Nat.zero_le _, .inl ⟨rfl, fun _ _ _ _ _ _ us hl => match us, hl with | [_, _], _ => rfl⟩⟩
theorem den__law_is_fence : denSs (denS fuel ⟨gl, dt__law_is_fence.N⟩ (defScope (top 87))) (defBody (top 87)) = some sm__law_is_fence := by kernel_rfl
theorem ok__law_is_fence : T1 gl dt__law_is_fence := ⟨⟨rfl, rfl, rfl, by decide +kernel, rfl, by decide +kernel, by decide +kernel⟩, den__law_is_fence, fun _ _ _ _ _ _ _ _ => rfl, Nat.zero_le _, .inl ⟨rfl, fun _ _ _ _ _ _ us hl => match us, hl with | [_, _], _ => rfl⟩⟩
theorem den__law_fences_right : denSs (denS fuel ⟨gl, dt__law_fences_right.N⟩ (defScope (top 97))) (defBody (top 97)) = some sm__law_fences_right := by kernel_rfl
theorem ok__law_fences_right : T1 gl dt__law_fences_right := ⟨⟨rfl, rfl, rfl, by decide +kernel, rfl, by decide +kernel, by decide +kernel⟩, den__law_fences_right, fun _ _ _ _ _ _ _ _ => rfl, Nat.zero_le _, .inl ⟨rfl, fun _ _ _ _ _ _ us hl => match us, hl with | [_, _, _, _], _ => rfl⟩⟩
theorem den__law_room_about : denSs (denS fuel ⟨gl, dt__law_room_about.N⟩ (defScope (top 90))) (defBody (top 90)) = some sm__law_room_about := by kernel_rfl
theorem ok__law_room_about : T1 gl dt__law_room_about := ⟨⟨rfl, rfl, rfl, by decide +kernel, rfl, by decide +kernel, by decide +kernel⟩, den__law_room_about, fun _ _ _ _ _ _ _ _ => rfl, Nat.zero_le _, .inl ⟨rfl, fun _ _ _ _ _ _ us hl => match us, hl with | [_, _, _, _], _ => rfl⟩⟩
theorem den__law_bars_right : denSs (denS fuel ⟨gl, dt__law_bars_right.N⟩ (defScope (top 94))) (defBody (top 94)) = some sm__law_bars_right := by kernel_rfl
theorem ok__law_bars_right : T1 gl dt__law_bars_right := ⟨⟨rfl, rfl, rfl, by decide +kernel, rfl, by decide +kernel, by decide +kernel⟩, den__law_bars_right, fun _ _ _ _ _ _ _ _ => rfl, Nat.zero_le _, .inl ⟨rfl, fun _ _ _ _ _ _ us hl => match us, hl with | [_, _], _ => rfl⟩⟩
theorem den__law_room_right : denSs (denS fuel ⟨gl, dt__law_room_right.N⟩ (defScope (top 93))) (defBody (top 93)) = some sm__law_room_right := by kernel_rfl
theorem ok__law_room_right : T1 gl dt__law_room_right := ⟨⟨rfl, rfl, rfl, by decide +kernel, rfl, by decide +kernel, by decide +kernel⟩, den__law_room_right, fun _ _ _ _ _ _ _ _ => rfl, Nat.zero_le _, .inl ⟨rfl, fun _ _ _ _ _ _ us hl => match us, hl with | [_, _, _, _], _ => rfl⟩⟩
theorem den__law_one_of : denSs (denS fuel ⟨gl, dt__law_one_of.N⟩ (defScope (top 67))) (defBody (top 67)) = some sm__law_one_of := by kernel_rfl
theorem ok__law_one_of : T1 gl dt__law_one_of := ⟨⟨rfl, rfl, rfl, by decide +kernel, rfl, by decide +kernel, by decide +kernel⟩, den__law_one_of, fun _ _ _ _ _ _ _ _ => rfl, Nat.zero_le _, .inl ⟨rfl, fun _ _ _ _ _ _ us hl => match us, hl with | [_, _], _ => rfl⟩⟩
theorem den__law_drawn_row : denSs (denS fuel ⟨gl, dt__law_drawn_row.N⟩ (defScope (top 80))) (defBody (top 80)) = some sm__law_drawn_row := by kernel_rfl
theorem ok__law_drawn_row : T1 gl dt__law_drawn_row := ⟨⟨rfl, rfl, rfl, by decide +kernel, rfl, by decide +kernel, by decide +kernel⟩, den__law_drawn_row, fun _ _ _ _ _ _ _ _ => rfl, Nat.zero_le _, .inl ⟨rfl, fun _ _ _ _ _ _ us hl => match us, hl with | [_, _, _], _ => rfl⟩⟩
theorem den__law_size : denSs (denS fuel ⟨gl, dt__law_size.N⟩ (defScope (top 92))) (defBody (top 92)) = some sm__law_size := by kernel_rfl
theorem ok__law_size : T1 gl dt__law_size := ⟨⟨rfl, rfl, rfl, by decide +kernel, rfl, by decide +kernel, by decide +kernel⟩, den__law_size, fun _ _ _ _ _ _ _ _ => rfl, Nat.zero_le _, .inl ⟨rfl, fun _ _ _ _ _ _ us hl => match us, hl with | [_], _ => rfl⟩⟩
theorem den_is_plain_room : denSs (denS fuel ⟨gl, dt_is_plain_room.N⟩ (defScope (top 35))) (defBody (top 35)) = some sm_is_plain_room := by kernel_rfl
theorem ok_is_plain_room : T1 gl dt_is_plain_room := ⟨⟨rfl, rfl, rfl, by decide +kernel, rfl, by decide +kernel, by decide +kernel⟩, den_is_plain_room, fun _ _ _ _ _ _ _ _ => rfl, Nat.zero_le _, .inl ⟨rfl, fun _ _ _ _ _ _ us hl => match us, hl with | [_, _], _ => rfl⟩⟩
theorem den_require_width : denSs (denS fuel ⟨gl, dt_require_width.N⟩ (defScope (top 33))) (defBody (top 33)) = some sm_require_width := by kernel_rfl
theorem ok_require_width : T1 gl dt_require_width := ⟨⟨rfl, rfl, rfl, by decide +kernel, rfl, by decide +kernel, by decide +kernel⟩, den_require_width, fun _ _ _ _ _ _ _ _ => rfl, Nat.zero_le _, .inl ⟨rfl, fun _ _ _ _ _ _ us hl => match us, hl with | [_], _ => rfl⟩⟩
theorem den__law_dip : denSs (denS fuel ⟨gl, dt__law_dip.N⟩ (defScope (top 66))) (defBody (top 66)) = some sm__law_dip := by kernel_rfl
theorem ok__law_dip : T1 gl dt__law_dip := ⟨⟨rfl, rfl, rfl, by decide +kernel, rfl, by decide +kernel, by decide +kernel⟩, den__law_dip, fun _ _ _ _ _ _ _ _ => rfl, Nat.zero_le _, .inl ⟨rfl, fun _ _ _ _ _ _ us hl => match us, hl with | [_, _], _ => rfl⟩⟩
theorem den_is_plain_fence : denSs (denS fuel ⟨gl, dt_is_plain_fence.N⟩ (defScope (top 34))) (defBody (top 34)) = some sm_is_plain_fence := by kernel_rfl
theorem ok_is_plain_fence : T1 gl dt_is_plain_fence := ⟨⟨rfl, rfl, rfl, by decide +kernel, rfl, by decide +kernel, by decide +kernel⟩, den_is_plain_fence, fun _ _ _ _ _ _ _ _ => rfl, Nat.zero_le _, .inl ⟨rfl, fun _ _ _ _ _ _ us hl => match us, hl with | [_, _], _ => rfl⟩⟩
theorem den__law_is_number : denSs (denS fuel ⟨gl, dt__law_is_number.N⟩ (defScope (top 77))) (defBody (top 77)) = some sm__law_is_number := by kernel_rfl
theorem ok__law_is_number : T1 gl dt__law_is_number := ⟨⟨rfl, rfl, rfl, by decide +kernel, rfl, by decide +kernel, by decide +kernel⟩, den__law_is_number, fun _ _ _ _ _ _ _ _ => rfl, Nat.zero_le _, .inl ⟨rfl, fun _ _ _ _ _ _ us hl => match us, hl with | [_], _ => rfl⟩⟩
theorem den__law_is_row : denSs (denS fuel ⟨gl, dt__law_is_row.N⟩ (defScope (top 78))) (defBody (top 78)) = some sm__law_is_row := by kernel_rfl
theorem ok__law_is_row : T1 gl dt__law_is_row := ⟨⟨rfl, rfl, rfl, by decide +kernel, rfl, by decide +kernel, by decide +kernel⟩, den__law_is_row, fun _ _ _ _ _ _ _ _ => rfl, Nat.zero_le _, .inl ⟨rfl, fun _ _ _ _ _ _ us hl => match us, hl with | [_, _], _ => rfl⟩⟩
theorem den__law_plus : denSs (denS fuel ⟨gl, dt__law_plus.N⟩ (defScope (top 70))) (defBody (top 70)) = some sm__law_plus := by kernel_rfl
theorem ok__law_plus : T1 gl dt__law_plus := ⟨⟨rfl, rfl, rfl, by decide +kernel, rfl, by decide +kernel, by decide +kernel⟩, den__law_plus, fun _ _ _ _ _ _ _ _ => rfl, Nat.zero_le _, .inl ⟨rfl, fun _ _ _ _ _ _ us hl => match us, hl with | [_, _], _ => rfl⟩⟩
theorem den_is_for_none : denSs (denS fuel ⟨gl, dt_is_for_none.N⟩ (defScope (top 60))) (defBody (top 60)) = some sm_is_for_none := by kernel_rfl
theorem ok_is_for_none : T1 gl dt_is_for_none := ⟨⟨rfl, rfl, rfl, by decide +kernel, rfl, by decide +kernel, by decide +kernel⟩, den_is_for_none, fun _ _ _ _ _ _ _ _ => rfl, Nat.zero_le _, .inl ⟨rfl, fun _ _ _ _ _ _ us hl => match us, hl with | [_, _], _ => rfl⟩⟩
theorem den__law_truth_of : denSs (denS fuel ⟨gl, dt__law_truth_of.N⟩ (defScope (top 95))) (defBody (top 95)) = some sm__law_truth_of := by kernel_rfl
theorem ok__law_truth_of : T1 gl dt__law_truth_of := ⟨⟨rfl, rfl, rfl, by decide +kernel, rfl, by decide +kernel, by decide +kernel⟩, den__law_truth_of, fun _ _ _ _ _ _ _ _ => rfl, Nat.zero_le _, .inl ⟨rfl, fun _ _ _ _ _ _ us hl => match us, hl with | [_], _ => rfl⟩⟩
theorem den_is_for_all : denSs (denS fuel ⟨gl, dt_is_for_all.N⟩ (defScope (top 59))) (defBody (top 59)) = some sm_is_for_all := by kernel_rfl
theorem ok_is_for_all : T1 gl dt_is_for_all := ⟨⟨rfl, rfl, rfl, by decide +kernel, rfl, by decide +kernel, by decide +kernel⟩, den_is_for_all, fun _ _ _ _ _ _ _ _ => rfl, Nat.zero_le _, .inl ⟨rfl, fun _ _ _ _ _ _ us hl => match us, hl with | [_, _], _ => rfl⟩⟩
theorem den_are_alike : denSs (denS fuel ⟨gl, dt_are_alike.N⟩ (defScope (top 62))) (defBody (top 62)) = some sm_are_alike := by kernel_rfl
theorem ok_are_alike : T1 gl dt_are_alike := ⟨⟨rfl, rfl, rfl, by decide +kernel, rfl, by decide +kernel, by decide +kernel⟩, den_are_alike, fun _ _ _ _ _ _ _ _ => rfl, Nat.zero_le _, .inl ⟨rfl, fun _ _ _ _ _ _ us hl => match us, hl with | [_, _, _], _ => rfl⟩⟩
theorem den__law_are_alike : denSs (denS fuel ⟨gl, dt__law_are_alike.N⟩ (defScope (top 96))) (defBody (top 96)) = some sm__law_are_alike := by kernel_rfl
theorem ok__law_are_alike : T1 gl dt__law_are_alike := ⟨⟨rfl, rfl, rfl, by decide +kernel, rfl, by decide +kernel, by decide +kernel⟩, den__law_are_alike, fun _ _ _ _ _ _ _ _ => rfl, Nat.zero_le _, .inl ⟨rfl, fun _ _ _ _ _ _ us hl => match us, hl with | [_, _], _ => rfl⟩⟩
theorem den_times_fence : denSs (denS fuel ⟨gl, dt_times_fence.N⟩ (defScope (top 63))) (defBody (top 63)) = some sm_times_fence := by kernel_rfl
theorem ok_times_fence : T1 gl dt_times_fence := ⟨⟨rfl, rfl, rfl, by decide +kernel, rfl, by decide +kernel, by decide +kernel⟩, den_times_fence, fun _ _ _ _ _ _ _ _ => rfl, Nat.zero_le _, .inl ⟨rfl, fun _ _ _ _ _ _ us hl => match us, hl with | [_, _, _], _ => rfl⟩⟩
theorem den__law_times : denSs (denS fuel ⟨gl, dt__law_times.N⟩ (defScope (top 71))) (defBody (top 71)) = some sm__law_times := by kernel_rfl
theorem ok__law_times : T1 gl dt__law_times := ⟨⟨rfl, rfl, rfl, by decide +kernel, rfl, by decide +kernel, by decide +kernel⟩, den__law_times, fun _ _ _ _ _ _ _ _ => rfl, Nat.zero_le _, .inl ⟨rfl, fun _ _ _ _ _ _ us hl => match us, hl with | [_, _], _ => rfl⟩⟩
theorem den__law_scaled : denSs (denS fuel ⟨gl, dt__law_scaled.N⟩ (defScope (top 75))) (defBody (top 75)) = some sm__law_scaled := by kernel_rfl
theorem ok__law_scaled : T1 gl dt__law_scaled := ⟨⟨rfl, rfl, rfl, by decide +kernel, rfl, by decide +kernel, by decide +kernel⟩, den__law_scaled, fun _ _ _ _ _ _ _ _ => rfl, Nat.zero_le _, .inl ⟨rfl, fun _ _ _ _ _ _ us hl => match us, hl with | [_, _], _ => rfl⟩⟩
theorem den__law_some_times : denSs (denS fuel ⟨gl, dt__law_some_times.N⟩ (defScope (top 81))) (defBody (top 81)) = some sm__law_some_times := by kernel_rfl
theorem ok__law_some_times : T1 gl dt__law_some_times := ⟨⟨rfl, rfl, rfl, by decide +kernel, rfl, by decide +kernel, by decide +kernel⟩, den__law_some_times, fun _ _ _ _ _ _ _ _ => rfl, Nat.zero_le _, .inl ⟨rfl, fun _ _ _ _ _ _ us hl => match us, hl with | [_], _ => rfl⟩⟩
theorem den_keeps : denSs (denS fuel ⟨gl, dt_keeps.N⟩ (defScope (top 54))) (defBody (top 54)) = some sm_keeps := by kernel_rfl
theorem ok_keeps : T1 gl dt_keeps := ⟨⟨rfl, rfl, rfl, by decide +kernel, rfl, by decide +kernel, by decide +kernel⟩, den_keeps, fun _ _ _ _ _ _ _ _ => rfl, Nat.zero_le _, .inl ⟨rfl, fun _ _ _ _ _ _ us hl => match us, hl with | [_, _, _], _ => rfl⟩⟩
theorem den_opposite_rooms : denSs (denS fuel ⟨gl, dt_opposite_rooms.N⟩ (defScope (top 52))) (defBody (top 52)) = some sm_opposite_rooms := by kernel_rfl
theorem ok_opposite_rooms : T1 gl dt_opposite_rooms := ⟨⟨rfl, rfl, rfl, by decide +kernel, rfl, by decide +kernel, by decide +kernel⟩, den_opposite_rooms, fun _ _ _ _ _ _ _ _ => rfl, Nat.zero_le _, .inl ⟨rfl, fun _ _ _ _ _ _ us hl => match us, hl with | [_, _], _ => rfl⟩⟩
theorem den__law_opposite : denSs (denS fuel ⟨gl, dt__law_opposite.N⟩ (defScope (top 85))) (defBody (top 85)) = some sm__law_opposite := by kernel_rfl
theorem ok__law_opposite : T1 gl dt__law_opposite := ⟨⟨rfl, rfl, rfl, by decide +kernel, rfl, by decide +kernel, by decide +kernel⟩, den__law_opposite, fun _ _ _ _ _ _ _ _ => rfl, Nat.zero_le _, .inl ⟨rfl, fun _ _ _ _ _ _ us hl => match us, hl with | [_], _ => rfl⟩⟩
theorem den__law_minus : denSs (denS fuel ⟨gl, dt__law_minus.N⟩ (defScope (top 72))) (defBody (top 72)) = some sm__law_minus := by kernel_rfl
theorem ok__law_minus : T1 gl dt__law_minus := ⟨⟨rfl, rfl, rfl, by decide +kernel, rfl, by decide +kernel, by decide +kernel⟩, den__law_minus, fun _ _ _ _ _ _ _ _ => rfl, Nat.zero_le _, .inl ⟨rfl, fun _ _ _ _ _ _ us hl => match us, hl with | [_, _], _ => rfl⟩⟩
theorem den__law_product : denSs (denS fuel ⟨gl, dt__law_product.N⟩ (defScope (top 74))) (defBody (top 74)) = some sm__law_product := by kernel_rfl
theorem ok__law_product : T1 gl dt__law_product := ⟨⟨rfl, rfl, rfl, by decide +kernel, rfl, by decide +kernel, by decide +kernel⟩, den__law_product, fun _ _ _ _ _ _ _ _ => rfl, Nat.zero_le _, .inl ⟨rfl, fun _ _ _ _ _ _ us hl => match us, hl with | [_, _], _ => rfl⟩⟩
theorem den_is_bar : denSs (denS fuel ⟨gl, dt_is_bar.N⟩ (defScope (top 58))) (defBody (top 58)) = some sm_is_bar := by kernel_rfl
theorem ok_is_bar : T1 gl dt_is_bar := ⟨⟨rfl, rfl, rfl, by decide +kernel, rfl, by decide +kernel, by decide +kernel⟩, den_is_bar, fun _ _ _ _ _ _ _ _ => rfl, Nat.zero_le _, .inl ⟨rfl, fun _ _ _ _ _ _ us hl => match us, hl with | [_, _, _], _ => rfl⟩⟩
theorem den__law_is_bar : denSs (denS fuel ⟨gl, dt__law_is_bar.N⟩ (defScope (top 89))) (defBody (top 89)) = some sm__law_is_bar := by kernel_rfl
theorem ok__law_is_bar : T1 gl dt__law_is_bar := ⟨⟨rfl, rfl, rfl, by decide +kernel, rfl, by decide +kernel, by decide +kernel⟩, den__law_is_bar, fun _ _ _ _ _ _ _ _ => rfl, Nat.zero_le _, .inl ⟨rfl, fun _ _ _ _ _ _ us hl => match us, hl with | [_, _, _], _ => rfl⟩⟩
theorem den__law_drawn_number : denSs (denS fuel ⟨gl, dt__law_drawn_number.N⟩ (defScope (top 79))) (defBody (top 79)) = some sm__law_drawn_number := by kernel_rfl
theorem ok__law_drawn_number : T1 gl dt__law_drawn_number := ⟨⟨rfl, rfl, rfl, by decide +kernel, rfl, by decide +kernel, by decide +kernel⟩, den__law_drawn_number, fun _ _ _ _ _ _ _ _ => rfl, Nat.zero_le _, .inl ⟨rfl, fun _ _ _ _ _ _ us hl => match us, hl with | [_], _ => rfl⟩⟩
theorem den__law_added : denSs (denS fuel ⟨gl, dt__law_added.N⟩ (defScope (top 76))) (defBody (top 76)) = some sm__law_added := by kernel_rfl
theorem ok__law_added : T1 gl dt__law_added := ⟨⟨rfl, rfl, rfl, by decide +kernel, rfl, by decide +kernel, by decide +kernel⟩, den__law_added, fun _ _ _ _ _ _ _ _ => rfl, Nat.zero_le _, .inl ⟨rfl, fun _ _ _ _ _ _ us hl => match us, hl with | [_, _], _ => rfl⟩⟩
theorem den__law_barred_room : denSs (denS fuel ⟨gl, dt__law_barred_room.N⟩ (defScope (top 91))) (defBody (top 91)) = some sm__law_barred_room := by kernel_rfl
theorem ok__law_barred_room : T1 gl dt__law_barred_room := ⟨⟨rfl, rfl, rfl, by decide +kernel, rfl, by decide +kernel, by decide +kernel⟩, den__law_barred_room, fun _ _ _ _ _ _ _ _ => rfl, Nat.zero_le _, .inl ⟨rfl, fun _ _ _ _ _ _ us hl => match us, hl with | [_, _, _], _ => rfl⟩⟩
theorem den_summed : denSs (denS fuel ⟨gl, dt_summed.N⟩ (defScope (top 57))) (defBody (top 57)) = some sm_summed := by kernel_rfl
theorem ok_summed : T1 gl dt_summed := ⟨⟨rfl, rfl, rfl, by decide +kernel, rfl, by decide +kernel, by decide +kernel⟩, den_summed, fun _ _ _ _ _ _ _ _ => rfl, Nat.zero_le _, .inl ⟨rfl, fun _ _ _ _ _ _ us hl => match us, hl with | [_, _, _], _ => rfl⟩⟩
theorem den__law_summed : denSs (denS fuel ⟨gl, dt__law_summed.N⟩ (defScope (top 86))) (defBody (top 86)) = some sm__law_summed := by kernel_rfl
theorem ok__law_summed : T1 gl dt__law_summed := ⟨⟨rfl, rfl, rfl, by decide +kernel, rfl, by decide +kernel, by decide +kernel⟩, den__law_summed, fun _ _ _ _ _ _ _ _ => rfl, Nat.zero_le _, .inl ⟨rfl, fun _ _ _ _ _ _ us hl => match us, hl with | [_, _, _], _ => rfl⟩⟩
theorem den__law_weights : denSs (denS fuel ⟨gl, dt__law_weights.N⟩ (defScope (top 83))) (defBody (top 83)) = some sm__law_weights := by kernel_rfl
theorem ok__law_weights : T1 gl dt__law_weights := ⟨⟨rfl, rfl, rfl, by decide +kernel, rfl, by decide +kernel, by decide +kernel⟩, den__law_weights, fun _ _ _ _ _ _ _ _ => rfl, Nat.zero_le _, .inl ⟨rfl, fun _ _ _ _ _ _ us hl => match us, hl with | [_, _], _ => rfl⟩⟩
theorem den_first_broken : denSs (denS fuel ⟨gl, dt_first_broken.N⟩ (defScope (top 56))) (defBody (top 56)) = some sm_first_broken := by kernel_rfl
theorem ok_first_broken : T1 gl dt_first_broken := ⟨⟨rfl, rfl, rfl, by decide +kernel, rfl, by decide +kernel, by decide +kernel⟩, den_first_broken, fun _ _ _ _ _ _ _ _ => rfl, Nat.zero_le _, .inl ⟨rfl, fun _ _ _ _ _ _ us hl => match us, hl with | [_, _, _], _ => rfl⟩⟩
theorem den_does_hold : denSs (denS fuel ⟨gl, dt_does_hold.N⟩ (defScope (top 55))) (defBody (top 55)) = some sm_does_hold := by kernel_rfl
theorem ok_does_hold : T1 gl dt_does_hold := ⟨⟨rfl, rfl, rfl, by decide +kernel, rfl, by decide +kernel, by decide +kernel⟩, den_does_hold, fun _ _ _ _ _ _ _ _ => rfl, Nat.zero_le _, .inl ⟨rfl, fun _ _ _ _ _ _ us hl => match us, hl with | [_, _, _], _ => rfl⟩⟩
theorem den__law_keeps : denSs (denS fuel ⟨gl, dt__law_keeps.N⟩ (defScope (top 84))) (defBody (top 84)) = some sm__law_keeps := by kernel_rfl
theorem ok__law_keeps : T1 gl dt__law_keeps := ⟨⟨rfl, rfl, rfl, by decide +kernel, rfl, by decide +kernel, by decide +kernel⟩, den__law_keeps, fun _ _ _ _ _ _ _ _ => rfl, Nat.zero_le _, .inl ⟨rfl, fun _ _ _ _ _ _ us hl => match us, hl with | [_, _], _ => rfl⟩⟩
theorem den_require_count : denSs (denS fuel ⟨gl, dt_require_count.N⟩ (defScope (top 16))) (defBody (top 16)) = some sm_require_count := by kernel_rfl
theorem bd_require_count : BindD dt_require_count := by
  refine .inr ⟨List.cons_ne_nil _ _, fun j hj T kV doc pm an cdv ct us its hu hi => ?_⟩
  change j ≤ 2 at hj; change us.length + (2 - j) = 3 at hu; change its.length = 2 at hi
  obtain ⟨d0, d1, rfl⟩ := len2 hi
  rcases j with _ | _ | _ | j
  · obtain ⟨u0, rfl⟩ := len1 (us := us) (by omega); exact ⟨_, rfl, rfl⟩
  · obtain ⟨u0, u1, rfl⟩ := len2 (us := us) (by omega); exact ⟨_, rfl, rfl⟩
  · obtain ⟨u0, u1, u2, rfl⟩ := len3 (us := us) (by omega); exact ⟨_, rfl, rfl⟩
  · omega
theorem ok_require_count : T1 gl dt_require_count := ⟨⟨rfl, rfl, rfl, by decide +kernel, rfl, by decide +kernel, by decide +kernel⟩, den_require_count, fun K fa ca cf T rs μ H => ⟨_, _, rfl, rfl, ⟨_, _, rfl, rfl, rfl⟩⟩, by decide, bd_require_count⟩
theorem den_is_number : denSs (denS fuel ⟨gl, dt_is_number.N⟩ (defScope (top 13))) (defBody (top 13)) = some sm_is_number := by kernel_rfl
theorem ok_is_number : T1 gl dt_is_number := ⟨⟨rfl, rfl, rfl, by decide +kernel, rfl, by decide +kernel, by decide +kernel⟩, den_is_number, fun _ _ _ _ _ _ _ _ => rfl, Nat.zero_le _, .inl ⟨rfl, fun _ _ _ _ _ _ us hl => match us, hl with | [_], _ => rfl⟩⟩
theorem den_is_plain_row : denSs (denS fuel ⟨gl, dt_is_plain_row.N⟩ (defScope (top 22))) (defBody (top 22)) = some sm_is_plain_row := by kernel_rfl
theorem ok_is_plain_row : T1 gl dt_is_plain_row := ⟨⟨rfl, rfl, rfl, by decide +kernel, rfl, by decide +kernel, by decide +kernel⟩, den_is_plain_row, fun _ _ _ _ _ _ _ _ => rfl, Nat.zero_le _, .inl ⟨rfl, fun _ _ _ _ _ _ us hl => match us, hl with | [_, _], _ => rfl⟩⟩
theorem den__law_lowest : denSs (denS fuel ⟨gl, dt__law_lowest.N⟩ (defScope (top 69))) (defBody (top 69)) = some sm__law_lowest := by kernel_rfl
theorem ok__law_lowest : T1 gl dt__law_lowest := ⟨⟨rfl, rfl, rfl, by decide +kernel, rfl, by decide +kernel, by decide +kernel⟩, den__law_lowest, fun _ _ _ _ _ _ _ _ => rfl, Nat.zero_le _, .inl ⟨rfl, fun _ _ _ _ _ _ us hl => match us, hl with | [_, _], _ => rfl⟩⟩
theorem den__law_is_whole : denSs (denS fuel ⟨gl, dt__law_is_whole.N⟩ (defScope (top 68))) (defBody (top 68)) = some sm__law_is_whole := by kernel_rfl
theorem ok__law_is_whole : T1 gl dt__law_is_whole := ⟨⟨rfl, rfl, rfl, by decide +kernel, rfl, by decide +kernel, by decide +kernel⟩, den__law_is_whole, fun _ _ _ _ _ _ _ _ => rfl, Nat.zero_le _, .inl ⟨rfl, fun _ _ _ _ _ _ us hl => match us, hl with | [_], _ => rfl⟩⟩
theorem den_is_for_none_by : denSs (denS fuel ⟨gl, dt_is_for_none_by.N⟩ (defScope (top 49))) (defBody (top 49)) = some sm_is_for_none_by := by kernel_rfl
theorem ok_is_for_none_by : T1 gl dt_is_for_none_by := ⟨⟨rfl, rfl, rfl, by decide +kernel, rfl, by decide +kernel, by decide +kernel⟩, den_is_for_none_by, fun _ _ _ _ _ _ _ _ => rfl, Nat.zero_le _, .inl ⟨rfl, fun _ _ _ _ _ _ us hl => match us, hl with | [_], _ => rfl⟩⟩
theorem den_require_fenced : denSs (denS fuel ⟨gl, dt_require_fenced.N⟩ (defScope (top 39))) (defBody (top 39)) = some sm_require_fenced := by kernel_rfl
theorem ok_require_fenced : T1 gl dt_require_fenced := ⟨⟨rfl, rfl, rfl, by decide +kernel, rfl, by decide +kernel, by decide +kernel⟩, den_require_fenced, fun _ _ _ _ _ _ _ _ => rfl, Nat.zero_le _, .inl ⟨rfl, fun _ _ _ _ _ _ us hl => match us, hl with | [_, _], _ => rfl⟩⟩
theorem den__law_is_less : denSs (denS fuel ⟨gl, dt__law_is_less.N⟩ (defScope (top 73))) (defBody (top 73)) = some sm__law_is_less := by kernel_rfl
theorem ok__law_is_less : T1 gl dt__law_is_less := ⟨⟨rfl, rfl, rfl, by decide +kernel, rfl, by decide +kernel, by decide +kernel⟩, den__law_is_less, fun _ _ _ _ _ _ _ _ => rfl, Nat.zero_le _, .inl ⟨rfl, fun _ _ _ _ _ _ us hl => match us, hl with | [_, _], _ => rfl⟩⟩
theorem den_is_for_all_by : denSs (denS fuel ⟨gl, dt_is_for_all_by.N⟩ (defScope (top 48))) (defBody (top 48)) = some sm_is_for_all_by := by kernel_rfl
theorem ok_is_for_all_by : T1 gl dt_is_for_all_by := ⟨⟨rfl, rfl, rfl, by decide +kernel, rfl, by decide +kernel, by decide +kernel⟩, den_is_for_all_by, fun _ _ _ _ _ _ _ _ => rfl, Nat.zero_le _, .inl ⟨rfl, fun _ _ _ _ _ _ us hl => match us, hl with | [_], _ => rfl⟩⟩
theorem den_scaled : denSs (denS fuel ⟨gl, dt_scaled.N⟩ (defScope (top 61))) (defBody (top 61)) = some sm_scaled := by kernel_rfl
theorem ok_scaled : T1 gl dt_scaled := ⟨⟨rfl, rfl, rfl, by decide +kernel, rfl, by decide +kernel, by decide +kernel⟩, den_scaled, fun _ _ _ _ _ _ _ _ => rfl, Nat.zero_le _, .inl ⟨rfl, fun _ _ _ _ _ _ us hl => match us, hl with | [_], _ => rfl⟩⟩
theorem den_is_rest : denSs (denS fuel ⟨gl, dt_is_rest.N⟩ (defScope (top 25))) (defBody (top 25)) = some sm_is_rest := by kernel_rfl
theorem ok_is_rest : T1 gl dt_is_rest := ⟨⟨rfl, rfl, rfl, by decide +kernel, rfl, by decide +kernel, by decide +kernel⟩, den_is_rest, fun _ _ _ _ _ _ _ _ => rfl, Nat.zero_le _, .inl ⟨rfl, fun _ _ _ _ _ _ us hl => match us, hl with | [_], _ => rfl⟩⟩
theorem den_require_fence : denSs (denS fuel ⟨gl, dt_require_fence.N⟩ (defScope (top 36))) (defBody (top 36)) = some sm_require_fence := by kernel_rfl
theorem ok_require_fence : T1 gl dt_require_fence := ⟨⟨rfl, rfl, rfl, by decide +kernel, rfl, by decide +kernel, by decide +kernel⟩, den_require_fence, fun _ _ _ _ _ _ _ _ => rfl, Nat.zero_le _, .inl ⟨rfl, fun _ _ _ _ _ _ us hl => match us, hl with | [_, _], _ => rfl⟩⟩
theorem den_multiplied : denSs (denS fuel ⟨gl, dt_multiplied.N⟩ (defScope (top 18))) (defBody (top 18)) = some sm_multiplied := by kernel_rfl
theorem ok_multiplied : T1 gl dt_multiplied := ⟨⟨rfl, rfl, rfl, by decide +kernel, rfl, by decide +kernel, by decide +kernel⟩, den_multiplied, fun _ _ _ _ _ _ _ _ => rfl, Nat.zero_le _, .inl ⟨rfl, fun _ _ _ _ _ _ us hl => match us, hl with | [_, _], _ => rfl⟩⟩
theorem den_times_row : denSs (denS fuel ⟨gl, dt_times_row.N⟩ (defScope (top 27))) (defBody (top 27)) = some sm_times_row := by kernel_rfl
theorem ok_times_row : T1 gl dt_times_row := ⟨⟨rfl, rfl, rfl, by decide +kernel, rfl, by decide +kernel, by decide +kernel⟩, den_times_row, fun _ _ _ _ _ _ _ _ => rfl, Nat.zero_le _, .inl ⟨rfl, fun _ _ _ _ _ _ us hl => match us, hl with | [_, _], _ => rfl⟩⟩
theorem den_require_number : denSs (denS fuel ⟨gl, dt_require_number.N⟩ (defScope (top 15))) (defBody (top 15)) = some sm_require_number := by kernel_rfl
theorem ok_require_number : T1 gl dt_require_number := ⟨⟨rfl, rfl, rfl, by decide +kernel, rfl, by decide +kernel, by decide +kernel⟩, den_require_number, fun _ _ _ _ _ _ _ _ => rfl, Nat.zero_le _, .inl ⟨rfl, fun _ _ _ _ _ _ us hl => match us, hl with | [_], _ => rfl⟩⟩
theorem den_keeps_by : denSs (denS fuel ⟨gl, dt_keeps_by.N⟩ (defScope (top 42))) (defBody (top 42)) = some sm_keeps_by := by kernel_rfl
theorem ok_keeps_by : T1 gl dt_keeps_by := ⟨⟨rfl, rfl, rfl, by decide +kernel, rfl, by decide +kernel, by decide +kernel⟩, den_keeps_by, fun _ _ _ _ _ _ _ _ => rfl, Nat.zero_le _, .inl ⟨rfl, fun _ _ _ _ _ _ us hl => match us, hl with | [_, _], _ => rfl⟩⟩
theorem den_require_row : denSs (denS fuel ⟨gl, dt_require_row.N⟩ (defScope (top 38))) (defBody (top 38)) = some sm_require_row := by kernel_rfl
theorem ok_require_row : T1 gl dt_require_row := ⟨⟨rfl, rfl, rfl, by decide +kernel, rfl, by decide +kernel, by decide +kernel⟩, den_require_row, fun _ _ _ _ _ _ _ _ => rfl, Nat.zero_le _, .inl ⟨rfl, fun _ _ _ _ _ _ us hl => match us, hl with | [_, _], _ => rfl⟩⟩
theorem den_opposite_by : denSs (denS fuel ⟨gl, dt_opposite_by.N⟩ (defScope (top 41))) (defBody (top 41)) = some sm_opposite_by := by kernel_rfl
theorem ok_opposite_by : T1 gl dt_opposite_by := ⟨⟨rfl, rfl, rfl, by decide +kernel, rfl, by decide +kernel, by decide +kernel⟩, den_opposite_by, fun _ _ _ _ _ _ _ _ => rfl, Nat.zero_le _, .inl ⟨rfl, fun _ _ _ _ _ _ us hl => match us, hl with | [_], _ => rfl⟩⟩
theorem den_is_bar_by : denSs (denS fuel ⟨gl, dt_is_bar_by.N⟩ (defScope (top 47))) (defBody (top 47)) = some sm_is_bar_by := by kernel_rfl
theorem ok_is_bar_by : T1 gl dt_is_bar_by := ⟨⟨rfl, rfl, rfl, by decide +kernel, rfl, by decide +kernel, by decide +kernel⟩, den_is_bar_by, fun _ _ _ _ _ _ _ _ => rfl, Nat.zero_le _, .inl ⟨rfl, fun _ _ _ _ _ _ us hl => match us, hl with | [_, _, _], _ => rfl⟩⟩
theorem den_require_roomed : denSs (denS fuel ⟨gl, dt_require_roomed.N⟩ (defScope (top 40))) (defBody (top 40)) = some sm_require_roomed := by kernel_rfl
theorem ok_require_roomed : T1 gl dt_require_roomed := ⟨⟨rfl, rfl, rfl, by decide +kernel, rfl, by decide +kernel, by decide +kernel⟩, den_require_roomed, fun _ _ _ _ _ _ _ _ => rfl, Nat.zero_le _, .inl ⟨rfl, fun _ _ _ _ _ _ us hl => match us, hl with | [_, _], _ => rfl⟩⟩
theorem den_summed_by : denSs (denS fuel ⟨gl, dt_summed_by.N⟩ (defScope (top 46))) (defBody (top 46)) = some sm_summed_by := by kernel_rfl
theorem ok_summed_by : T1 gl dt_summed_by := ⟨⟨rfl, rfl, rfl, by decide +kernel, rfl, by decide +kernel, by decide +kernel⟩, den_summed_by, fun _ _ _ _ _ _ _ _ => rfl, Nat.zero_le _, .inl ⟨rfl, fun _ _ _ _ _ _ us hl => match us, hl with | [_, _, _], _ => rfl⟩⟩
theorem den_are_weights : denSs (denS fuel ⟨gl, dt_are_weights.N⟩ (defScope (top 45))) (defBody (top 45)) = some sm_are_weights := by kernel_rfl
theorem ok_are_weights : T1 gl dt_are_weights := ⟨⟨rfl, rfl, rfl, by decide +kernel, rfl, by decide +kernel, by decide +kernel⟩, den_are_weights, fun _ _ _ _ _ _ _ _ => rfl, Nat.zero_le _, .inl ⟨rfl, fun _ _ _ _ _ _ us hl => match us, hl with | [_, _], _ => rfl⟩⟩
theorem den_broken_by : denSs (denS fuel ⟨gl, dt_broken_by.N⟩ (defScope (top 43))) (defBody (top 43)) = some sm_broken_by := by kernel_rfl
theorem ok_broken_by : T1 gl dt_broken_by := ⟨⟨rfl, rfl, rfl, by decide +kernel, rfl, by decide +kernel, by decide +kernel⟩, den_broken_by, fun _ _ _ _ _ _ _ _ => rfl, Nat.zero_le _, .inl ⟨rfl, fun _ _ _ _ _ _ us hl => match us, hl with | [_, _], _ => rfl⟩⟩
theorem den_holds_by : denSs (denS fuel ⟨gl, dt_holds_by.N⟩ (defScope (top 44))) (defBody (top 44)) = some sm_holds_by := by kernel_rfl
theorem ok_holds_by : T1 gl dt_holds_by := ⟨⟨rfl, rfl, rfl, by decide +kernel, rfl, by decide +kernel, by decide +kernel⟩, den_holds_by, fun _ _ _ _ _ _ _ _ => rfl, Nat.zero_le _, .inl ⟨rfl, fun _ _ _ _ _ _ us hl => match us, hl with | [_, _], _ => rfl⟩⟩
theorem den_is_integer : denSs (denS fuel ⟨gl, dt_is_integer.N⟩ (defScope (top 11))) (defBody (top 11)) = some sm_is_integer := by kernel_rfl
theorem ok_is_integer : T1 gl dt_is_integer := ⟨⟨rfl, rfl, rfl, by decide +kernel, rfl, by decide +kernel, by decide +kernel⟩, den_is_integer, fun _ _ _ _ _ _ _ _ => rfl, Nat.zero_le _, .inl ⟨rfl, fun _ _ _ _ _ _ us hl => match us, hl with | [_], _ => rfl⟩⟩
theorem den_common_divisor : denSs (denS fuel ⟨gl, dt_common_divisor.N⟩ (defScope (top 12))) (defBody (top 12)) = some sm_common_divisor := by kernel_rfl
theorem ok_common_divisor : T1 gl dt_common_divisor := ⟨⟨rfl, rfl, rfl, by decide +kernel, rfl, by decide +kernel, by decide +kernel⟩, den_common_divisor, fun _ _ _ _ _ _ _ _ => rfl, Nat.zero_le _, .inl ⟨rfl, fun _ _ _ _ _ _ us hl => match us, hl with | [_, _], _ => rfl⟩⟩
theorem den_first_index : denSs (denS fuel ⟨gl, dt_first_index.N⟩ (defScope (top 23))) (defBody (top 23)) = some sm_first_index := by kernel_rfl
theorem ok_first_index : T1 gl dt_first_index := ⟨⟨rfl, rfl, rfl, by decide +kernel, rfl, by decide +kernel, by decide +kernel⟩, den_first_index, fun _ _ _ _ _ _ _ _ => rfl, Nat.zero_le _, .inl ⟨rfl, fun _ _ _ _ _ _ us hl => match us, hl with | [_], _ => rfl⟩⟩
theorem den_reduced : denSs (denS fuel ⟨gl, dt_reduced.N⟩ (defScope (top 14))) (defBody (top 14)) = some sm_reduced := by kernel_rfl
theorem ok_reduced : T1 gl dt_reduced := ⟨⟨rfl, rfl, rfl, by decide +kernel, rfl, by decide +kernel, by decide +kernel⟩, den_reduced, fun _ _ _ _ _ _ _ _ => rfl, Nat.zero_le _, .inl ⟨rfl, fun _ _ _ _ _ _ us hl => match us, hl with | [_, _], _ => rfl⟩⟩
theorem den_added : denSs (denS fuel ⟨gl, dt_added.N⟩ (defScope (top 17))) (defBody (top 17)) = some sm_added := by kernel_rfl
theorem ok_added : T1 gl dt_added := ⟨⟨rfl, rfl, rfl, by decide +kernel, rfl, by decide +kernel, by decide +kernel⟩, den_added, fun _ _ _ _ _ _ _ _ => rfl, Nat.zero_le _, .inl ⟨rfl, fun _ _ _ _ _ _ us hl => match us, hl with | [_, _], _ => rfl⟩⟩
theorem den_opposite_numbers : denSs (denS fuel ⟨gl, dt_opposite_numbers.N⟩ (defScope (top 19))) (defBody (top 19)) = some sm_opposite_numbers := by kernel_rfl
theorem ok_opposite_numbers : T1 gl dt_opposite_numbers := ⟨⟨rfl, rfl, rfl, by decide +kernel, rfl, by decide +kernel, by decide +kernel⟩, den_opposite_numbers, fun _ _ _ _ _ _ _ _ => rfl, Nat.zero_le _, .inl ⟨rfl, fun _ _ _ _ _ _ us hl => match us, hl with | [_], _ => rfl⟩⟩
theorem den_product_of : denSs (denS fuel ⟨gl, dt_product_of.N⟩ (defScope (top 28))) (defBody (top 28)) = some sm_product_of := by kernel_rfl
theorem ok_product_of : T1 gl dt_product_of := ⟨⟨rfl, rfl, rfl, by decide +kernel, rfl, by decide +kernel, by decide +kernel⟩, den_product_of, fun _ _ _ _ _ _ _ _ => rfl, Nat.zero_le _, .inl ⟨rfl, fun _ _ _ _ _ _ us hl => match us, hl with | [_, _], _ => rfl⟩⟩
theorem den_require_room : denSs (denS fuel ⟨gl, dt_require_room.N⟩ (defScope (top 37))) (defBody (top 37)) = some sm_require_room := by kernel_rfl
theorem ok_require_room : T1 gl dt_require_room := ⟨⟨rfl, rfl, rfl, by decide +kernel, rfl, by decide +kernel, by decide +kernel⟩, den_require_room, fun _ _ _ _ _ _ _ _ => rfl, Nat.zero_le _, .inl ⟨rfl, fun _ _ _ _ _ _ us hl => match us, hl with | [_, _], _ => rfl⟩⟩
theorem den_sum_of_rows : denSs (denS fuel ⟨gl, dt_sum_of_rows.N⟩ (defScope (top 26))) (defBody (top 26)) = some sm_sum_of_rows := by kernel_rfl
theorem ok_sum_of_rows : T1 gl dt_sum_of_rows := ⟨⟨rfl, rfl, rfl, by decide +kernel, rfl, by decide +kernel, by decide +kernel⟩, den_sum_of_rows, fun _ _ _ _ _ _ _ _ => rfl, Nat.zero_le _, .inl ⟨rfl, fun _ _ _ _ _ _ us hl => match us, hl with | [_, _], _ => rfl⟩⟩
theorem den_rest_row : denSs (denS fuel ⟨gl, dt_rest_row.N⟩ (defScope (top 24))) (defBody (top 24)) = some sm_rest_row := by kernel_rfl
theorem ok_rest_row : T1 gl dt_rest_row := ⟨⟨rfl, rfl, rfl, by decide +kernel, rfl, by decide +kernel, by decide +kernel⟩, den_rest_row, fun _ _ _ _ _ _ _ _ => rfl, Nat.zero_le _, .inl ⟨rfl, fun _ _ _ _ _ _ us hl => match us, hl with | [_], _ => rfl⟩⟩
theorem tok : TOk T gl := tok_of (all_cons ok_law (all_cons ok__law_right (all_cons ok__law_jar (all_cons ok_is_room (all_cons ok__law_is_room (all_cons ok__law_bent (all_cons ok_is_fence (all_cons ok__law_is_fence (all_cons ok__law_fences_right (all_cons ok__law_room_about (all_cons ok__law_bars_right (all_cons ok__law_room_right (all_cons ok__law_one_of (all_cons ok__law_drawn_row (all_cons ok__law_size (all_cons ok_is_plain_room (all_cons ok_require_width (all_cons ok__law_dip (all_cons ok_is_plain_fence (all_cons ok__law_is_number (all_cons ok__law_is_row (all_cons ok__law_plus (all_cons ok_is_for_none (all_cons ok__law_truth_of (all_cons ok_is_for_all (all_cons ok_are_alike (all_cons ok__law_are_alike (all_cons ok_times_fence (all_cons ok__law_times (all_cons ok__law_scaled (all_cons ok__law_some_times (all_cons ok_keeps (all_cons ok_opposite_rooms (all_cons ok__law_opposite (all_cons ok__law_minus (all_cons ok__law_product (all_cons ok_is_bar (all_cons ok__law_is_bar (all_cons ok__law_drawn_number (all_cons ok__law_added (all_cons ok__law_barred_room (all_cons ok_summed (all_cons ok__law_summed (all_cons ok__law_weights (all_cons ok_first_broken (all_cons ok_does_hold (all_cons ok__law_keeps (all_cons ok_require_count (all_cons ok_is_number (all_cons ok_is_plain_row (all_cons ok__law_lowest (all_cons ok__law_is_whole (all_cons ok_is_for_none_by (all_cons ok_require_fenced (all_cons ok__law_is_less (all_cons ok_is_for_all_by (all_cons ok_scaled (all_cons ok_is_rest (all_cons ok_require_fence (all_cons ok_multiplied (all_cons ok_times_row (all_cons ok_require_number (all_cons ok_keeps_by (all_cons ok_require_row (all_cons ok_opposite_by (all_cons ok_is_bar_by (all_cons ok_require_roomed (all_cons ok_summed_by (all_cons ok_are_weights (all_cons ok_broken_by (all_cons ok_holds_by (all_cons ok_is_integer (all_cons ok_common_divisor (all_cons ok_first_index (all_cons ok_reduced (all_cons ok_added (all_cons ok_opposite_numbers (all_cons ok_product_of (all_cons ok_require_room (all_cons ok_sum_of_rows (all_cons ok_rest_row (all_nil))))))))))))))))))))))))))))))))))))))))))))))))))))))))))))))))))))))))))))))))))
end K06

set_option Elab.async false
set_option linter.all false
set_option maxRecDepth 100000
set_option maxHeartbeats 1000000
namespace K06
open PySem PySem.Spec Pin
noncomputable abbrev P : Nat → Option Fn := tabP T
/-! ### numbers -/
theorem abs_eq (i : Int) : (if i < 0 then -i else i) = (i.natAbs : Int) := by split <;> omega
theorem fmod_nat (x y : Nat) : Int.fmod (x : Int) (y : Int) = ((x % y : Nat) : Int) := by
  rw [Int.fmod_eq_emod_of_nonneg _ (Int.natCast_nonneg _)]; rfl
theorem s_gcd (n : Nat) (a b : Int) (S : Store) : callF P (n + 1) f_common_divisor [.int a, .int b] S = .ok (.int (Int.gcd a b)) S := by
  refine call_clean P_common_divisor rfl rfl ?_
  simp [sm_common_divisor, startE, abs_eq]
  rw [while_gcd (fun x y => [some (.int x), some (.int y)])]
  · simp [Int.gcd]
  · intro x y S
    simp [bind_run, pure_run]
    cases y <;> simp
  · intro x y K S hy
    simp [bind_run, pure_run, hy, Pin.gName, Pin.gCons, Pin.gNil]
    rw [Int.fmod_eq_emod_of_nonneg _ (Int.natCast_nonneg _)]
/-- a number -/
def qd (r : Rat) : D := .tup [.int r.num, .int r.den]
@[simp] theorem qd_bare (r : Rat) : (qd r).noRefs = true := rfl
/-- whole, below 2 ^ e; below the line -/
theorem nat_log {x e : Nat} (h0 : 0 < e) (h : x < 2 ^ e) : x.log2 < e := by
  by_cases hx : x = 0
  · subst hx; simpa using h0
  · exact (Nat.log2_lt hx).mpr h
theorem mul_ok {i j : Int} {a b : Nat} (ha : i.natAbs < 2 ^ a) (hb : j.natAbs < 2 ^ b) (h : a + b ≤ 134000000) (h0 : 0 < a) (h1 : 0 < b) : mulOk i j = true := by
  unfold mulOk
  have x := nat_log h0 ha
  have y := nat_log h1 hb
  exact decide_eq_true (by omega)
theorem div_ok {j : Int} (h : j ≠ 0) (hb : j.natAbs < 2 ^ 9000) : divOk j = true := by
  unfold divOk
  rw [decide_eq_true h, decide_eq_true (nat_log (by decide) hb)]; rfl
theorem fdiv_dvd {a g : Int} (h : g ∣ a) : a.fdiv g = a / g := by
  exact Int.fdiv_eq_ediv_of_dvd h
theorem divInt_pos (a b : Int) (hb : 0 < b) : (Rat.divInt a b).num = a / (Int.gcd a b : Nat) ∧ ((Rat.divInt a b).den : Int) = b / (Int.gcd a b : Nat) := by
  obtain ⟨m, rfl⟩ := Int.eq_ofNat_of_zero_le (Int.le_of_lt hb)
  have hm : m ≠ 0 := by omega
  rw [show Rat.divInt a (m : Int) = Rat.normalize a m hm by simp [Rat.divInt, mkRat, hm]]
  rw [Rat.normalize_eq]
  constructor
  · simp [Int.gcd]
  · simp [Int.gcd]
theorem s_reduced (n : Nat) (a b : Int) (S : Store) (hb : b ≠ 0) (h9 : b.natAbs < 2 ^ 9000) : callF P (n + 2) f_reduced [.int a, .int b] S = .ok (qd (Rat.divInt a b)) S := by
  have key : ∀ a b : Int, 0 < b → b.natAbs < 2 ^ 9000 → divOk ((Int.gcd a b : Nat) : Int) = true ∧ a.fdiv ((Int.gcd a b : Nat) : Int) = (Rat.divInt a b).num ∧ b.fdiv ((Int.gcd a b : Nat) : Int) = ((Rat.divInt a b).den : Int) := by
    intro a b hb h9
    have hg : 0 < Int.gcd a b := Int.gcd_pos_of_ne_zero_right a (by omega)
    have hle : Int.gcd a b ≤ b.natAbs := Nat.le_of_dvd (by omega) (Int.gcd_dvd_natAbs_right a b)
    obtain ⟨h1, h2⟩ := divInt_pos a b hb
    refine ⟨div_ok (by omega) (by omega), ?_, ?_⟩
    · rw [fdiv_dvd (Int.gcd_dvd_left a b), h1]
    · rw [fdiv_dvd (Int.gcd_dvd_right a b), h2]
  refine call_clean P_reduced rfl rfl ?_
  by_cases h : b < 0
  · obtain ⟨k1, k2, k3⟩ := key (-a) (-b) (by omega) (by omega)
    rw [Int.neg_gcd, Int.gcd_neg] at k1 k2 k3
    simp [sm_reduced, startE, h, s_gcd, wp_cond, wp_tupM, k1, k2, k3]
    refine ⟨by decide, ?_⟩
    rw [Rat.neg_divInt_neg]; rfl
  · obtain ⟨k1, k2, k3⟩ := key a b (by omega) h9
    simp [sm_reduced, startE, h, s_gcd, wp_cond, wp_tupM, k1, k2, k3]
    exact ⟨by decide, rfl⟩
theorem divInt_1 (a : Int) : qd (Rat.divInt a 1) = D.tup [.int a, .int 1] := by
  obtain ⟨h1, h2⟩ := divInt_pos a 1 (by decide)
  unfold qd
  rw [h1, h2]; simp
theorem rat_add (x y : Rat) : Rat.divInt (x.num * y.den + y.num * x.den) (x.den * y.den) = x + y := by
  rw [Rat.add_def, Rat.normalize_eq_mkRat, ← Rat.divInt_ofNat]
  simp
theorem rat_mul (x y : Rat) : Rat.divInt (x.num * y.num) (x.den * y.den) = x * y := by
  rw [Rat.mul_def, Rat.normalize_eq_mkRat, ← Rat.divInt_ofNat]
  simp
/-- a number that the machine's limits bear -/
structure Ok (r : Rat) : Prop where
  den : r.den < 2 ^ 4400
  num : r.num.natAbs < 2 ^ 1000000
theorem len2l : 2 ≤ sizeLine := by decide
@[simp] theorem qd_0 {x : Rat} {i : Int} (h : i = 0) : ixM (qd x) (.int i) = pure (.int x.num) := by subst h; rfl
@[simp] theorem qd_1 {x : Rat} {i : Int} (h : i = 1) : ixM (qd x) (.int i) = pure (.int x.den) := by subst h; rfl
theorem dmul_ok {x y : Rat} (hx : Ok x) (hy : Ok y) : mulOk x.den y.den = true := mul_ok (a := 4400) (b := 4400) (by simpa using hx.den) (by simpa using hy.den) (by decide) (by decide) (by decide)
theorem nmul_ok {x y : Rat} (hx : Ok x) (hy : Ok y) : mulOk x.num y.num = true := mul_ok hx.num hy.num (by decide) (by decide) (by decide)
theorem xmul_ok {x y : Rat} (hx : Ok x) (hy : Ok y) : mulOk x.num y.den = true := mul_ok (b := 4400) hx.num (by simpa using hy.den) (by decide) (by decide) (by decide)
theorem dprod_ne (x y : Rat) : ((x.den : Int) * (y.den : Int)) ≠ 0 := Int.mul_ne_zero (by have := x.den_pos; omega) (by have := y.den_pos; omega)
theorem dprod_lt {x y : Rat} (hx : Ok x) (hy : Ok y) : ((x.den : Int) * (y.den : Int)).natAbs < 2 ^ 9000 := by
  rw [Int.natAbs_mul, Int.natAbs_natCast, Int.natAbs_natCast]
  calc x.den * y.den < 2 ^ 4400 * 2 ^ 4400 := Nat.mul_lt_mul'' hx.den hy.den
    _ = 2 ^ 8800 := by rw [← Nat.pow_add]
    _ ≤ 2 ^ 9000 := Nat.pow_le_pow_right (by decide) (by decide)
theorem toPy_int (S : Store) (n : Nat) (i : Int) : toPy S n (.int i) = some (.int i) := by cases n <;> rfl
@[simp] theorem eq_int {i j : Int} : eqM (.int i) (.int j) = pure (decide (i = j)) := by
  funext S
  unfold eqM eqB
  simp only [toPy_int]
  simp [PyData.eqv, pure_run]
  by_cases h : i = j <;> simp [h, lenDiff]
theorem s_red2 (n : Nat) (x y : Rat) (S : Store) (hx : Ok x) (hy : Ok y) (t : Int) : callF P (n + 2) f_reduced [.int t, .int ((x.den : Int) * y.den)] S = .ok (qd (Rat.divInt t (x.den * y.den))) S := s_reduced n _ _ S (dprod_ne x y) (dprod_lt hx hy)
theorem s_added (n : Nat) (x y : Rat) (S : Store) (hx : Ok x) (hy : Ok y) : callF P (n + 3) f_added [qd x, qd y] S = .ok (qd (x + y)) S := by
  refine call_clean P_added rfl rfl ?_
  have h1 : x.den = 1 → y.den = 1 → D.tup [D.int (x.num + y.num), D.int 1] = qd (x + y) := fun ex ey => by
    have := rat_add x y
    rw [ex, ey] at this
    simp at this
    rw [← this, divInt_1]
  have h2 := rat_add x y
  simp [sm_added, startE, xmul_ok hx hy, xmul_ok hy hx, dmul_ok hx hy, s_red2 _ x y _ hx hy, h2, wp_tupM]
  exact fun e e2 => ⟨len2l, h1 (by omega) (by omega)⟩
theorem s_multiplied (n : Nat) (x y : Rat) (S : Store) (hx : Ok x) (hy : Ok y) : callF P (n + 3) f_multiplied [qd x, qd y] S = .ok (qd (x * y)) S := by
  refine call_clean P_multiplied rfl rfl ?_
  have h1 : x.den = 1 → y.den = 1 → D.tup [D.int (x.num * y.num), D.int 1] = qd (x * y) := fun ex ey => by
    have := rat_mul x y
    rw [ex, ey] at this
    simp at this
    rw [← this, divInt_1]
  have h2 := rat_mul x y
  simp [sm_multiplied, startE, nmul_ok hx hy, dmul_ok hx hy, s_red2 _ x y _ hx hy, h2, wp_tupM]
  exact fun e e2 => ⟨len2l, h1 (by omega) (by omega)⟩
theorem s_opposite (n : Nat) (x : Rat) (S : Store) : callF P (n + 1) f_opposite_numbers [qd x] S = .ok (qd (-x)) S := by
  refine call_clean P_opposite_numbers rfl rfl ?_
  simp [sm_opposite_numbers, startE, wp_tupM]
  exact ⟨len2l, by simp [qd]⟩
/-! the law's own numbers -/
theorem gcd_div (a b : Int) (hb : 0 < b) : a.fdiv ((a.natAbs.gcd b.natAbs : Nat) : Int) = (Rat.divInt a b).num ∧ b.fdiv ((a.natAbs.gcd b.natAbs : Nat) : Int) = ((Rat.divInt a b).den : Int) := by
  obtain ⟨h1, h2⟩ := divInt_pos a b hb
  have e : a.natAbs.gcd b.natAbs = Int.gcd a b := rfl
  rw [e, fdiv_dvd (Int.gcd_dvd_left a b), fdiv_dvd (Int.gcd_dvd_right a b)]
  exact ⟨h1.symm, h2.symm⟩
theorem s_lowest (n : Nat) (a b : Int) (S : Store) (hb : b ≠ 0) (h9 : b.natAbs < 2 ^ 9000) (ha : a.natAbs < 2 ^ 3000000) : callF P (n + 1) f__law_lowest [.int a, .int b] S = .ok (qd (Rat.divInt a b)) S := by
  refine call_clean P__law_lowest rfl rfl ?_
  have m1 : mulOk 1 a = true := mul_ok (a := 1) (by decide) ha (by decide) (by decide) (by decide)
  have m2 : mulOk (-1) a = true := mul_ok (a := 1) (by decide) ha (by decide) (by decide) (by decide)
  have m3 : mulOk 1 b = true := mul_ok (a := 1) (by decide) h9 (by decide) (by decide) (by decide)
  have m4 : mulOk (-1) b = true := mul_ok (a := 1) (by decide) h9 (by decide) (by decide) (by decide)
  have hg : 0 < a.natAbs.gcd b.natAbs := Nat.gcd_pos_of_pos_right _ (by omega)
  have hle : a.natAbs.gcd b.natAbs ≤ b.natAbs := Nat.le_of_dvd (by omega) (Nat.gcd_dvd_right _ _)
  have d1 : divOk ((a.natAbs.gcd b.natAbs : Nat) : Int) = true := div_ok (by omega) (Nat.lt_of_le_of_lt (by simpa using hle) h9)
  simp [sm__law_lowest, startE, abs_eq]
  rw [while_gcd (fun x y => [some (.int a), some (.int b), some (.int x), some (.int y), none])]
  · simp [m1, m2, m3, m4, d1, wp_tupM]
    refine ⟨fun h => ?_, fun h => ?_⟩
    · obtain ⟨k1, k2⟩ := gcd_div a b h
      exact ⟨len2l, by rw [k1, k2]; rfl⟩
    · obtain ⟨k1, k2⟩ := gcd_div (-a) (-b) (by omega)
      rw [Int.natAbs_neg, Int.natAbs_neg] at k1 k2
      exact ⟨len2l, by rw [k1, k2, Rat.neg_divInt_neg]; rfl⟩
  · intro x y S
    simp [bind_run, pure_run]
  · intro x y K S hy
    simp [bind_run, pure_run, hy, Pin.gName, Pin.gCons, Pin.gNil]
    rw [Int.fmod_eq_emod_of_nonneg _ (Int.natCast_nonneg _)]
/-- within the limits, by a product's denominator -/
theorem s_low2 (n : Nat) (x y : Rat) (S : Store) (hx : Ok x) (hy : Ok y) (t : Int) (ht : t.natAbs < 2 ^ 3000000) : callF P (n + 1) f__law_lowest [.int t, .int ((x.den : Int) * y.den)] S = .ok (qd (Rat.divInt t (x.den * y.den))) S := s_lowest n _ _ S (dprod_ne x y) (dprod_lt hx hy) ht
theorem nprod_lt {x y : Rat} (hx : Ok x) (hy : Ok y) : (x.num * y.num).natAbs < 2 ^ 3000000 := by
  rw [Int.natAbs_mul]
  calc x.num.natAbs * y.num.natAbs < 2 ^ 1000000 * 2 ^ 1000000 := Nat.mul_lt_mul'' hx.num hy.num
    _ = 2 ^ 2000000 := by rw [← Nat.pow_add]
    _ ≤ 2 ^ 3000000 := Nat.pow_le_pow_right (by decide) (by decide)
theorem xprod_lt {x y : Rat} (hx : Ok x) (hy : Ok y) : (x.num * y.den).natAbs < 2 ^ 1004400 := by
  rw [Int.natAbs_mul, Int.natAbs_natCast]
  calc x.num.natAbs * y.den < 2 ^ 1000000 * 2 ^ 4400 := Nat.mul_lt_mul'' hx.num hy.den
    _ = 2 ^ 1004400 := by rw [← Nat.pow_add]
theorem sum_lt {i j : Int} {e f : Nat} (hi : i.natAbs < 2 ^ e) (hj : j.natAbs < 2 ^ e) (h : e + 1 ≤ f) : (i + j).natAbs < 2 ^ f := by
  have h1 : (i + j).natAbs ≤ i.natAbs + j.natAbs := Int.natAbs_add_le i j
  have h2 : 2 ^ (e + 1) ≤ 2 ^ f := Nat.pow_le_pow_right (by decide) h
  rw [Nat.pow_succ] at h2
  omega
theorem s_plus (n : Nat) (x y : Rat) (S : Store) (hx : Ok x) (hy : Ok y) : callF P (n + 2) f__law_plus [qd x, qd y] S = .ok (qd (x + y)) S := by
  refine call_clean P__law_plus rfl rfl ?_
  have h2 := rat_add x y
  have h3 := s_low2 n x y (hx := hx) (hy := hy) (t := x.num * y.den + y.num * x.den) (ht := sum_lt (xprod_lt hx hy) (xprod_lt hy hx) (by decide))
  simp [sm__law_plus, startE, xmul_ok hx hy, xmul_ok hy hx, dmul_ok hx hy, h3, h2]
theorem s_times (n : Nat) (x y : Rat) (S : Store) (hx : Ok x) (hy : Ok y) : callF P (n + 2) f__law_times [qd x, qd y] S = .ok (qd (x * y)) S := by
  refine call_clean P__law_times rfl rfl ?_
  have h2 := rat_mul x y
  have h3 := s_low2 n x y (hx := hx) (hy := hy) (t := x.num * y.num) (ht := nprod_lt hx hy)
  simp [sm__law_times, startE, nmul_ok hx hy, dmul_ok hx hy, h3, h2]
theorem Ok.neg {x : Rat} (h : Ok x) : Ok (-x) := ⟨by simpa using h.den, by simpa using h.num⟩
theorem qd_neg (x : Rat) : D.tup [.int (-x.num), .int x.den] = qd (-x) := by simp [qd]
theorem s_minus (n : Nat) (x y : Rat) (S : Store) (hx : Ok x) (hy : Ok y) : callF P (n + 3) f__law_minus [qd x, qd y] S = .ok (qd (x - y)) S := by
  refine call_clean P__law_minus rfl rfl ?_
  have h3 := s_plus n x (-y) (hx := hx) (hy := hy.neg)
  simp [sm__law_minus, startE, wp_tupM, qd_neg, h3, Rat.sub_eq_add_neg]
  exact len2l
theorem s_less (n : Nat) (x y : Rat) (S : Store) (hx : Ok x) (hy : Ok y) : callF P (n + 1) f__law_is_less [qd x, qd y] S = .ok (.bl (decide (x < y))) S := by
  refine call_clean P__law_is_less rfl rfl ?_
  simp [sm__law_is_less, startE, xmul_ok hx hy, xmul_ok hy hx, Rat.lt_iff]
end K06

set_option Elab.async false
set_option linter.all false
set_option maxRecDepth 100000
set_option maxHeartbeats 1000000
namespace K06
open PySem PySem.Spec Pin
/-! ### rows, and what is alike -/
def rowd (xs : List Rat) : D := .tup (xs.map qd)
def pq (r : Rat) : PyData := .tuple [.int r.num, .int r.den]
theorem rat_ext {x y : Rat} : (x.num = y.num ∧ x.den = y.den) ↔ x = y := ⟨fun h => Rat.ext h.1 h.2, fun h => by rw [h]; exact ⟨rfl, rfl⟩⟩
theorem toPy_qd (S : Store) (n : Nat) (r : Rat) : toPy S (n + 1) (qd r) = some (pq r) := by
  simp [toPy, qd, mapO, toPy_int, pq]
theorem mapO_map {α β γ : Type} {f : β → Option γ} {g : α → β} {h : α → γ} : ∀ (xs : List α), (∀ x ∈ xs, f (g x) = some (h x)) → mapO f (xs.map g) = some (xs.map h)
  | [], _ => rfl
  | x :: xs, H => by
    rw [List.map_cons, List.map_cons]
    unfold mapO
    rw [H x List.mem_cons_self, mapO_map xs fun y hy => H y (List.mem_cons_of_mem _ hy)]
theorem toPy_row (S : Store) (n : Nat) (xs : List Rat) : toPy S (n + 2) (rowd xs) = some (.tuple (xs.map pq)) := by
  show (mapO (toPy S (n + 1)) (xs.map qd)).map PyData.tuple = _
  rw [mapO_map xs fun x _ => toPy_qd S n x]; rfl
theorem eqv_pq (x y : Rat) : PyData.eqv (pq x) (pq y) = decide (x = y) := by
  simp [pq, PyData.eqv, PyData.eqvAll]
  by_cases e : x = y
  · subst e; simp
  · rw [decide_eq_false e]
    by_cases e1 : x.num = y.num
    · have : ¬ ((x.den : Int) = y.den) := fun e2 => e (Rat.ext e1 (by omega))
      simp [this]
    · simp [e1]
theorem eqvAll_pq : ∀ xs ys : List Rat, PyData.eqvAll (xs.map pq) (ys.map pq) = decide (xs = ys)
  | [], [] => rfl
  | [], _ :: _ => rfl
  | _ :: _, [] => rfl
  | x :: xs, y :: ys => by
    show (PyData.eqv (pq x) (pq y) && PyData.eqvAll (xs.map pq) (ys.map pq)) = _
    rw [eqv_pq, eqvAll_pq xs ys]
    by_cases h1 : x = y <;> by_cases h2 : xs = ys <;> simp [h1, h2]
theorem eqM_of {a b : D} {x y : PyData} {k : Bool} (hd : ∀ S, lenDiff S a b = false) (ha : ∀ S, toPy S 60 a = some x) (hb : ∀ S, toPy S 60 b = some y) (hk : PyData.eqv x y = k) : eqM a b = pure k := by
  funext S
  unfold eqM eqB
  rw [hd, if_neg (by decide), ha, hb]
  simp [hk, pure_run]
theorem eq_qd (x y : Rat) : eqM (qd x) (qd y) = pure (decide (x = y)) := eqM_of (fun _ => rfl) (fun S => toPy_qd S 59 x) (fun S => toPy_qd S 59 y) (eqv_pq x y)
theorem qd_zero : D.tup [.int 0, .int 1] = qd 0 := rfl
theorem eq_row (xs ys : List Rat) : eqM (rowd xs) (rowd ys) = pure (decide (xs = ys)) := eqM_of (fun _ => rfl) (fun S => toPy_row S 58 xs) (fun S => toPy_row S 58 ys) (eqvAll_pq xs ys)
@[simp] theorem row_bare (xs : List Rat) : (rowd xs).noRefs = true := by
  show D.noRefsL (xs.map qd) = true
  induction xs with
  | nil => rfl
  | cons x xs ih => show ((qd x).noRefs && D.noRefsL (xs.map qd)) = true; rw [ih]; rfl
theorem le_line {n : Nat} (h : n ≤ 1000) : n ≤ sizeLine := Nat.le_trans h (by decide)
theorem s_times_row (n : Nat) (a : Rat) (xs : List Rat) (S : Store) (ha : Ok a) (hx : ∀ x ∈ xs, Ok x) (hl : xs.length ≤ 1000) : callF P (n + 4) f_times_row [qd a, rowd xs] S = .ok (rowd (xs.map (a * ·))) S := by
  refine call_clean P_times_row rfl (row_bare _) ?_
  have key := lcL_map (gd := []) (g := Pin.gName 2) (e := eIf (Pin.tCmp .ne (eVar 2) (eCon (.tup [.int 0, .int 1]))) (eCall f_multiplied (lCons (eVar 0) (lCons (eVar 2) lNil))) (eCon (.tup [.int 0, .int 1]))) (c := callF P (n + 3)) (ρ := [some (qd a), some (rowd xs), none]) (S := S)
    qd (fun x => qd (a * x)) gd_nil xs fun x hx' => by
      by_cases h0 : x = 0
      · subst h0
        simp [qd_zero, eq_qd]
      · simp [qd_zero, eq_qd, h0, s_multiplied n a x S ha (hx x hx')]
  simp [sm_times_row, startE, rowd, wipeE]
  simp only [rowd] at key
  rw [key]
  simp [wp_fits, wp_getL get_end, wp_tupM, le_line hl]
end K06

set_option Elab.async false
set_option linter.all false
set_option maxRecDepth 100000
set_option maxHeartbeats 1000000
namespace K06
open PySem PySem.Spec Pin
theorem enum_map {α : Type} (f : α → D) (xs : List α) : enumD (xs.map f) = xs.zipIdx.map fun p => .tup [.int (p.2 : Nat), f p.1] := by
  have key : ∀ (xs : List α) (k : Nat), (List.range' k xs.length).zipWith (fun (i : Nat) x => D.tup [.int (i : Nat), x]) (xs.map f) = (xs.zipIdx k).map fun p => .tup [.int (p.2 : Nat), f p.1] := by
    intro xs
    induction xs with
    | nil => intro k; rfl
    | cons x xs ih => intro k; simp [List.range'_succ, ih (k + 1)]
  have := key xs 0
  unfold enumD
  rw [List.length_map, List.range_eq_range']
  exact this
def all0 (xs : List Rat) : Bool := xs.all fun x => decide (x = 0)
theorem s_first_index (n : Nat) (xs : List Rat) (S : Store) : ∃ v, callF P (n + 1) f_first_index [rowd xs] S = .ok v S ∧ v.noRefs = true ∧ ((all0 xs = true ∧ v = .non) ∨ (all0 xs = false ∧ ∃ i, v = .int i)) := by
  have h : WP (callF P (n + 1) f_first_index [rowd xs] S) (fun v S' => S' = S ∧ v.noRefs = true ∧ ((all0 xs = true ∧ v = .non) ∨ (all0 xs = false ∧ ∃ i, v = .int i))) := by
    refine call_wp P_first_index rfl ?_
    simp [sm_first_index, startE, rowd, enum_map]
    refine wp_for (fun ys ρ S' => ∃ (rest : List Rat) (k : Nat) (o1 o2 : Option D), ys = (rest.zipIdx k).map (fun p => D.tup [.int (p.2 : Nat), qd p.1]) ∧ ρ = [some (rowd xs), o1, o2] ∧ all0 xs = all0 rest ∧ S' = S) ?_ ?_ ?_ _ _ _ ⟨xs, 0, none, none, rfl, rfl, rfl, rfl⟩
    · intro ys ρ S' _; exact gd_nil
    · rintro ρ S' ⟨rest, k, o1, o2, h1, rfl, h3, rfl⟩
      cases rest with
      | nil =>
        have h4 : all0 xs = true := by rw [h3]; rfl
        simp [h4]
      | cons a r => simp at h1
    · rintro x ys ρ S' ⟨rest, k, o1, o2, h1, rfl, h3, rfl⟩ K' hn _ _ hr
      cases rest with
      | nil => simp at h1
      | cons a r =>
        simp only [List.zipIdx_cons, List.map_cons, List.cons.injEq] at h1
        obtain ⟨rfl, rfl⟩ := h1
        by_cases ha : a = 0
        · subst ha
          simp [qd_zero, eq_qd]
          exact hn _ _ ⟨r, k + 1, _, _, rfl, rfl, by rw [h3]; simp [all0], rfl⟩
        · have : all0 xs = false := by rw [h3]; simp [all0, ha]
          simp [qd_zero, eq_qd, ha, hr, this]
  rw [wp_def] at h
  cases e : callF P (n + 1) f_first_index [rowd xs] S with
  | ok v S' => rw [e] at h; obtain ⟨rfl, h⟩ := h; exact ⟨v, rfl, h⟩
  | exc x S' => rw [e] at h; exact h.elim
  | stk => rw [e] at h; exact h.elim
theorem s_is_rest (n : Nat) (xs : List Rat) (S : Store) : callF P (n + 2) f_is_rest [rowd xs] S = .ok (.bl (all0 xs)) S := by
  refine call_clean P_is_rest rfl rfl ?_
  obtain ⟨v, e, _, (⟨h, rfl⟩ | ⟨h, ⟨i, rfl⟩⟩)⟩ := s_first_index n xs S
  · simp [sm_is_rest, startE, e, h]
  · simp [sm_is_rest, startE, e, h]
theorem s_rest_row (n w : Nat) (S : Store) (h : w ≤ 1000) : callF P (n + 1) f_rest_row [.int w] S = .ok (rowd (List.replicate w 0)) S := by
  refine call_clean P_rest_row rfl (row_bare _) ?_
  have h1 : ((w : Int) ≤ 1000) := by omega
  have h2 : (-4611686018427387904 : Int) ≤ (w : Int) := by omega
  simp [sm_rest_row, startE, wp_tupM, h1, h2, repD, rowd, qd_zero]
  exact by decide
theorem row_zip (xs ys : List Rat) : pairsD (xs.map qd) (ys.map qd) = (xs.zip ys).map fun p => .tup [qd p.1, qd p.2] := pairs_map qd qd xs ys
theorem zip_mem {α β : Type} {xs : List α} {ys : List β} {p : α × β} (h : p ∈ xs.zip ys) : p.1 ∈ xs ∧ p.2 ∈ ys := List.of_mem_zip h
theorem zipWith_map (f : Rat → Rat → Rat) (xs ys : List Rat) : (xs.zip ys).map (fun p => qd (f p.1 p.2)) = (List.zipWith f xs ys).map qd := by
  rw [List.zip, List.map_zipWith, List.map_zipWith]
theorem s_sum_of_rows (n : Nat) (xs ys : List Rat) (S : Store) (hx : ∀ x ∈ xs, Ok x) (hy : ∀ x ∈ ys, Ok x) (hl : xs.length ≤ 1000) : callF P (n + 4) f_sum_of_rows [rowd xs, rowd ys] S = .ok (rowd (List.zipWith (· + ·) xs ys)) S := by
  refine call_clean P_sum_of_rows rfl (row_bare _) ?_
  have key := lcL_map (gd := []) (g := Pin.gTup 2 (Pin.gCons (Pin.gName 2) (Pin.gCons (Pin.gName 3) Pin.gNil))) (e := eCall f_added (lCons (eVar 2) (lCons (eVar 3) lNil))) (c := callF P (n + 3)) (ρ := [some (rowd xs), some (rowd ys), none, none]) (S := S)
    (fun p : Rat × Rat => D.tup [qd p.1, qd p.2]) (fun p => qd (p.1 + p.2)) gd_nil (xs.zip ys) fun p hp => by
      obtain ⟨h1, h2⟩ := zip_mem hp
      simp [s_added n p.1 p.2 S (hx _ h1) (hy _ h2)]
  simp [sm_sum_of_rows, startE, rowd, wipeE, row_zip]
  simp only [rowd] at key
  rw [key]
  have hz : min xs.length ys.length ≤ sizeLine := le_line (by omega)
  simp [wp_fits, wp_getL get_end, wp_tupM, hz, zipWith_map (· + ·) xs ys]
/-! sums over two rows -/
def dotF (s : Rat) (ps : List (Rat × Rat)) : Rat := ps.foldl (fun s p => s + p.1 * p.2) s
def dot (xs ys : List Rat) : Rat := dotF 0 (xs.zip ys)
/-- numbers of one kind: the denominator divides L ^ n, the numerator stays below 2 ^ e -/
structure Sz (L n e : Nat) (r : Rat) : Prop where
  den : r.den ∣ L ^ n
  num : r.num.natAbs < 2 ^ e
theorem Sz.mono {L n e m f : Nat} {r : Rat} (h : Sz L n e r) (h1 : n ≤ m) (h2 : e ≤ f) : Sz L m f r :=
  ⟨Nat.dvd_trans h.den (Nat.pow_dvd_pow L h1), Nat.lt_of_lt_of_le h.num (Nat.pow_le_pow_right (by decide) h2)⟩
theorem Sz.ok {L l n e : Nat} {r : Rat} (h : Sz L n e r) (hL : 0 < L) (hl : L < 2 ^ l) (hn : l * n < 4400) (he : e ≤ 1000000) : Ok r := by
  refine ⟨?_, Nat.lt_of_lt_of_le h.num (Nat.pow_le_pow_right (by decide) he)⟩
  have h1 : r.den ≤ L ^ n := Nat.le_of_dvd (Nat.pow_pos hL) h.den
  have h2 : L ^ n ≤ (2 ^ l) ^ n := Nat.pow_le_pow_left (Nat.le_of_lt hl) n
  rw [← Nat.pow_mul] at h2
  have h3 : 2 ^ (l * n) < 2 ^ 4400 := Nat.pow_lt_pow_right (by decide) hn
  omega
theorem Sz.mul {L n e m f : Nat} {x y : Rat} (h : Sz L n e x) (k : Sz L m f y) : Sz L (n + m) (e + f) (x * y) := by
  constructor
  · rw [Nat.pow_add, Rat.den_mul]
    exact Nat.dvd_trans (Nat.div_dvd_of_dvd (Nat.gcd_dvd_right _ _)) (Nat.mul_dvd_mul h.den k.den)
  · rw [Nat.pow_add, Rat.num_mul]
    have h1 : (x.num * y.num).natAbs < 2 ^ e * 2 ^ f := by
      rw [Int.natAbs_mul]; exact Nat.mul_lt_mul'' h.num k.num
    refine Nat.lt_of_le_of_lt ?_ h1
    exact Int.natAbs_ediv_le_natAbs _ _
theorem as_div {x : Rat} {m : Nat} (h : x.den ∣ m) (hm : 0 < m) : ∃ a : Int, x = Rat.divInt a m ∧ a.natAbs ≤ x.num.natAbs * m := by
  obtain ⟨k, rfl⟩ := h
  have hk : k ≠ 0 := fun e => by subst e; simp at hm
  refine ⟨x.num * k, ?_, ?_⟩
  · rw [Int.natCast_mul, Rat.divInt_mul_right (by omega), Rat.num_divInt_den]
  · rw [Int.natAbs_mul, Int.natAbs_natCast]
    exact Nat.mul_le_mul_left _ (Nat.le_mul_of_pos_left _ x.den_pos)
theorem Sz.add {L l n e : Nat} {x y : Rat} (h : Sz L n e x) (k : Sz L n e y) (hL : 0 < L) (hl : L < 2 ^ l) : Sz L n (e + l * n + 1) (x + y) := by
  have hp : 0 < L ^ n := Nat.pow_pos hL
  obtain ⟨a, ea, ha⟩ := as_div h.den hp
  obtain ⟨b, eb, hb⟩ := as_div k.den hp
  have hs : x + y = Rat.divInt (a + b) (L ^ n : Nat) := by
    have hm : ((L ^ n : Nat) : Int) ≠ 0 := by omega
    rw [ea, eb, Rat.divInt_add_divInt _ _ hm hm, ← Int.add_mul, Rat.divInt_mul_right hm]
  have h2 : L ^ n ≤ 2 ^ (l * n) := by rw [Nat.pow_mul]; exact Nat.pow_le_pow_left (Nat.le_of_lt hl) n
  obtain ⟨q1, q2⟩ := divInt_pos (a + b) (L ^ n : Nat) (by omega)
  rw [← hs] at q1 q2
  constructor
  · have : (((x + y).den : Nat) : Int) ∣ ((L ^ n : Nat) : Int) := by
      rw [q2]
      exact Int.ediv_dvd_of_dvd (Int.gcd_dvd_right ..)
    exact Int.natCast_dvd_natCast.mp this
  · rw [q1]
    refine Nat.lt_of_le_of_lt (Int.natAbs_ediv_le_natAbs _ _) ?_
    have h3 : (a + b).natAbs ≤ a.natAbs + b.natAbs := Int.natAbs_add_le a b
    have h4 : a.natAbs < 2 ^ e * 2 ^ (l * n) := Nat.lt_of_le_of_lt ha (Nat.mul_lt_mul_of_lt_of_le h.num h2 (Nat.pow_pos (by decide)))
    have h5 : b.natAbs < 2 ^ e * 2 ^ (l * n) := Nat.lt_of_le_of_lt hb (Nat.mul_lt_mul_of_lt_of_le k.num h2 (Nat.pow_pos (by decide)))
    have h6 : 2 ^ (e + l * n + 1) = 2 ^ e * 2 ^ (l * n) * 2 := by rw [Nat.pow_succ, Nat.pow_add]
    omega
theorem Sz.neg {L n e : Nat} {x : Rat} (h : Sz L n e x) : Sz L n e (-x) := ⟨by simpa using h.den, by simpa using h.num⟩
section
variable {L l : Nat} (hL : 0 < L) (hl : L < 2 ^ l)
include hL hl
theorem dotF_sz {a e b f : Nat} : ∀ (ps : List (Rat × Rat)) (s : Rat) (u : Nat), (∀ p ∈ ps, Sz L a e p.1 ∧ Sz L b f p.2) → Sz L (a + b) u s → e + f ≤ u → Sz L (a + b) (u + ps.length * (l * (a + b) + 1)) (dotF s ps)
  | [], s, u, _, hs, _ => by simpa [dotF] using hs
  | p :: ps, s, u, hp, hs, hu => by
    have h1 := ((hp p List.mem_cons_self).1.mul (hp p List.mem_cons_self).2).mono (Nat.le_refl _) hu
    have h2 := hs.add h1 hL hl
    have h3 := dotF_sz ps (s + p.1 * p.2) (u + l * (a + b) + 1) (fun q hq => hp q (List.mem_cons_of_mem _ hq)) h2 (by omega)
    refine h3.mono (Nat.le_refl _) ?_
    rw [List.length_cons, Nat.succ_mul]
    omega
theorem s_product_of (n : Nat) (xs ys : List Rat) (S : Store) {a e b f : Nat} (hx : ∀ x ∈ xs, Sz L a e x) (hy : ∀ y ∈ ys, Sz L b f y) (hd : l * (a + b) < 4400) (he : e + f + (xs.zip ys).length * (l * (a + b) + 1) ≤ 1000000) (h0 : 0 < e + f) :
    callF P (n + 4) f_product_of [rowd xs, rowd ys] S = .ok (qd (dot xs ys)) S := by
  refine call_clean P_product_of rfl (by simp) ?_
  have okx : ∀ x, Sz L a e x → Ok x := fun x h => h.ok hL hl (by rw [Nat.mul_add] at hd; omega) (by omega)
  have oky : ∀ x, Sz L b f x → Ok x := fun x h => h.ok hL hl (by rw [Nat.mul_add] at hd; omega) (by omega)
  simp [sm_product_of, startE, rowd, row_zip]
  refine wp_for (fun zs ρ S' => ∃ (r : List (Rat × Rat)) (s : Rat) (u : Nat) (o1 o2 : Option D), zs = r.map (fun p => D.tup [qd p.1, qd p.2]) ∧ ρ = [some (rowd xs), some (rowd ys), some (qd s), o1, o2] ∧ dotF s r = dot xs ys ∧ S' = S ∧
    (∀ p ∈ r, Sz L a e p.1 ∧ Sz L b f p.2) ∧ Sz L (a + b) u s ∧ e + f ≤ u ∧ u + r.length * (l * (a + b) + 1) ≤ 1000000) ?_ ?_ ?_ _ _ _
    ⟨xs.zip ys, 0, e + f, none, none, rfl, rfl, rfl, rfl, fun p hp => ⟨hx _ (zip_mem hp).1, hy _ (zip_mem hp).2⟩, ⟨Nat.one_dvd _, by simpa using Nat.pow_pos (by decide)⟩, Nat.le_refl _, he⟩
  · intro zs ρ S' _; exact gd_nil
  · rintro ρ S' ⟨r, s, u, o1, o2, h1, rfl, h3, rfl, _⟩
    cases r with
    | nil => simp [← h3, dotF]
    | cons p r => simp at h1
  · rintro z zs ρ S' ⟨r, s, u, o1, o2, h1, rfl, h3, rfl, hp, hs, hu, hc⟩ K' hn _ _ _
    cases r with
    | nil => simp at h1
    | cons p r =>
      simp only [List.map_cons, List.cons.injEq] at h1
      obtain ⟨rfl, rfl⟩ := h1
      obtain ⟨p1, p2⟩ := hp p List.mem_cons_self
      have hm := (p1.mul p2).mono (Nat.le_refl _) hu
      rw [List.length_cons, Nat.succ_mul] at hc
      have hstep : dotF (s + p.1 * p.2) r = dot xs ys := h3
      have hs2 := hs.add hm hL hl
      have hpr := fun q hq => hp q (List.mem_cons_of_mem p hq)
      by_cases hz : p.1 = 0
      · simp [qd_zero, eq_qd, hz]
        rw [hz, Rat.zero_mul, Rat.add_zero] at hstep
        exact hn _ _ ⟨r, s, u, _, _, rfl, rfl, hstep, rfl, hpr, hs, hu, by omega⟩
      · by_cases hz2 : p.2 = 0
        · simp [qd_zero, eq_qd, hz, hz2]
          rw [hz2, Rat.mul_zero, Rat.add_zero] at hstep
          exact hn _ _ ⟨r, s, u, _, _, rfl, rfl, hstep, rfl, hpr, hs, hu, by omega⟩
        · simp [qd_zero, eq_qd, hz, hz2, s_multiplied n p.1 p.2 S' (okx _ p1) (oky _ p2), s_added n s (p.1 * p.2) S' (hs.ok hL hl hd (by omega)) (hm.ok hL hl hd (by omega))]
          exact hn _ _ ⟨r, s + p.1 * p.2, _, _, _, rfl, rfl, hstep, rfl, hpr, hs2, by omega, by omega⟩
end
end K06

set_option Elab.async false
set_option linter.all false
set_option maxRecDepth 100000
set_option maxHeartbeats 1000000
namespace K06
open PySem PySem.Spec Pin
/-! the law's own rows -/
theorem s_scaled (n : Nat) (a : Rat) (xs : List Rat) (S : Store) (ha : Ok a) (hx : ∀ x ∈ xs, Ok x) (hl : xs.length ≤ 1000) : callF P (n + 3) f__law_scaled [qd a, rowd xs] S = .ok (rowd (xs.map (a * ·))) S := by
  refine call_clean P__law_scaled rfl (row_bare _) ?_
  have key := lcL_map (gd := []) (g := Pin.gName 2) (e := eCall f__law_times (lCons (eVar 0) (lCons (eVar 2) lNil))) (c := callF P (n + 2)) (ρ := [some (qd a), some (rowd xs), none]) (S := S)
    qd (fun x => qd (a * x)) gd_nil xs fun x hx' => by
      simp [s_times n a x S ha (hx x hx')]
  simp [sm__law_scaled, startE, rowd, wipeE]
  simp only [rowd] at key
  rw [key]
  simp [wp_fits, wp_getL get_end, wp_tupM, le_line hl]
theorem s_ladded (n : Nat) (xs ys : List Rat) (S : Store) (hx : ∀ x ∈ xs, Ok x) (hy : ∀ x ∈ ys, Ok x) (hl : xs.length ≤ 1000) : callF P (n + 3) f__law_added [rowd xs, rowd ys] S = .ok (rowd (List.zipWith (· + ·) xs ys)) S := by
  refine call_clean P__law_added rfl (row_bare _) ?_
  have key := lcL_map (gd := []) (g := Pin.gTup 2 (Pin.gCons (Pin.gName 2) (Pin.gCons (Pin.gName 3) Pin.gNil))) (e := eCall f__law_plus (lCons (eVar 2) (lCons (eVar 3) lNil))) (c := callF P (n + 2)) (ρ := [some (rowd xs), some (rowd ys), none, none]) (S := S)
    (fun p : Rat × Rat => D.tup [qd p.1, qd p.2]) (fun p => qd (p.1 + p.2)) gd_nil (xs.zip ys) fun p hp => by
      obtain ⟨h1, h2⟩ := zip_mem hp
      simp [s_plus n p.1 p.2 S (hx _ h1) (hy _ h2)]
  simp [sm__law_added, startE, rowd, wipeE, row_zip]
  simp only [rowd] at key
  rw [key]
  have hz : min xs.length ys.length ≤ sizeLine := le_line (by omega)
  simp [wp_fits, wp_getL get_end, wp_tupM, hz, zipWith_map (· + ·) xs ys]
section
variable {L l : Nat} (hL : 0 < L) (hl : L < 2 ^ l)
include hL hl
theorem s_lproduct (n : Nat) (xs ys : List Rat) (S : Store) {a e b f : Nat} (hx : ∀ x ∈ xs, Sz L a e x) (hy : ∀ y ∈ ys, Sz L b f y) (hd : l * (a + b) < 4400) (he : e + f + (xs.zip ys).length * (l * (a + b) + 1) ≤ 1000000) (h0 : 0 < e + f) :
    callF P (n + 3) f__law_product [rowd xs, rowd ys] S = .ok (qd (dot xs ys)) S := by
  refine call_clean P__law_product rfl (by simp) ?_
  have okx : ∀ x, Sz L a e x → Ok x := fun x h => h.ok hL hl (by rw [Nat.mul_add] at hd; omega) (by omega)
  have oky : ∀ x, Sz L b f x → Ok x := fun x h => h.ok hL hl (by rw [Nat.mul_add] at hd; omega) (by omega)
  simp [sm__law_product, startE, rowd, row_zip, wp_tupM]
  refine ⟨len2l, ?_⟩
  refine wp_for (fun zs ρ S' => ∃ (r : List (Rat × Rat)) (s : Rat) (u : Nat) (o1 o2 : Option D), zs = r.map (fun p => D.tup [qd p.1, qd p.2]) ∧ ρ = [some (rowd xs), some (rowd ys), some (qd s), o1, o2] ∧ dotF s r = dot xs ys ∧ S' = S ∧
    (∀ p ∈ r, Sz L a e p.1 ∧ Sz L b f p.2) ∧ Sz L (a + b) u s ∧ e + f ≤ u ∧ u + r.length * (l * (a + b) + 1) ≤ 1000000) ?_ ?_ ?_ _ _ _
    ⟨xs.zip ys, 0, e + f, none, none, rfl, rfl, rfl, rfl, fun p hp => ⟨hx _ (zip_mem hp).1, hy _ (zip_mem hp).2⟩, ⟨Nat.one_dvd _, by simpa using Nat.pow_pos (by decide)⟩, Nat.le_refl _, he⟩
  · intro zs ρ S' _; exact gd_nil
  · rintro ρ S' ⟨r, s, u, o1, o2, h1, rfl, h3, rfl, _⟩
    cases r with
    | nil => simp [← h3, dotF]
    | cons p r => simp at h1
  · rintro z zs ρ S' ⟨r, s, u, o1, o2, h1, rfl, h3, rfl, hp, hs, hu, hc⟩ K' hn _ _ _
    cases r with
    | nil => simp at h1
    | cons p r =>
      simp only [List.map_cons, List.cons.injEq] at h1
      obtain ⟨rfl, rfl⟩ := h1
      obtain ⟨p1, p2⟩ := hp p List.mem_cons_self
      have hm := (p1.mul p2).mono (Nat.le_refl _) hu
      rw [List.length_cons, Nat.succ_mul] at hc
      have hs2 := hs.add hm hL hl
      simp [s_times n p.1 p.2 S' (okx _ p1) (oky _ p2), s_plus n s (p.1 * p.2) S' (hs.ok hL hl hd (by omega)) (hm.ok hL hl hd (by omega))]
      exact hn _ _ ⟨r, s + p.1 * p.2, _, _, _, rfl, rfl, h3, rfl, fun q hq => hp q (List.mem_cons_of_mem p hq), hs2, by omega, by omega⟩
end
/-! ### what is a number, a row, a fence, a room -/
/-- a value whose lists and dicts stand in the store -/
def There (S : Store) (r : Nat) : Prop := (∃ xs, S[r]? = some (.lst xs)) ∨ ∃ kvs, S[r]? = some (.dct kvs)
mutual
def VOk (S : Store) : D → Prop
  | .tup xs => VOks S xs
  | .ref r => There S r
  | .fn _ => False
  | .clo _ _ => False
  | .fz _ => False
  | _ => True
def VOks (S : Store) : List D → Prop
  | [] => True
  | x :: xs => VOk S x ∧ VOks S xs
end
theorem vok_mem {S : Store} : ∀ {xs : List D} {x : D}, VOks S xs → x ∈ xs → VOk S x
  | y :: ys, x, ⟨h1, h2⟩, hx => by
    rcases List.mem_cons.mp hx with rfl | h
    · exact h1
    · exact vok_mem h2 h
def isTup : D → Bool
  | .tup _ => true
  | _ => false
def isBl : D → Bool
  | .bl _ => true
  | _ => false
def isIn : D → Bool
  | .int _ => true
  | _ => false
theorem isi_lst {S : Store} {r : Nat} {u : Ty} {xs : List D} (h : S[r]? = some (.lst xs)) : isiM (.ref r) u S = .ok (isTy .list u) S := by
  show (match (match S[r]? with | some (.lst _) => some Ty.list | some (.dct _) => some Ty.dict | _ => none) with | some t => Res.ok (isTy t u) S | none => .stk) = _
  rw [h]
theorem isi_dct {S : Store} {r : Nat} {u : Ty} {xs : List (D × D)} (h : S[r]? = some (.dct xs)) : isiM (.ref r) u S = .ok (isTy .dict u) S := by
  show (match (match S[r]? with | some (.lst _) => some Ty.list | some (.dct _) => some Ty.dict | _ => none) with | some t => Res.ok (isTy t u) S | none => .stk) = _
  rw [h]
theorem isi_ref {S : Store} {r : Nat} {u : Ty} (h : There S r) (h1 : isTy .list u = false) (h2 : isTy .dict u = false) : isiM (.ref r) u S = .ok false S := by
  rcases h with ⟨xs, h⟩ | ⟨xs, h⟩
  · rw [isi_lst h, h1]
  · rw [isi_dct h, h2]
theorem isi_tup {S : Store} : ∀ {d : D}, VOk S d → isiM d .tuple S = .ok (isTup d) S
  | .ref r, h => isi_ref h rfl rfl
  | .fn _, h => h.elim
  | .clo _ _, h => h.elim
  | .fz _, h => h.elim
  | .non, _ => rfl
  | .bl _, _ => rfl
  | .int _, _ => rfl
  | .str _, _ => rfl
  | .tup _, _ => rfl
theorem isi_bool {S : Store} : ∀ {d : D}, VOk S d → isiM d .bool S = .ok (isBl d) S
  | .ref r, h => isi_ref h rfl rfl
  | .fn _, h => h.elim
  | .clo _ _, h => h.elim
  | .fz _, h => h.elim
  | .non, _ => rfl
  | .bl _, _ => rfl
  | .int _, _ => rfl
  | .str _, _ => rfl
  | .tup _, _ => rfl
theorem isi_int {S : Store} : ∀ {d : D}, VOk S d → isiM d .int S = .ok (isIn d || isBl d) S
  | .ref r, h => isi_ref h rfl rfl
  | .fn _, h => h.elim
  | .clo _ _, h => h.elim
  | .fz _, h => h.elim
  | .non, _ => rfl
  | .bl _, _ => rfl
  | .int _, _ => rfl
  | .str _, _ => rfl
  | .tup _, _ => rfl
theorem s_is_integer (n : Nat) (d : D) (S : Store) (h : VOk S d) : callF P (n + 1) f_is_integer [d] S = .ok (.bl (isIn d)) S := by
  refine call_clean P_is_integer rfl rfl ?_
  simp [sm_is_integer, startE, isi_int h, isi_bool h]
  have h2 : isIn d = true → isBl d = false := by cases d <;> simp [isIn, isBl]
  cases h3 : isIn d <;> cases h4 : isBl d <;> simp_all
theorem s_is_whole (n : Nat) (d : D) (S : Store) (h : VOk S d) : callF P (n + 1) f__law_is_whole [d] S = .ok (.bl (isIn d)) S := by
  refine call_clean P__law_is_whole rfl rfl ?_
  simp [sm__law_is_whole, startE, isi_int h, isi_bool h]
  cases d <;> simp [isIn, isBl]
/-- a number, as a value -/
def isNum : D → Bool
  | .tup [.int a, .int b] => decide (1 ≤ b) && decide (Int.gcd a b = 1)
  | _ => false
theorem allBl_map {α : Type} (f : α → Bool) : ∀ xs : List α, allBl (xs.map fun x => D.bl (f x)) = some (xs.map f)
  | [] => rfl
  | x :: xs => by
    rw [List.map_cons, List.map_cons]
    show (allBl (xs.map fun x => D.bl (f x))).map (f x :: ·) = _
    rw [allBl_map f xs]; rfl
theorem isNum_len {xs : List D} (h : ¬ xs.length = 2) : isNum (.tup xs) = false := by
  match xs, h with
  | [], _ => rfl
  | [x], _ => cases x <;> rfl
  | [x, y], h => exact absurd rfl h
  | x :: y :: z :: r, _ => cases x <;> cases y <;> rfl
theorem isNum_two {x y : D} (h : (isIn x && isIn y) = false) : isNum (.tup [x, y]) = false := by
  cases x <;> cases y <;> first | rfl | (simp [isIn] at h)
theorem s_is_number (n : Nat) (d : D) (S : Store) (h : VOk S d) : callF P (n + 2) f_is_number [d] S = .ok (.bl (isNum d)) S := by
  refine call_clean P_is_number rfl rfl ?_
  cases d with
  | tup xs =>
    have key := lcL_map (gd := []) (g := Pin.gName 1) (e := eCall f_is_integer (lCons (eVar 1) lNil)) (c := callF P (n + 1)) (ρ := [some (.tup xs), none]) (S := S)
      (fun x : D => x) (fun x => .bl (isIn x)) gd_nil xs fun x hx => by
        simp [s_is_integer n x S (vok_mem h hx)]
    rw [List.map_id'] at key
    simp [sm_is_number, startE, isi_tup (d := .tup xs) h, isTup, wipeE, key]
    refine ⟨fun hl => ?_, fun hl => isNum_len (by omega)⟩
    obtain ⟨x, y, rfl⟩ := len2 (us := xs) (by omega)
    simp [wp_fits, wp_getL get_end, allBl_map]
    refine ⟨by decide, ?_⟩
    by_cases hxy : (isIn x && isIn y) = true
    · rw [Bool.and_eq_true] at hxy
      obtain ⟨hx, hy⟩ := hxy
      cases x <;> first | (cases hx; done) | skip
      cases y <;> first | (cases hy; done) | skip
      rename_i a b
      simp [s_gcd, isIn, isNum]
      have e1 : (((Int.gcd a b : Nat) : Int) = 1) = (Int.gcd a b = 1) := by simp only [eq_iff_iff]; omega
      by_cases h1 : 1 ≤ b
      · simp [h1, e1]
        omega
      · simp [h1]
    · have hx : (isIn x && isIn y) = false := by simpa using hxy
      simp [isNum_two hx, hx]
      intro q1 q2
      rw [q1, q2] at hx
      cases hx
  | _ => simp [sm_is_number, startE, isi_tup h, isTup, isNum]
/-- the numbers' bounds, within a value -/
def numB : D → Prop
  | .tup [.int a, .int b] => a.natAbs < 2 ^ 2000000 ∧ b.natAbs < 2 ^ 8000
  | _ => True
theorem eq_two {x : Rat} {a b : Int} : eqM (qd x) (.tup [.int a, .int b]) = pure (decide (x.num = a ∧ (x.den : Int) = b)) := by
  refine eqM_of (y := .tuple [.int a, .int b]) (fun _ => rfl) (fun S => toPy_qd S 59 x) (fun S => ?_) ?_
  · simp [toPy, mapO, toPy_int]
  · simp [pq, PyData.eqv, PyData.eqvAll]
    by_cases h1 : x.num = a <;> by_cases h2 : (x.den : Int) = b <;> simp [h1, h2]
theorem low_same {a b : Int} (hb : 0 < b) : ((Rat.divInt a b).num = a ∧ ((Rat.divInt a b).den : Int) = b) ↔ Int.gcd a b = 1 := by
  obtain ⟨h1, h2⟩ := divInt_pos a b hb
  have hg : 0 < Int.gcd a b := Int.gcd_pos_of_ne_zero_right a (by omega)
  constructor
  · rintro ⟨_, h⟩
    rw [h2] at h
    have := Int.ediv_mul_cancel (Int.gcd_dvd_right a b)
    rw [h] at this
    have h3 : b * ((Int.gcd a b : Nat) : Int) = b * 1 := by omega
    have := Int.eq_of_mul_eq_mul_left (by omega) h3
    omega
  · intro h
    rw [h] at h1 h2
    simp at h1 h2
    exact ⟨h1, h2⟩
theorem s_lis_number (n : Nat) (d : D) (S : Store) (h : VOk S d) (hb : numB d) : callF P (n + 2) f__law_is_number [d] S = .ok (.bl (isNum d)) S := by
  refine call_clean P__law_is_number rfl rfl ?_
  cases d with
  | tup xs =>
    simp [sm__law_is_number, startE, isi_tup (d := .tup xs) h, isTup]
    refine ⟨fun hl => ?_, fun hl => isNum_len (by omega)⟩
    obtain ⟨x, y, rfl⟩ := len2 (us := xs) (by omega)
    have hx := vok_mem (x := x) h List.mem_cons_self
    have hy := vok_mem (x := y) h (List.mem_cons_of_mem _ List.mem_cons_self)
    simp [s_is_whole (n := n) (h := hx), s_is_whole (n := n) (h := hy)]
    refine ⟨fun q => isNum_two (by rw [q]; rfl), fun hi => ⟨fun q => isNum_two (by rw [q, Bool.and_false]), fun hj => ?_⟩⟩
    cases x <;> first | (cases hi; done) | skip
    cases y <;> first | (cases hj; done) | skip
    rename_i a b
    obtain ⟨b1, b2⟩ := hb
    by_cases h1 : 0 < b
    · have h9 : b.natAbs < 2 ^ 9000 := Nat.lt_of_lt_of_le b2 (Nat.pow_le_pow_right (by decide) (by decide))
      have h8 : a.natAbs < 2 ^ 3000000 := Nat.lt_of_lt_of_le b1 (Nat.pow_le_pow_right (by decide) (by decide))
      have h2 : 1 ≤ b := by omega
      simp [s_lowest n a b S (by omega) h9 h8, eq_two, h1, isNum, h2, low_same]
    · have h2 : ¬ 1 ≤ b := by omega
      simp [h1, isNum, h2]
  | _ => simp [sm__law_is_number, startE, isi_tup h, isTup, isNum]
end K06

set_option Elab.async false
set_option linter.all false
set_option maxRecDepth 100000
set_option maxHeartbeats 1000000
namespace K06
open PySem PySem.Spec Pin
def rowB : D → Prop
  | .tup xs => ∀ x ∈ xs, numB x
  | _ => True
def isRow (w : Int) : D → Bool
  | .tup xs => decide ((xs.length : Int) = w) && xs.all isNum
  | _ => false
theorem all_id {α : Type} (f : α → Bool) (xs : List α) : (xs.map f).all id = xs.all f := by simp [List.all_map]
theorem s_is_plain_row (n : Nat) (w : Int) (d : D) (S : Store) (h : VOk S d) (hw : w ≤ 1000) : callF P (n + 3) f_is_plain_row [.int w, d] S = .ok (.bl (isRow w d)) S := by
  refine call_clean P_is_plain_row rfl rfl ?_
  cases d with
  | tup xs =>
    have key := lcL_map (gd := []) (g := Pin.gName 2) (e := eCall f_is_number (lCons (eVar 2) lNil)) (c := callF P (n + 2)) (ρ := [some (.int w), some (.tup xs), none]) (S := S)
      (fun x : D => x) (fun x => .bl (isNum x)) gd_nil xs fun x hx => by
        simp [s_is_number n x S (vok_mem h hx)]
    rw [List.map_id'] at key
    simp [sm_is_plain_row, startE, isi_tup (d := .tup xs) h, isTup, wipeE, key, isRow]
    by_cases hl : (xs.length : Int) = w
    · have hle : xs.length ≤ sizeLine := le_line (by omega)
      simp [hl, wp_fits, wp_getL get_end, allBl_map, all_id, hle]
    · simp [hl]
  | _ => simp [sm_is_plain_row, startE, isi_tup h, isTup, isRow]
theorem filter_none {α : Type} (f : α → Bool) (xs : List α) : (xs.filter fun x => !f x).isEmpty = xs.all f := by
  induction xs with
  | nil => rfl
  | cons x xs ih =>
    cases h : f x with
    | true => rw [List.filter_cons_of_neg (by simp [h]), List.all_cons, h, Bool.true_and, ih]
    | false => rw [List.filter_cons_of_pos (by simp [h]), List.all_cons, h]; rfl
theorem s_lis_row (n : Nat) (w : Int) (d : D) (S : Store) (h : VOk S d) (hw : w ≤ 1000) (hb : rowB d) : callF P (n + 3) f__law_is_row [.int w, d] S = .ok (.bl (isRow w d)) S := by
  refine call_clean P__law_is_row rfl rfl ?_
  cases d with
  | tup xs =>
    have key := lcL_filter (gd := []) (g := Pin.gName 2) (t := Pin.tNot (tVal (eCall f__law_is_number (lCons (eVar 2) lNil)))) (e := eVar 2) (c := callF P (n + 2)) (ρ := [some (.int w), some (.tup xs), none]) (S := S)
      (fun x : D => x) (fun x => !isNum x) (fun x => x) gd_nil xs fun x hx => by
        simp [s_lis_number n x S (vok_mem h hx) (hb x hx)]
    rw [List.map_id', List.map_id'] at key
    simp [sm__law_is_row, startE, isi_tup (d := .tup xs) h, isTup, wipeE, key, isRow]
    by_cases hl : (xs.length : Int) = w
    · have hle : xs.length ≤ 1000 := by omega
      have hle2 : (xs.filter fun x => !isNum x).length ≤ sizeLine := le_line (Nat.le_trans (List.length_filter_le _ _) hle)
      have e := eq_nil (S := S ++ [.lst (xs.filter fun x => !isNum x)] ++ [.lst []]) (r := S.length) (q := S.length + 1) (xs := xs.filter fun x => !isNum x) (by simp) (by simp)
      rw [filter_none] at e
      simp at e
      simp [hl, wp_fits, hle2, wp_lstM, e]
    · simp [hl]
  | _ => simp [sm__law_is_row, startE, isi_tup h, isTup, isRow]
end K06

set_option Elab.async false
set_option linter.all false
set_option maxRecDepth 100000
set_option maxHeartbeats 1000000
namespace K06
open PySem PySem.Spec Pin
theorem s_require_count (n : Nat) (w : Int) (S : Store) (h0 : 0 ≤ w) (h1 : w ≤ 40) : callF P (n + 2) f_require_count [.int w, .int 0, .int 40] S = .ok .non S := by
  refine call_clean P_require_count rfl rfl ?_
  simp [sm_require_count, startE, s_is_integer (n := n) (d := .int w) (h := trivial), isIn, h0, h1]
theorem s_require_width (n : Nat) (w : Int) (S : Store) (h0 : 0 ≤ w) (h1 : w ≤ 40) : callF P (n + 3) f_require_width [.int w] S = .ok .non S := by
  refine call_clean P_require_width rfl rfl ?_
  simp [sm_require_width, startE, s_require_count n w (h0 := h0) (h1 := h1)]
def isFen (w : Int) : D → Bool
  | .tup [r, b, .bl _] => isRow w r && isNum b
  | _ => false
def fenB : D → Prop
  | .tup [r, b, _] => rowB r ∧ numB b
  | _ => True
theorem isFen_len {w : Int} {xs : List D} (h : ¬ xs.length = 3) : isFen w (.tup xs) = false := by
  match xs, h with
  | [], _ => rfl
  | [x], _ => rfl
  | [x, y], _ => rfl
  | [x, y, z], h => exact absurd rfl h
  | x :: y :: z :: u :: r, _ => cases z <;> rfl
theorem isFen_three {w : Int} {x y z : D} : isFen w (.tup [x, y, z]) = (isBl z && (isRow w x && isNum y)) := by
  cases z <;> rfl
theorem s_is_plain_fence (n : Nat) (w : Int) (d : D) (S : Store) (h : VOk S d) (hw : w ≤ 1000) : callF P (n + 4) f_is_plain_fence [.int w, d] S = .ok (.bl (isFen w d)) S := by
  refine call_clean P_is_plain_fence rfl rfl ?_
  cases d with
  | tup xs =>
    simp [sm_is_plain_fence, startE, isi_tup (d := .tup xs) h, isTup]
    refine ⟨fun hl => ?_, fun hl => isFen_len (by omega)⟩
    obtain ⟨x, y, z, rfl⟩ := len3 (us := xs) (by omega)
    have hx := vok_mem (x := x) h List.mem_cons_self
    have hy := vok_mem (x := y) h (by simp)
    have hz := vok_mem (x := z) h (by simp)
    simp [isi_bool hz, s_is_plain_row n w x (h := hx) (hw := hw), s_is_number (n := n + 1) (h := hy), isFen_three]
    cases isBl z <;> cases isRow w x <;> simp
  | _ => simp [sm_is_plain_fence, startE, isi_tup h, isTup, isFen]
theorem s_lis_fence (n : Nat) (w : Int) (d : D) (S : Store) (h : VOk S d) (hw : w ≤ 1000) (hb : fenB d) : callF P (n + 4) f__law_is_fence [.int w, d] S = .ok (.bl (isFen w d)) S := by
  refine call_clean P__law_is_fence rfl rfl ?_
  cases d with
  | tup xs =>
    simp [sm__law_is_fence, startE, isi_tup (d := .tup xs) h, isTup]
    refine ⟨fun hl => ?_, fun hl => isFen_len (by omega)⟩
    obtain ⟨x, y, z, rfl⟩ := len3 (us := xs) (by omega)
    have hx := vok_mem (x := x) h List.mem_cons_self
    have hy := vok_mem (x := y) h (by simp)
    have hz := vok_mem (x := z) h (by simp)
    obtain ⟨hb1, hb2⟩ := hb
    simp [isi_bool hz, s_lis_row n w x (h := hx) (hw := hw) (hb := hb1), s_lis_number (n := n + 1) (h := hy) (hb := hb2), isFen_three]
    cases isBl z <;> cases isRow w x <;> simp
  | _ => simp [sm__law_is_fence, startE, isi_tup h, isTup, isFen]
theorem s_is_fence (n : Nat) (w : Int) (d : D) (S : Store) (h : VOk S d) (h0 : 0 ≤ w) (h1 : w ≤ 40) : callF P (n + 5) f_is_fence [.int w, d] S = .ok (.bl (isFen w d)) S := by
  refine call_clean P_is_fence rfl rfl ?_
  simp [sm_is_fence, startE, s_require_width (n + 1) w (h0 := h0) (h1 := h1), s_is_plain_fence n w d (h := h) (hw := by omega)]
/-! rooms -/
def isRoom (w : Int) : D → Bool
  | .tup xs => decide (xs.length ≤ 80) && xs.all (isFen w)
  | _ => false
def roomB : D → Prop
  | .tup xs => ∀ x ∈ xs, fenB x
  | _ => True
theorem s_is_plain_room (n : Nat) (w : Int) (d : D) (S : Store) (h : VOk S d) (hw : w ≤ 1000) : callF P (n + 5) f_is_plain_room [.int w, d] S = .ok (.bl (isRoom w d)) S := by
  refine call_clean P_is_plain_room rfl rfl ?_
  cases d with
  | tup xs =>
    have key := lcL_map (gd := []) (g := Pin.gName 2) (e := eCall f_is_plain_fence (lCons (eVar 0) (lCons (eVar 2) lNil))) (c := callF P (n + 4)) (ρ := [some (.int w), some (.tup xs), none]) (S := S)
      (fun x : D => x) (fun x => .bl (isFen w x)) gd_nil xs fun x hx => by
        simp [s_is_plain_fence n w x S (vok_mem h hx) hw]
    rw [List.map_id'] at key
    simp [sm_is_plain_room, startE, isi_tup (d := .tup xs) h, isTup, wipeE, key, isRoom]
    by_cases hl : xs.length ≤ 80
    · have hle : xs.length ≤ sizeLine := le_line (by omega)
      have hl2 : ¬ ((80 : Int) < xs.length) := by omega
      simp [hl, hl2, wp_fits, wp_getL get_end, allBl_map, all_id, hle]
    · have hl2 : ((80 : Int) < xs.length) := by omega
      simp [hl, hl2]
      intro q; omega
  | _ => simp [sm_is_plain_room, startE, isi_tup h, isTup, isRoom]
theorem s_is_room (n : Nat) (w : Int) (d : D) (S : Store) (h : VOk S d) (h0 : 0 ≤ w) (h1 : w ≤ 40) : callF P (n + 6) f_is_room [.int w, d] S = .ok (.bl (isRoom w d)) S := by
  refine call_clean P_is_room rfl rfl ?_
  simp [sm_is_room, startE, s_require_width (n + 2) w (h0 := h0) (h1 := h1), s_is_plain_room n w d (h := h) (hw := by omega)]
theorem s_lis_room (n : Nat) (w : Int) (d : D) (S : Store) (h : VOk S d) (hw : w ≤ 1000) (hb : roomB d) : callF P (n + 5) f__law_is_room [.int w, d, .int 80] S = .ok (.bl (isRoom w d)) S := by
  refine call_clean P__law_is_room rfl rfl ?_
  cases d with
  | tup xs =>
    have key := lcL_filter (gd := []) (g := Pin.gName 3) (t := Pin.tNot (tVal (eCall f__law_is_fence (lCons (eVar 0) (lCons (eVar 3) lNil))))) (e := eVar 3) (c := callF P (n + 4)) (ρ := [some (.int w), some (.tup xs), some (.int 80), none]) (S := S)
      (fun x : D => x) (fun x => !isFen w x) (fun x => x) gd_nil xs fun x hx => by
        simp [s_lis_fence n w x S (vok_mem h hx) hw (hb x hx)]
    rw [List.map_id', List.map_id'] at key
    simp [sm__law_is_room, startE, isi_tup (d := .tup xs) h, isTup, wipeE, key, isRoom]
    by_cases hl : xs.length ≤ 80
    · have hl1 : ((xs.length : Int) ≤ 80) := by omega
      have hle2 : (xs.filter fun x => !isFen w x).length ≤ sizeLine := le_line (Nat.le_trans (List.length_filter_le _ _) (by omega))
      have e := eq_nil (S := S ++ [.lst (xs.filter fun x => !isFen w x)] ++ [.lst []]) (r := S.length) (q := S.length + 1) (xs := xs.filter fun x => !isFen w x) (by simp) (by simp)
      rw [filter_none] at e
      simp at e
      simp [hl, hl1, wp_fits, hle2, wp_lstM, e]
      intro q; omega
    · have hl1 : ¬ ((xs.length : Int) ≤ 80) := by omega
      simp [hl, hl1]
  | _ => simp [sm__law_is_room, startE, isi_tup h, isTup, isRoom]
/-! ### good values -/
structure Fen where
  row : List Rat
  b : Rat
  s : Bool
def fend (f : Fen) : D := .tup [rowd f.row, qd f.b, .bl f.s]
def roomd (fs : List Fen) : D := .tup (fs.map fend)
theorem vok_qd (S : Store) (r : Rat) : VOk S (qd r) := ⟨trivial, trivial, trivial⟩
theorem voks_map {α : Type} {S : Store} {f : α → D} (h : ∀ x, VOk S (f x)) : ∀ xs : List α, VOks S (xs.map f)
  | [] => trivial
  | x :: xs => ⟨h x, voks_map h xs⟩
theorem vok_row (S : Store) (xs : List Rat) : VOk S (rowd xs) := voks_map (vok_qd S) xs
theorem vok_fen (S : Store) (f : Fen) : VOk S (fend f) := ⟨vok_row S f.row, vok_qd S f.b, trivial, trivial⟩
theorem vok_room (S : Store) (fs : List Fen) : VOk S (roomd fs) := voks_map (vok_fen S) fs
@[simp] theorem fen_bare (f : Fen) : (fend f).noRefs = true := by
  show ((rowd f.row).noRefs && ((qd f.b).noRefs && true)) = true
  rw [row_bare]; rfl
@[simp] theorem room_bare (fs : List Fen) : (roomd fs).noRefs = true := nr_map fen_bare fs
theorem num_qd (r : Rat) : isNum (qd r) = true := by
  have h1 : 1 ≤ (r.den : Int) := by have := r.den_pos; omega
  have h2 : Int.gcd r.num r.den = 1 := r.reduced
  show (decide (1 ≤ (r.den : Int)) && decide (Int.gcd r.num r.den = 1)) = true
  simp [h1, h2]
theorem isRow_row (w : Int) (xs : List Rat) : isRow w (rowd xs) = decide ((xs.length : Int) = w) := by
  show (decide (((xs.map qd).length : Int) = w) && (xs.map qd).all isNum) = _
  have : (xs.map qd).all isNum = true := by simp [num_qd]
  rw [this, List.length_map, Bool.and_true]
theorem isFen_fen (w : Int) (f : Fen) : isFen w (fend f) = decide ((f.row.length : Int) = w) := by
  show (isRow w (rowd f.row) && isNum (qd f.b)) = _
  rw [isRow_row, num_qd, Bool.and_true]
theorem isRoom_room {w : Int} {fs : List Fen} (h : fs.length ≤ 80) (hw : ∀ f ∈ fs, (f.row.length : Int) = w) : isRoom w (roomd fs) = true := by
  show (decide ((fs.map fend).length ≤ 80) && (fs.map fend).all (isFen w)) = true
  rw [List.length_map, decide_eq_true h, List.all_map]
  simp only [Bool.true_and, List.all_eq_true, Function.comp]
  intro f hf
  rw [isFen_fen, decide_eq_true (hw f hf)]
theorem s_require_fence (n : Nat) (w : Int) (f : Fen) (S : Store) (hw : w ≤ 1000) (h : (f.row.length : Int) = w) : callF P (n + 5) f_require_fence [.int w, fend f] S = .ok .non S := by
  refine call_clean P_require_fence rfl rfl ?_
  simp [sm_require_fence, startE, s_is_plain_fence n w (d := fend f) (h := vok_fen _ _) (hw := hw), isFen_fen, h]
theorem s_require_row (n : Nat) (w : Int) (xs : List Rat) (S : Store) (hw : w ≤ 1000) (h : (xs.length : Int) = w) : callF P (n + 4) f_require_row [.int w, rowd xs] S = .ok .non S := by
  refine call_clean P_require_row rfl rfl ?_
  simp [sm_require_row, startE, s_is_plain_row n w (d := rowd xs) (h := vok_row _ _) (hw := hw), isRow_row, h]
theorem s_require_room (n : Nat) (w : Int) (fs : List Fen) (S : Store) (hw : w ≤ 1000) (hl : fs.length ≤ 80) (h : ∀ f ∈ fs, (f.row.length : Int) = w) : callF P (n + 6) f_require_room [.int w, roomd fs] S = .ok .non S := by
  refine call_clean P_require_room rfl rfl ?_
  simp [sm_require_room, startE, s_is_plain_room n w (d := roomd fs) (h := vok_room _ _) (hw := hw), isRoom_room hl h]
theorem s_require_fenced (n : Nat) (w : Int) (f : Fen) (S : Store) (h0 : 0 ≤ w) (h1 : w ≤ 40) (h : (f.row.length : Int) = w) : callF P (n + 6) f_require_fenced [.int w, fend f] S = .ok .non S := by
  refine call_clean P_require_fenced rfl rfl ?_
  simp [sm_require_fenced, startE, s_require_width (n + 2) w (h0 := h0) (h1 := h1), s_require_fence n w f (hw := by omega) (h := h)]
theorem s_require_roomed (n : Nat) (w : Int) (fs : List Fen) (S : Store) (h0 : 0 ≤ w) (h1 : w ≤ 40) (hl : fs.length ≤ 80) (h : ∀ f ∈ fs, (f.row.length : Int) = w) : callF P (n + 7) f_require_roomed [.int w, roomd fs] S = .ok .non S := by
  refine call_clean P_require_roomed rfl rfl ?_
  simp [sm_require_roomed, startE, s_require_width (n + 3) w (h0 := h0) (h1 := h1), s_require_room n w fs (hw := by omega) (hl := hl) (h := h)]
end K06

set_option Elab.async false
set_option linter.all false
set_option maxRecDepth 100000
set_option maxHeartbeats 1000000
namespace K06
open PySem PySem.Spec Pin
/-! ### bounds -/
def LL : Nat := 42000000000000000000420
theorem LLpos : 0 < LL := by decide
theorem LLlt : LL < 2 ^ 76 := by decide
abbrev Z (n e : Nat) (r : Rat) : Prop := Sz LL n e r
theorem Z.ok {n e : Nat} {r : Rat} (h : Z n e r) (hn : 76 * n < 4400) (he : e ≤ 1000000) : Ok r := Sz.ok h LLpos LLlt hn he
structure FB (f : Fen) : Prop where
  row : ∀ x ∈ f.row, Z 4 2000 x
  b : Z 5 10000 f.b
def PB (xs : List Rat) : Prop := ∀ x ∈ xs, Z 1 140 x
theorem FB.rok {f : Fen} (h : FB f) : ∀ x ∈ f.row, Ok x := fun x hx => (h.row x hx).ok (by decide) (by decide)
theorem FB.bok {f : Fen} (h : FB f) : Ok f.b := h.b.ok (by decide) (by decide)
theorem zip_le {α β : Type} (xs : List α) (ys : List β) : (xs.zip ys).length ≤ xs.length := by rw [List.length_zip]; omega
theorem dot_Z {f : Fen} (h : FB f) (hl : f.row.length ≤ 40) {xs : List Rat} (hp : PB xs) : Z 5 20000 (dot f.row xs) := by
  have := dotF_sz LLpos LLlt (a := 4) (e := 2000) (b := 1) (f := 140) (f.row.zip xs) 0 2140 (fun p hp' => ⟨h.row _ (zip_mem hp').1, hp _ (zip_mem hp').2⟩) ⟨Nat.one_dvd _, by simpa using Nat.pow_pos (by decide)⟩ (by omega)
  refine this.mono (by decide) ?_
  have := zip_le f.row xs
  omega
/-! ### keeping, holding -/
theorem num_pos {q : Rat} : 0 < q.num ↔ 0 < q := by
  have h1 := @Rat.num_nonneg q
  have h2 := @Rat.num_eq_zero q
  constructor
  · intro h
    have h3 : 0 ≤ q := h1.mp (by omega)
    have h4 : q ≠ 0 := fun e => by have := h2.mpr e; omega
    grind
  · intro h
    have h3 : 0 ≤ q.num := h1.mpr (by grind)
    have h4 : q.num ≠ 0 := fun e => by have := h2.mp e; grind
    omega
def keepF (f : Fen) (xs : List Rat) : Bool := decide (f.b < dot f.row xs) || (decide (dot f.row xs = f.b) && !f.s)
@[simp] theorem fx_0 {f : Fen} {i : Int} (h : i = 0) : ixM (fend f) (.int i) = pure (rowd f.row) := by subst h; rfl
@[simp] theorem fx_1 {f : Fen} {i : Int} (h : i = 1) : ixM (fend f) (.int i) = pure (qd f.b) := by subst h; rfl
@[simp] theorem fx_2 {f : Fen} {i : Int} (h : i = 2) : ixM (fend f) (.int i) = pure (.bl f.s) := by subst h; rfl
theorem s_keeps_by (n : Nat) (f : Fen) (xs : List Rat) (S : Store) (hf : FB f) (hl : f.row.length ≤ 40) (hp : PB xs) : callF P (n + 5) f_keeps_by [fend f, rowd xs] S = .ok (.bl (keepF f xs)) S := by
  refine call_clean P_keeps_by rfl rfl ?_
  have hz := zip_le f.row xs
  have h1 := s_product_of LLpos LLlt n f.row xs (a := 4) (e := 2000) (b := 1) (f := 140) (hx := hf.row) (hy := hp) (hd := by decide) (he := by omega) (h0 := by decide)
  have h2 := s_added (n + 1) (dot f.row xs) (-f.b) (hx := (dot_Z hf hl hp).ok (by decide) (by decide)) (hy := hf.bok.neg)
  have e1 : ((dot f.row xs + -f.b).num = 0) ↔ dot f.row xs = f.b := by rw [Rat.num_eq_zero]; grind
  have e2 : (0 < (dot f.row xs + -f.b).num) ↔ f.b < dot f.row xs := by rw [num_pos]; grind
  simp [sm_keeps_by, startE, h1, h2, s_opposite, e1, e2]
  unfold keepF
  by_cases k1 : f.b < dot f.row xs <;> by_cases k2 : dot f.row xs = f.b <;> simp [k1, k2]
theorem s_lkeeps (n : Nat) (f : Fen) (xs : List Rat) (S : Store) (hf : FB f) (hl : f.row.length ≤ 40) (hp : PB xs) : callF P (n + 4) f__law_keeps [fend f, rowd xs] S = .ok (.bl (keepF f xs)) S := by
  refine call_clean P__law_keeps rfl rfl ?_
  have hz := zip_le f.row xs
  have h1 := s_lproduct LLpos LLlt n f.row xs (a := 4) (e := 2000) (b := 1) (f := 140) (hx := hf.row) (hy := hp) (hd := by decide) (he := by omega) (h0 := by decide)
  have h2 := s_less (n + 2) f.b (dot f.row xs) (hx := hf.bok) (hy := (dot_Z hf hl hp).ok (by decide) (by decide))
  simp [sm__law_keeps, startE, h1, h2, eq_qd]
  unfold keepF
  by_cases k1 : f.b < dot f.row xs <;> by_cases k2 : dot f.row xs = f.b <;> cases f.s <;> simp [k1, k2]
theorem s_keeps (n : Nat) (w : Int) (f : Fen) (xs : List Rat) (S : Store) (h0 : 0 ≤ w) (h1 : w ≤ 40) (hw : (f.row.length : Int) = w) (hx : (xs.length : Int) = w) (hf : FB f) (hp : PB xs) : callF P (n + 7) f_keeps [.int w, fend f, rowd xs] S = .ok (.bl (keepF f xs)) S := by
  refine call_clean P_keeps rfl rfl ?_
  simp [sm_keeps, startE, s_require_fenced n w f (h0 := h0) (h1 := h1) (h := hw), s_require_row (n + 2) w xs (hw := by omega) (h := hx), s_keeps_by (n + 1) f xs (hf := hf) (hl := by omega) (hp := hp)]
/-- the first broken fence -/
def brokenD (fs : List Fen) (xs : List Rat) : D := match fs.findIdx? fun f => !keepF f xs with
  | some i => .int (i : Nat)
  | none => .non
theorem broken_bare (fs : List Fen) (xs : List Rat) : (brokenD fs xs).noRefs = true := by
  unfold brokenD; split <;> rfl
theorem s_broken_by (n : Nat) (fs : List Fen) (xs : List Rat) (S : Store) (hf : ∀ f ∈ fs, FB f ∧ f.row.length ≤ 40) (hp : PB xs) : callF P (n + 6) f_broken_by [roomd fs, rowd xs] S = .ok (brokenD fs xs) S := by
  refine call_clean P_broken_by rfl (broken_bare _ _) ?_
  simp [sm_broken_by, startE, roomd, enum_map]
  refine wp_for (fun ys ρ S' => ∃ (rest : List Fen) (k : Nat) (o1 o2 : Option D), ys = (rest.zipIdx k).map (fun p => D.tup [.int (p.2 : Nat), fend p.1]) ∧ ρ = [some (roomd fs), some (rowd xs), o1, o2] ∧
    brokenD fs xs = (match rest.findIdx? fun f => !keepF f xs with | some i => .int ((i + k : Nat) : Int) | none => .non) ∧ (∀ f ∈ rest, FB f ∧ f.row.length ≤ 40) ∧ S' = S) ?_ ?_ ?_ _ _ _ ⟨fs, 0, none, none, rfl, rfl, by simp [brokenD], hf, rfl⟩
  · intro ys ρ S' _; exact gd_nil
  · rintro ρ S' ⟨rest, k, o1, o2, h1, rfl, h3, h4, rfl⟩
    cases rest with
    | nil => simp [h3]
    | cons a r => simp at h1
  · rintro x ys ρ S' ⟨rest, k, o1, o2, h1, rfl, h3, h4, rfl⟩ K' hn _ _ hr
    cases rest with
    | nil => simp at h1
    | cons a r =>
      simp only [List.zipIdx_cons, List.map_cons, List.cons.injEq] at h1
      obtain ⟨rfl, rfl⟩ := h1
      obtain ⟨ha, hal⟩ := h4 a List.mem_cons_self
      simp [s_keeps_by n a xs (hf := ha) (hl := hal) (hp := hp)]
      refine ⟨fun hk => ?_, fun hk => ?_⟩
      · simp [hr]
        rw [h3]
        simp [List.findIdx?_cons, hk]
      · refine hn _ _ ⟨r, k + 1, _, _, rfl, rfl, ?_, fun f hf' => h4 f (List.mem_cons_of_mem _ hf'), rfl⟩
        rw [h3]
        simp [List.findIdx?_cons, hk]
        cases r.findIdx? (fun f => !keepF f xs) with
        | none => rfl
        | some i => simp; omega
end K06

set_option Elab.async false
set_option linter.all false
set_option maxRecDepth 100000
set_option maxHeartbeats 1000000
namespace K06
open PySem PySem.Spec Pin
/-- a room of the width, within bounds -/
structure RB (w : Int) (fs : List Fen) : Prop where
  len : fs.length ≤ 80
  w0 : 0 ≤ w
  w1 : w ≤ 40
  row : ∀ f ∈ fs, (f.row.length : Int) = w
  b : ∀ f ∈ fs, FB f
theorem RB.bl {w : Int} {fs : List Fen} (h : RB w fs) : ∀ f ∈ fs, FB f ∧ f.row.length ≤ 40 := fun f hf => ⟨h.b f hf, by have := h.row f hf; have := h.w1; omega⟩
theorem s_holds_by (n : Nat) (fs : List Fen) (xs : List Rat) (S : Store) (hf : ∀ f ∈ fs, FB f ∧ f.row.length ≤ 40) (hp : PB xs) : callF P (n + 7) f_holds_by [roomd fs, rowd xs] S = .ok (.bl (fs.all fun f => keepF f xs)) S := by
  refine call_clean P_holds_by rfl rfl ?_
  simp [sm_holds_by, startE, s_broken_by n fs xs (hf := hf) (hp := hp)]
  unfold brokenD
  cases e : fs.findIdx? fun f => !keepF f xs with
  | none =>
    rw [List.findIdx?_eq_none_iff] at e
    have : (fs.all fun f => keepF f xs) = true := by
      rw [List.all_eq_true]; intro f hf; simpa using e f hf
    simp [this]
  | some i =>
    rw [List.findIdx?_eq_some_iff_getElem] at e
    obtain ⟨hi, h1, _⟩ := e
    have : (fs.all fun f => keepF f xs) = false := by
      rw [List.all_eq_false]; exact ⟨fs[i], List.getElem_mem hi, by simpa using h1⟩
    simp [this]
theorem s_does_hold (n : Nat) (w : Int) (fs : List Fen) (xs : List Rat) (S : Store) (h : RB w fs) (hx : (xs.length : Int) = w) (hp : PB xs) : callF P (n + 8) f_does_hold [.int w, roomd fs, rowd xs] S = .ok (.bl (fs.all fun f => keepF f xs)) S := by
  refine call_clean P_does_hold rfl rfl ?_
  simp [sm_does_hold, startE, s_require_roomed n w fs (h0 := h.w0) (h1 := h.w1) (hl := h.len) (h := h.row), s_require_row (n + 3) w xs (hw := by have := h.w1; omega) (h := hx), s_holds_by n fs xs (hf := h.bl) (hp := hp)]
theorem s_first_broken (n : Nat) (w : Int) (fs : List Fen) (xs : List Rat) (S : Store) (h : RB w fs) (hx : (xs.length : Int) = w) (hp : PB xs) : callF P (n + 8) f_first_broken [.int w, roomd fs, rowd xs] S = .ok (brokenD fs xs) S := by
  refine call_clean P_first_broken rfl (broken_bare _ _) ?_
  simp [sm_first_broken, startE, s_require_roomed n w fs (h0 := h.w0) (h1 := h.w1) (hl := h.len) (h := h.row), s_require_row (n + 3) w xs (hw := by have := h.w1; omega) (h := hx), s_broken_by (n + 1) fs xs (hf := h.bl) (hp := hp)]
/-! ### opposite fences, fences for all -/
def oppF (f : Fen) : Fen := ⟨f.row.map (fun x => -x), -f.b, !f.s⟩
theorem map_m1 (xs : List Rat) : xs.map (fun x => -1 * x) = xs.map (fun x => -x) := List.map_congr_left fun x _ => by grind
theorem qd_m1 : D.tup [.int (-1), .int 1] = qd (-1) := rfl
theorem den_m1 : (-1 : Rat).den = 1 := rfl
theorem num_m1 : (-1 : Rat).num = -1 := rfl
theorem den_0 : (0 : Rat).den = 1 := rfl
theorem num_0 : (0 : Rat).num = 0 := rfl
theorem one_lt2 (n : Nat) (h : n ≠ 0) : 1 < 2 ^ n := Nat.one_lt_pow h (by decide)
theorem ok_m1 : Ok (-1) := ⟨by rw [den_m1]; exact one_lt2 _ (by decide), by rw [num_m1]; exact one_lt2 _ (by decide)⟩
theorem Ok0 : Ok 0 := ⟨by rw [den_0]; exact one_lt2 _ (by decide), by rw [num_0]; exact Nat.pow_pos (by decide)⟩
theorem gFen {f : Fen} {g : GsM} {ρ : Pin.Env} {S : Store} {Q : Pin.Env → Store → Prop} : WP (Pin.gTup 3 g (fend f) ρ S) Q = WP (g [rowd f.row, qd f.b, .bl f.s] ρ S) Q := by
  show WP (Pin.gTup 3 g (.tup [rowd f.row, qd f.b, .bl f.s]) ρ S) Q = _
  rw [wp_gTup]; simp
theorem len3l : 3 ≤ sizeLine := by decide
theorem s_opposite_by (n : Nat) (f : Fen) (S : Store) (hf : FB f) (hl : f.row.length ≤ 40) : callF P (n + 5) f_opposite_by [fend f] S = .ok (fend (oppF f)) S := by
  refine call_clean P_opposite_by rfl (fen_bare _) ?_
  have h1 := fun S => s_times_row n (-1) f.row S (ha := ok_m1) (hx := hf.rok) (hl := by omega)
  simp only [map_m1] at h1
  simp only [sm_opposite_by, startE, x_sSeq, x_sAsg, x_eVar, wp_bind]
  rw [show varM (List.map some [fend f] ++ List.replicate (4 - [fend f].length) none) 0 = pure (fend f) from rfl, wp_pure, gFen]
  simp [wp_tupM, qd_m1, h1, s_opposite]
  exact ⟨len2l, len3l, by simp [fend, oppF]⟩
theorem s_opposite_rooms (n : Nat) (w : Int) (f : Fen) (S : Store) (h0 : 0 ≤ w) (h1 : w ≤ 40) (h : (f.row.length : Int) = w) (hf : FB f) : callF P (n + 7) f_opposite_rooms [.int w, fend f] S = .ok (fend (oppF f)) S := by
  refine call_clean P_opposite_rooms rfl (fen_bare _) ?_
  simp [sm_opposite_rooms, startE, s_require_fenced n w f (h0 := h0) (h1 := h1) (h := h), s_opposite_by (n + 1) f (hf := hf) (hl := by omega)]
theorem s_lopposite (n : Nat) (f : Fen) (S : Store) (hf : FB f) (hl : f.row.length ≤ 40) : callF P (n + 4) f__law_opposite [fend f] S = .ok (fend (oppF f)) S := by
  refine call_clean P__law_opposite rfl (fen_bare _) ?_
  have h1 := fun S => s_scaled n (-1) f.row S (ha := ok_m1) (hx := hf.rok) (hl := by omega)
  simp only [map_m1] at h1
  have h2 := s_times (n + 1) (-1) f.b (hx := ok_m1) (hy := hf.bok)
  have h3 : -1 * f.b = -f.b := by grind
  simp [sm__law_opposite, startE, wp_tupM, qd_m1, h1, h2, h3]
  exact ⟨len2l, len3l, by simp [fend, oppF]⟩
/-- held by every row -/
def forAll (f : Fen) : Bool := all0 f.row && (decide (f.b < 0) || (decide (f.b = 0) && !f.s))
theorem num_neg {q : Rat} : q.num < 0 ↔ q < 0 := by
  have h1 := @num_pos q
  have h2 := @Rat.num_eq_zero q
  have h3 := @Rat.num_nonneg q
  constructor
  · intro h
    have : ¬ 0 ≤ q := fun e => by have := h3.mpr e; omega
    grind
  · intro h
    have : ¬ 0 ≤ q.num := fun e => by have := h3.mp e; grind
    omega
theorem s_is_for_all_by (n : Nat) (f : Fen) (S : Store) : callF P (n + 3) f_is_for_all_by [fend f] S = .ok (.bl (forAll f)) S := by
  refine call_clean P_is_for_all_by rfl rfl ?_
  simp only [sm_is_for_all_by, startE, x_sSeq, x_sAsg, x_eVar, wp_bind]
  rw [show varM (List.map some [fend f] ++ List.replicate (4 - [fend f].length) none) 0 = pure (fend f) from rfl, wp_pure, gFen]
  simp [s_is_rest, num_neg, Rat.num_eq_zero]
  unfold forAll
  by_cases k1 : f.b < 0 <;> by_cases k2 : f.b = 0 <;> cases all0 f.row <;> simp [k1, k2]
theorem s_is_for_all (n : Nat) (w : Int) (f : Fen) (S : Store) (h0 : 0 ≤ w) (h1 : w ≤ 40) (h : (f.row.length : Int) = w) : callF P (n + 7) f_is_for_all [.int w, fend f] S = .ok (.bl (forAll f)) S := by
  refine call_clean P_is_for_all rfl rfl ?_
  simp [sm_is_for_all, startE, s_require_fenced n w f (h0 := h0) (h1 := h1) (h := h), s_is_for_all_by (n + 3) f]
theorem s_is_for_none (n : Nat) (w : Int) (f : Fen) (S : Store) (h0 : 0 ≤ w) (h1 : w ≤ 40) (h : (f.row.length : Int) = w) (hf : FB f) : callF P (n + 7) f_is_for_none [.int w, fend f] S = .ok (.bl (forAll (oppF f))) S := by
  refine call_clean P_is_for_none rfl rfl ?_
  have key : ∀ S, callF P (n + 6) f_is_for_none_by [fend f] S = .ok (.bl (forAll (oppF f))) S := fun S => by
    refine call_clean P_is_for_none_by rfl rfl ?_
    simp [sm_is_for_none_by, startE, s_opposite_by n f (hf := hf) (hl := by omega), s_is_for_all_by (n + 2)]
  simp [sm_is_for_none, startE, s_require_fenced n w f (h0 := h0) (h1 := h1) (h := h), key]
/-- what a rest row's fence says -/
def truthF (f : Fen) : Bool := decide (f.b < 0) || (!f.s && decide (f.b = 0))
theorem s_ltruth (n : Nat) (f : Fen) (S : Store) (hf : FB f) : callF P (n + 2) f__law_truth_of [fend f] S = .ok (.bl (truthF f)) S := by
  refine call_clean P__law_truth_of rfl rfl ?_
  simp [sm__law_truth_of, startE, wp_tupM, qd_zero, s_less n f.b 0 (hx := hf.bok) (hy := Ok0), eq_qd]
  refine ⟨len2l, ?_⟩
  unfold truthF
  by_cases k1 : f.b < 0 <;> by_cases k2 : f.b = 0 <;> cases f.s <;> simp [k1, k2, len2l]
theorem forAll_truth (f : Fen) : forAll f = (all0 f.row && truthF f) := by
  unfold forAll truthF
  cases f.s <;> simp
/-! ### fences times so much -/
def mulF (a : Rat) (f : Fen) : Fen := ⟨f.row.map (a * ·), a * f.b, f.s⟩
theorem s_times_fence (n : Nat) (w : Int) (a : Rat) (f : Fen) (S : Store) (h0 : 0 ≤ w) (h1 : w ≤ 40) (h : (f.row.length : Int) = w) (hf : FB f) (ha : 0 < a) (oa : Ok a) : callF P (n + 6) f_times_fence [.int w, qd a, fend f] S = .ok (fend (mulF a f)) S := by
  refine call_clean P_times_fence rfl (fen_bare _) ?_
  have k1 : ∀ S, callF P (n + 5) f_require_number [qd a] S = .ok .non S := fun S => by
    refine call_clean P_require_number rfl rfl ?_
    simp [sm_require_number, startE, s_is_number (n := n + 2) (h := vok_qd _ a), num_qd]
  have k2 := s_times_row (n + 1) a f.row (ha := oa) (hx := hf.rok) (hl := by omega)
  have k3 := s_multiplied (n + 2) a f.b (hx := oa) (hy := hf.bok)
  have k4 : ¬ a.num ≤ 0 := by have := num_pos.mpr ha; omega
  simp [sm_times_fence, startE, s_require_width (n + 2) w (h0 := h0) (h1 := h1), k1, s_require_fence n w f (hw := by omega) (h := h), k2, k3, k4, wp_tupM]
  exact ⟨len3l, rfl⟩
end K06

set_option Elab.async false
set_option linter.all false
set_option maxRecDepth 100000
set_option maxHeartbeats 400000
namespace K06
open PySem PySem.Spec Pin
/-! ### weighted sums of a room -/
def stepF (s : List Rat × Rat) (p : Fen × Rat) : List Rat × Rat := (List.zipWith (· + ·) s.1 (p.1.row.map (p.2 * ·)), s.2 + p.2 * p.1.b)
def sumF (w : Nat) (ps : List (Fen × Rat)) : List Rat × Rat := ps.foldl stepF (List.replicate w 0, 0)
def WB (ws : List Rat) : Prop := ∀ a ∈ ws, Z 40 300 a
/-- how far a sum has come -/
structure SB (w : Nat) (i : Nat) (s : List Rat × Rat) : Prop where
  len : s.1.length = w
  row : ∀ x ∈ s.1, Z 44 (2300 + i * 3345) x
  b : Z 45 (10300 + i * 3421) s.2
theorem Z0 (n e : Nat) : Z n e 0 := ⟨Nat.one_dvd _, by rw [num_0]; exact Nat.pow_pos (by decide)⟩
theorem SB.start (w : Nat) : SB w 0 (List.replicate w 0, 0) := ⟨by simp, fun x hx => by rw [List.eq_of_mem_replicate hx]; exact Z0 _ _, Z0 _ _⟩
theorem zw_mem {f : Rat → Rat → Rat} {xs ys : List Rat} {z : Rat} (h : z ∈ List.zipWith f xs ys) : ∃ x ∈ xs, ∃ y ∈ ys, z = f x y := by
  induction xs generalizing ys with
  | nil => simp at h
  | cons x xs ih =>
    cases ys with
    | nil => simp at h
    | cons y ys =>
      rw [List.zipWith_cons_cons] at h
      rcases List.mem_cons.mp h with rfl | h
      · exact ⟨x, by simp, y, by simp, rfl⟩
      · obtain ⟨a, h1, b, h2, h3⟩ := ih h
        exact ⟨a, List.mem_cons_of_mem _ h1, b, List.mem_cons_of_mem _ h2, h3⟩
theorem SB.step {w i : Nat} {s : List Rat × Rat} {p : Fen × Rat} (h : SB w i s) (hf : FB p.1) (hl : p.1.row.length = w) (ha : Z 40 300 p.2) : SB w (i + 1) (stepF s p) := by
  refine ⟨?_, fun z hz => ?_, ?_⟩
  · show (List.zipWith (· + ·) s.1 (p.1.row.map (p.2 * ·))).length = w
    rw [List.length_zipWith, List.length_map, hl, h.len]; omega
  · obtain ⟨x, hx, y, hy, rfl⟩ := zw_mem hz
    obtain ⟨u, hu, rfl⟩ := List.mem_map.mp hy
    have h1 : Z 44 (2300 + i * 3345) (p.2 * u) := (ha.mul (hf.row u hu)).mono (by decide) (by omega)
    exact ((h.row x hx).add h1 LLpos LLlt).mono (by decide) (by omega)
  · have h1 : Z 45 (10300 + i * 3421) (p.2 * p.1.b) := (ha.mul hf.b).mono (by decide) (by omega)
    exact (h.b.add h1 LLpos LLlt).mono (by decide) (by omega)
theorem SB.rok {w i : Nat} {s : List Rat × Rat} (h : SB w i s) (hi : i ≤ 100) : ∀ x ∈ s.1, Ok x := fun x hx => (h.row x hx).ok (by decide) (by omega)
theorem SB.bok {w i : Nat} {s : List Rat × Rat} (h : SB w i s) (hi : i ≤ 100) : Ok s.2 := h.b.ok (by decide) (by omega)
theorem step_zero {w i : Nat} {s : List Rat × Rat} {f : Fen} (h : SB w i s) (hl : f.row.length = w) : stepF s (f, 0) = s := by
  have h1 : ∀ (xs ys : List Rat), xs.length = ys.length → List.zipWith (· + ·) xs (ys.map ((0 : Rat) * ·)) = xs := by
    intro xs
    induction xs with
    | nil => intro ys _; rfl
    | cons x xs ih =>
      intro ys hy
      cases ys with
      | nil => simp at hy
      | cons y ys =>
        rw [List.map_cons, List.zipWith_cons_cons, ih ys (by simpa using hy), Rat.zero_mul, Rat.add_zero]
  show (List.zipWith (· + ·) s.1 (f.row.map ((0 : Rat) * ·)), s.2 + 0 * f.b) = s
  rw [h1 s.1 f.row (by rw [h.len, hl]), Rat.zero_mul, Rat.add_zero]
theorem room_zip (fs : List Fen) (ws : List Rat) : pairsD (fs.map fend) (ws.map qd) = (fs.zip ws).map fun p => .tup [fend p.1, qd p.2] := pairs_map fend qd fs ws
/-- fences and weights that go together -/
structure GB (w : Nat) (ps : List (Fen × Rat)) : Prop where
  len : ps.length ≤ 100
  f : ∀ p ∈ ps, FB p.1 ∧ p.1.row.length = w ∧ Z 40 300 p.2
theorem s_summed_by (n w : Nat) (fs : List Fen) (ws : List Rat) (S : Store) (hw : w ≤ 40) (h : GB w (fs.zip ws)) :
    callF P (n + 5) f_summed_by [.int w, roomd fs, rowd ws] S = .ok (.tup [rowd (sumF w (fs.zip ws)).1, qd (sumF w (fs.zip ws)).2]) S := by
  refine call_clean P_summed_by rfl (by simp) ?_
  simp [sm_summed_by, startE, roomd, rowd, s_rest_row (n + 3) w (h := by omega), room_zip]
  refine wp_for (fun zs ρ S' => ∃ (r : List (Fen × Rat)) (s : List Rat × Rat) (i : Nat) (o1 o2 : Option D), zs = r.map (fun p => D.tup [fend p.1, qd p.2]) ∧ ρ = [some (.int w), some (roomd fs), some (rowd ws), some (rowd s.1), some (qd s.2), o1, o2] ∧ r.foldl stepF s = sumF w (fs.zip ws) ∧ S' = S ∧
    (∀ p ∈ r, FB p.1 ∧ p.1.row.length = w ∧ Z 40 300 p.2) ∧ SB w i s ∧ i + r.length ≤ 100) ?_ ?_ ?_ _ _ _
    ⟨fs.zip ws, (List.replicate w 0, 0), 0, none, none, rfl, by simp [roomd, rowd, qd_zero], rfl, rfl, h.f, SB.start w, by have := h.len; omega⟩
  · intro zs ρ S' _; exact gd_nil
  · rintro ρ S' ⟨r, s, i, o1, o2, h1, rfl, h3, rfl, _, hs, _⟩
    cases r with
    | nil =>
      have h4 : s = sumF w (fs.zip ws) := h3
      simp [wp_tupM, h4]
      exact ⟨len2l, rfl⟩
    | cons p r => simp at h1
  · rintro z zs ρ S' ⟨r, s, i, o1, o2, h1, rfl, h3, rfl, hp, hs, hc⟩ K' hn _ _ _
    cases r with
    | nil => simp at h1
    | cons p r =>
      simp only [List.map_cons, List.cons.injEq] at h1
      obtain ⟨rfl, rfl⟩ := h1
      obtain ⟨p1, p2, p3⟩ := hp p List.mem_cons_self
      rw [List.length_cons] at hc
      have hpr := fun q hq => hp q (List.mem_cons_of_mem p hq)
      by_cases hz : p.2 = 0
      · have hst : stepF s p = s := by
          have : p = (p.1, 0) := by rw [← hz]
          rw [this]; exact step_zero hs p2
        simp [qd_zero, eq_qd, hz]
        rw [List.foldl_cons, hst] at h3
        exact hn _ _ ⟨r, s, i, _, _, rfl, rfl, h3, rfl, hpr, hs, by omega⟩
      · have o1 : Ok p.2 := p3.ok (by decide) (by decide)
        have k1 := fun S => s_times_row n p.2 p.1.row S (ha := o1) (hx := p1.rok) (hl := by omega)
        have hs2 := hs.step p1 p2 p3
        have k2 := fun S => s_sum_of_rows n s.1 (p.1.row.map (p.2 * ·)) S (hx := hs.rok (by omega)) (hy := fun x hx => by
          obtain ⟨u, hu, rfl⟩ := List.mem_map.mp hx
          exact Sz.ok (p3.mul (p1.row u hu)) LLpos LLlt (by decide) (by decide)) (hl := by rw [hs.len]; omega)
        have k3 := fun S => s_multiplied (n + 1) p.2 p.1.b S (hx := o1) (hy := p1.bok)
        have k4 := fun S => s_added (n + 1) s.2 (p.2 * p.1.b) S (hx := hs.bok (by omega)) (hy := Sz.ok (p3.mul p1.b) LLpos LLlt (by decide) (by decide))
        simp [qd_zero, eq_qd, hz, k1, k2, k3, k4]
        exact hn _ _ ⟨r, stepF s p, i + 1, _, _, rfl, rfl, h3, rfl, hpr, hs2, by omega⟩
theorem s_lsummed (n w : Nat) (fs : List Fen) (ws : List Rat) (S : Store) (hw : w ≤ 40) (h : GB w (fs.zip ws)) :
    callF P (n + 4) f__law_summed [.int w, roomd fs, rowd ws] S = .ok (.tup [rowd (sumF w (fs.zip ws)).1, qd (sumF w (fs.zip ws)).2]) S := by
  refine call_clean P__law_summed rfl (by simp) ?_
  have w1 : ((w : Int) ≤ 1000) := by omega
  have w2 : (-4611686018427387904 : Int) ≤ (w : Int) := by omega
  have w3 : (List.replicate w [D.tup [D.int 0, D.int 1]]).flatten = (List.replicate w (0 : Rat)).map qd := by
    clear h w1 w2 hw
    induction w with
    | zero => rfl
    | succ w ih => rw [List.replicate_succ, List.replicate_succ, List.flatten_cons, List.map_cons, ih]; rfl
  simp [sm__law_summed, startE, roomd, rowd, wp_tupM, w1, w2, repD, w3, room_zip]
  refine ⟨len2l, by decide, len2l, ?_⟩
  refine wp_for (fun zs ρ S' => ∃ (r : List (Fen × Rat)) (s : List Rat × Rat) (i : Nat) (o1 o2 : Option D), zs = r.map (fun p => D.tup [fend p.1, qd p.2]) ∧ ρ = [some (.int w), some (roomd fs), some (rowd ws), some (rowd s.1), some (qd s.2), o1, o2] ∧ r.foldl stepF s = sumF w (fs.zip ws) ∧ S' = S ∧
    (∀ p ∈ r, FB p.1 ∧ p.1.row.length = w ∧ Z 40 300 p.2) ∧ SB w i s ∧ i + r.length ≤ 100) ?_ ?_ ?_ _ _ _
    ⟨fs.zip ws, (List.replicate w 0, 0), 0, none, none, rfl, by simp [roomd, rowd, qd_zero], rfl, rfl, h.f, SB.start w, by have := h.len; omega⟩
  · intro zs ρ S' _; exact gd_nil
  · rintro ρ S' ⟨r, s, i, o1, o2, h1, rfl, h3, rfl, _, hs, _⟩
    cases r with
    | nil =>
      have h4 : s = sumF w (fs.zip ws) := h3
      simp [wp_tupM, h4, rowd]
      exact len2l
    | cons p r => simp at h1
  · rintro z zs ρ S' ⟨r, s, i, o1, o2, h1, rfl, h3, rfl, hp, hs, hc⟩ K' hn _ _ _
    cases r with
    | nil => simp at h1
    | cons p r =>
      simp only [List.map_cons, List.cons.injEq] at h1
      obtain ⟨rfl, rfl⟩ := h1
      obtain ⟨p1, p2, p3⟩ := hp p List.mem_cons_self
      rw [List.length_cons] at hc
      have hpr := fun q hq => hp q (List.mem_cons_of_mem p hq)
      have o1 : Ok p.2 := p3.ok (by decide) (by decide)
      have k1 := fun S => s_scaled n p.2 p.1.row S (ha := o1) (hx := p1.rok) (hl := by omega)
      have hs2 := hs.step p1 p2 p3
      have k2 := fun S => s_ladded n s.1 (p.1.row.map (p.2 * ·)) S (hx := hs.rok (by omega)) (hy := fun x hx => by
        obtain ⟨u, hu, rfl⟩ := List.mem_map.mp hx
        exact Sz.ok (p3.mul (p1.row u hu)) LLpos LLlt (by decide) (by decide)) (hl := by rw [hs.len]; omega)
      have k3 := fun S => s_times (n + 1) p.2 p.1.b S (hx := o1) (hy := p1.bok)
      have k4 := fun S => s_plus (n + 1) s.2 (p.2 * p.1.b) S (hx := hs.bok (by omega)) (hy := Sz.ok (p3.mul p1.b) LLpos LLlt (by decide) (by decide))
      simp [k1, k2, k3, k4]
      exact hn _ _ ⟨r, stepF s p, i + 1, _, _, rfl, rfl, h3, rfl, hpr, hs2, by omega⟩
/-! ### bars -/
theorem isNum_qd : ∀ {d : D}, isNum d = true → ∃ r, d = qd r
  | .tup [.int a, .int b], h => by
    have h' : (decide (1 ≤ b) && decide (Int.gcd a b = 1)) = true := h
    rw [Bool.and_eq_true, decide_eq_true_eq, decide_eq_true_eq] at h'
    obtain ⟨m, rfl⟩ := Int.eq_ofNat_of_zero_le (show 0 ≤ b by omega)
    exact ⟨⟨a, m, by omega, h'.2⟩, rfl⟩
theorem all_qd : ∀ {xs : List D}, xs.all isNum = true → ∃ rs : List Rat, xs = rs.map qd
  | [], _ => ⟨[], rfl⟩
  | x :: xs, h => by
    rw [List.all_cons, Bool.and_eq_true] at h
    obtain ⟨r, rfl⟩ := isNum_qd h.1
    obtain ⟨rs, rfl⟩ := all_qd h.2
    exact ⟨r :: rs, rfl⟩
theorem row_or (k : Int) (d : D) : (∃ rs : List Rat, d = rowd rs ∧ (rs.length : Int) = k) ∨ isRow k d = false := by
  cases d with
  | tup xs =>
    by_cases h : isRow k (.tup xs) = true
    · have h' : (decide ((xs.length : Int) = k) && xs.all isNum) = true := h
      rw [Bool.and_eq_true, decide_eq_true_eq] at h'
      obtain ⟨rs, rfl⟩ := all_qd h'.2
      exact .inl ⟨rs, rfl, by simpa using h'.1⟩
    · exact .inr (by simpa using h)
  | _ => exact .inr rfl
theorem s_require_rm (n w : Nat) (fs : List Fen) (S : Store) (h : RB w fs) : callF P (n + 7) f_require_roomed [.int w, roomd fs] S = .ok .non S := s_require_roomed n w fs S (by omega) h.w1 h.len h.row
def nonneg (ws : List Rat) : Bool := ws.all fun a => decide (0 ≤ a)
theorem s_weights_row (n : Nat) (fs : List Fen) (ws : List Rat) (S : Store) (hl : fs.length ≤ 100) (hw : ws.length = fs.length) : callF P (n + 4) f_are_weights [roomd fs, rowd ws] S = .ok (.bl (nonneg ws)) S := by
  refine call_clean P_are_weights rfl rfl ?_
  have k1 := s_is_plain_row n (fs.length : Int) (rowd ws) S (h := vok_row _ _) (hw := by omega)
  rw [isRow_row, decide_eq_true (by omega)] at k1
  have key := lcL_map (gd := []) (g := Pin.gName 2) (e := eCmp .ge (eIx (eVar 2) (eCon (.int 0))) (eCon (.int 0))) (c := callF P (n + 3)) (ρ := [some (roomd fs), some (rowd ws), none]) (S := S)
    qd (fun a => .bl (decide (0 ≤ a))) gd_nil ws fun a _ => by
      simp [Rat.num_nonneg]
  simp [roomd, rowd] at k1 key
  simp [sm_are_weights, startE, roomd, rowd, wipeE, k1, key, wp_fits, wp_getL get_end, allBl_map, all_id, nonneg]
  exact le_line (by omega)
theorem s_weights_not (n : Nat) (fs : List Fen) (d : D) (S : Store) (h : VOk S d) (hl : fs.length ≤ 100) (hd : isRow fs.length d = false) : callF P (n + 4) f_are_weights [roomd fs, d] S = .ok (.bl false) S := by
  refine call_clean P_are_weights rfl rfl ?_
  have k1 := s_is_plain_row n (fs.length : Int) d S (h := h) (hw := by omega)
  rw [hd] at k1
  simp [sm_are_weights, startE, roomd, k1]
end K06

set_option Elab.async false
set_option linter.all false
set_option maxRecDepth 100000
set_option maxHeartbeats 400000
namespace K06
open PySem PySem.Spec Pin
def anyS (ps : List (Fen × Rat)) : Bool := ps.any fun p => p.1.s && decide (0 < p.2)
def barS (s : List Rat × Rat) (ps : List (Fen × Rat)) : Bool := all0 s.1 && (decide (0 < s.2) || (decide (s.2 = 0) && anyS ps))
def barV (w : Nat) (fs : List Fen) (ws : List Rat) : Bool := nonneg ws && barS (sumF w (fs.zip ws)) (fs.zip ws)
theorem any_id {α : Type} (f : α → Bool) (xs : List α) : (xs.map f).any id = xs.any f := by simp [List.any_map]
theorem zip_room (fs : List Fen) (ws : List Rat) : zipM (roomd fs) (rowd ws) = pure ⟨[], (fs.zip ws).map fun p => .tup [fend p.1, qd p.2]⟩ := by
  rw [← room_zip]; rfl
theorem GB.of {w : Nat} {fs : List Fen} {ws : List Rat} (h : RB w fs) (hb : WB ws) : GB w (fs.zip ws) :=
  ⟨by have := zip_le fs ws; have := h.len; omega, fun p hp => ⟨h.b _ (zip_mem hp).1, by have := h.row _ (zip_mem hp).1; omega, hb _ (zip_mem hp).2⟩⟩
theorem s_is_bar_row (n w : Nat) (fs : List Fen) (ws : List Rat) (S : Store) (h : RB w fs) (hl : ws.length = fs.length) (hb : WB ws) : callF P (n + 8) f_is_bar [.int w, roomd fs, rowd ws] S = .ok (.bl (barV w fs ws)) S := by
  have hw : w ≤ 40 := by have := h.w1; omega
  have hlen := h.len
  have G := GB.of h hb
  have key : ∀ S, callF P (n + 7) f_is_bar_by [.int w, roomd fs, rowd ws] S = .ok (.bl (barV w fs ws)) S := fun S => by
    refine call_clean P_is_bar_by rfl rfl ?_
    have k1 := fun S => s_weights_row (n + 2) fs ws S (hl := by omega) (hw := hl)
    have k2 := fun S => s_summed_by (n + 1) w fs ws S hw G
    simp only [sm_is_bar_by, startE, x_sSeq, x_sIf, x_tNot, x_tVal, x_eCall, x_lCons, x_lNil, x_eVar, wp_bind]
    simp [k1]
    unfold barV
    cases hn : nonneg ws with
    | false => simp
    | true =>
      simp [k2]
      have key2 := fun (a b : D) => lcL_map (gd := []) (g := Pin.gTup 2 (Pin.gCons (Pin.gName 5) (Pin.gCons (Pin.gName 6) Pin.gNil))) (e := eAnd (eIx (eVar 5) (eCon (.int 2))) (eCmp .gt (eIx (eVar 6) (eCon (.int 0))) (eCon (.int 0)))) (c := callF P (n + 6)) (ρ := [some (.int w), some (roomd fs), some (rowd ws), some a, some b, none, none]) (S := S)
        (fun p : Fen × Rat => D.tup [fend p.1, qd p.2]) (fun p => .bl (p.1.s && decide (0 < p.2))) gd_nil (fs.zip ws) fun p _ => by
          simp [num_pos]
          cases p.1.s <;> simp
      have hz : (fs.zip ws).length ≤ sizeLine := le_line (by have := G.len; omega)
      generalize sumF w (fs.zip ws) = s at *
      unfold barS
      cases h0 : all0 s.1 with
      | false => simp [s_is_rest, h0]
      | true =>
        simp [s_is_rest, h0, num_neg, num_pos]
        refine ⟨fun q => ?_, fun q => ⟨fun q2 => ?_, fun q2 => ?_⟩⟩
        · have q1 : ¬ 0 < s.2 := by grind
          have q3 : ¬ s.2 = 0 := by grind
          simp [q1, q3]
        · simp [q2]
        · have q1 : ¬ 0 < s.2 := by rw [← num_pos]; omega
          have q3 : s.2 = 0 := by grind
          simp [zip_room, wipeE, key2, wp_fits, wp_getL get_end, allBl_map, any_id, q1, q3, anyS]
          simpa using hz
  refine call_clean P_is_bar rfl rfl ?_
  simp [sm_is_bar, startE, s_require_rm n w fs (h := h), key]
theorem s_is_bar_not (n w : Nat) (fs : List Fen) (d : D) (S : Store) (h : RB w fs) (hv : VOk S d) (hd : isRow fs.length d = false) : callF P (n + 8) f_is_bar [.int w, roomd fs, d] S = .ok (.bl false) S := by
  have hlen := h.len
  have key : callF P (n + 7) f_is_bar_by [.int w, roomd fs, d] S = .ok (.bl false) S := by
    refine call_clean P_is_bar_by rfl rfl ?_
    have k1 := s_weights_not (n + 2) fs d S (h := hv) (hl := by omega) (hd := hd)
    simp only [sm_is_bar_by, startE, x_sSeq, x_sIf, x_tNot, x_tVal, x_eCall, x_lCons, x_lNil, x_eVar, wp_bind]
    simp [k1]
  refine call_clean P_is_bar rfl rfl ?_
  simp [sm_is_bar, startE, s_require_rm n w fs (h := h), key]
/-! the law's word for it -/
theorem filter_ne {α : Type} (f : α → Bool) (xs : List α) : (xs.filter f).isEmpty = xs.all fun x => !f x := by
  induction xs with
  | nil => rfl
  | cons x xs ih =>
    cases h : f x with
    | true => rw [List.filter_cons_of_pos h, List.all_cons, h]; rfl
    | false => rw [List.filter_cons_of_neg (by simp [h]), List.all_cons, h, Bool.not_false, Bool.true_and, ih]
end K06

set_option Elab.async false
set_option linter.all false
set_option maxRecDepth 100000
set_option maxHeartbeats 400000
namespace K06
open PySem PySem.Spec Pin
theorem eq_new (S : Store) (xs : List D) : eqM (.ref S.length) (.ref (S.length + 1)) (S ++ [.lst xs, .lst []]) = .ok xs.isEmpty (S ++ [.lst xs, .lst []]) :=
  eq_nil (by simp) (by simp)
theorem s_lis_bar_row (n w : Nat) (fs : List Fen) (ws : List Rat) (S : Store) (h : RB w fs) (hl : ws.length = fs.length) (hb : WB ws) : callF P (n + 5) f__law_is_bar [.int w, roomd fs, rowd ws] S = .ok (.bl (barV w fs ws)) S := by
  have hw : w ≤ 40 := by have := h.w1; omega
  have hlen := h.len
  have G := GB.of h hb
  refine call_clean P__law_is_bar rfl rfl ?_
  have k1 := fun S => s_lis_row (n + 1) (fs.length : Int) (rowd ws) S (h := vok_row _ _) (hw := by omega) (hb := fun x hx => by
    obtain ⟨a, ha, rfl⟩ := List.mem_map.mp hx
    have z := hb a ha
    refine ⟨Nat.lt_of_lt_of_le z.num (Nat.pow_le_pow_right (by decide) (by decide)), ?_⟩
    have o : Ok a := z.ok (by decide) (by decide)
    rw [Int.natAbs_natCast]
    exact Nat.lt_of_lt_of_le o.den (Nat.pow_le_pow_right (by decide) (by decide)))
  have e1 : isRow (fs.length : Int) (rowd ws) = true := by rw [isRow_row, decide_eq_true (by omega)]
  rw [e1] at k1
  have k2 := fun S => s_lsummed n w fs ws S hw G
  have key1 := fun S => lcL_filter (gd := []) (g := Pin.gName 8) (t := Pin.tCmp .lt (eIx (eVar 8) (eCon (.int 0))) (eCon (.int 0))) (e := eVar 8) (c := callF P (n + 4)) (ρ := [some (.int w), some (roomd fs), some (rowd ws), none, none, none, none, none, none]) (S := S)
    qd (fun a => decide (a < 0)) qd gd_nil ws fun a _ => by
      simp [num_neg]
  simp only [sm__law_is_bar, startE, x_sSeq, x_sIf, x_tNot, x_tOr, x_tVal, x_tCmp, x_eCall, x_eBi, x_lCons, x_lNil, x_eVar, wp_bind]
  simp [roomd, rowd] at k1 k2 key1
  simp [roomd, rowd, k1, wipeE, key1, wp_fits, wp_lstM]
  refine ⟨le_line (Nat.le_trans (List.length_filter_le _ _) (by omega)), ?_⟩
  rw [eq_new]
  have e2 : ((ws.filter fun a => decide (a < 0)).map qd).isEmpty = nonneg ws := by
    rw [List.isEmpty_map, filter_ne]
    unfold nonneg
    congr 1; funext a; by_cases q : 0 ≤ a <;> simp [q] <;> grind
  rw [e2]
  generalize hS1 : S ++ [Ob.lst ((ws.filter fun a => decide (a < 0)).map qd), Ob.lst []] = S1
  rw [wp_ok]
  unfold barV
  cases hn : nonneg ws with
  | false => simp [← hS1]
  | true =>
    have hz : (fs.zip ws).length ≤ sizeLine := le_line (by have := G.len; omega)
    have hlr : (sumF w (fs.zip ws)).1.length ≤ 1000 := by
      have : ∀ (ps : List (Fen × Rat)) (s : List Rat × Rat) (i : Nat), (∀ p ∈ ps, FB p.1 ∧ p.1.row.length = w ∧ Z 40 300 p.2) → SB w i s → ∃ j, SB w j (ps.foldl stepF s) := by
        intro ps
        induction ps with
        | nil => intro s i _ hs; exact ⟨i, hs⟩
        | cons p ps ih => intro s i hp hs; obtain ⟨q1, q2, q3⟩ := hp p List.mem_cons_self; exact ih _ _ (fun q hq => hp q (List.mem_cons_of_mem p hq)) (hs.step q1 q2 q3)
      obtain ⟨j, hj⟩ := this (fs.zip ws) (List.replicate w 0, 0) 0 G.f (SB.start w)
      have := hj.len
      show (List.foldl stepF (List.replicate w 0, 0) (fs.zip ws)).1.length ≤ 1000
      omega
    have key2 := fun (S : Store) (b : D) => lcL_filter (gd := []) (g := Pin.gName 8) (t := Pin.tCmp .ne (eIx (eVar 8) (eCon (.int 0))) (eCon (.int 0))) (e := eVar 8) (c := callF P (n + 4)) (ρ := [some (.int w), some (.tup (fs.map fend)), some (.tup (ws.map qd)), some (.tup ((sumF w (fs.zip ws)).1.map qd)), some b, none, none, none, none]) (S := S)
      qd (fun a => !decide (a = 0)) qd gd_nil (sumF w (fs.zip ws)).1 fun a _ => by
        simp [Rat.num_eq_zero]
    have key3 := fun (S : Store) (a b : D) => lcL_filter (gd := []) (g := Pin.gTup 2 (Pin.gCons (Pin.gName 6) (Pin.gCons (Pin.gName 7) Pin.gNil))) (t := Pin.tAnd (tVal (eIx (eVar 6) (eCon (.int 2)))) (Pin.tCmp .gt (eIx (eVar 7) (eCon (.int 0))) (eCon (.int 0)))) (e := eCon (.int 1)) (c := callF P (n + 4)) (ρ := [some (.int w), some (.tup (fs.map fend)), some (.tup (ws.map qd)), some a, some b, none, none, none, none]) (S := S)
      (fun p : Fen × Rat => D.tup [fend p.1, qd p.2]) (fun p => p.1.s && decide (0 < p.2)) (fun _ => .int 1) gd_nil (fs.zip ws) fun p _ => by
        simp [num_pos]
        cases p.1.s <;> simp
    simp [k2, key2]
    generalize sumF w (fs.zip ws) = s at *
    refine ⟨le_line (Nat.le_trans (List.length_filter_le _ _) hlr), ?_⟩
    rw [eq_new]
    have e3 : ((s.1.filter fun a => !decide (a = 0)).map qd).isEmpty = all0 s.1 := by
      rw [List.isEmpty_map, filter_ne]
      unfold all0
      congr 1; funext a; simp
    rw [e3]
    generalize hS2 : S1 ++ [Ob.lst ((s.1.filter fun a => !decide (a = 0)).map qd), Ob.lst []] = S2
    rw [wp_ok]
    have hS : ∃ G, S2 = S ++ G := by rw [← hS2, ← hS1]; exact ⟨_, List.append_assoc ..⟩
    unfold barS
    cases h0 : all0 s.1 with
    | false => simpa using hS
    | true =>
      simp [room_zip, key3, num_pos, Rat.num_eq_zero]
      obtain ⟨G', hG⟩ := hS
      have e4 : (((fs.zip ws).filter fun p => p.1.s && decide (0 < p.2)).map fun _ => D.int 1).isEmpty = !anyS (fs.zip ws) := by
        rw [List.isEmpty_map, filter_ne]
        unfold anyS
        rw [List.not_any_eq_all_not]
      refine ⟨Nat.le_trans (List.length_filter_le _ _) hz, ⟨fun q => ⟨fun _ _ => q, ⟨_, by rw [hG, List.append_assoc]⟩⟩, fun q => ⟨fun q0 => ?_, fun q0 => ⟨?_, ⟨_, by rw [hG, List.append_assoc]⟩⟩⟩⟩⟩
      · have q1 : ¬ 0 < s.2 := by rw [← num_pos]; omega
        rw [eq_new, e4, wp_ok]
        exact ⟨by simp [q0], ⟨_, by rw [hG, List.append_assoc]⟩⟩
      · have q1 : ¬ 0 < s.2 := by rw [← num_pos]; omega
        simp [q0, q1]
theorem s_lis_bar_not (n w : Nat) (fs : List Fen) (d : D) (S : Store) (h : RB w fs) (hv : VOk S d) (hb : rowB d) (hd : isRow fs.length d = false) : callF P (n + 5) f__law_is_bar [.int w, roomd fs, d] S = .ok (.bl false) S := by
  have hlen := h.len
  refine call_clean P__law_is_bar rfl rfl ?_
  have k1 := s_lis_row (n + 1) (fs.length : Int) d S (h := hv) (hw := by omega) (hb := hb)
  rw [hd] at k1
  simp only [sm__law_is_bar, startE, x_sSeq, x_sIf, x_tNot, x_tOr, x_tVal, x_tCmp, x_eCall, x_eBi, x_lCons, x_lNil, x_eVar, wp_bind]
  simp [roomd, k1]
/-- what the law's other word is, of any value -/
theorem s_summed (n w : Nat) (fs : List Fen) (ws : List Rat) (S : Store) (h : RB w fs) (hl : ws.length = fs.length) (hb : WB ws) (hn : nonneg ws = true) :
    callF P (n + 8) f_summed [.int w, roomd fs, rowd ws] S = .ok (.tup [rowd (sumF w (fs.zip ws)).1, qd (sumF w (fs.zip ws)).2]) S := by
  have hw : w ≤ 40 := by have := h.w1; omega
  have hlen := h.len
  have G := GB.of h hb
  refine call_clean P_summed rfl (by simp) ?_
  have k1 := fun S => s_weights_row (n + 3) fs ws S (hl := by omega) (hw := hl)
  rw [hn] at k1
  have k2 := fun S => s_summed_by (n + 2) w fs ws S hw G
  simp [sm_summed, startE, s_require_rm n w fs (h := h), k1, k2]
end K06

set_option Elab.async false
set_option linter.all false
set_option maxRecDepth 100000
set_option maxHeartbeats 400000
namespace K06
open PySem PySem.Spec Pin
/-! ### fences alike -/
def leadF (xs : List Rat) : Rat := (xs.filter fun x => !decide (x = 0)).headD 0
theorem lead_ne {xs : List Rat} (h : all0 xs = false) : leadF xs ≠ 0 ∧ leadF xs ∈ xs ∧ ∃ r, (xs.filter fun x => !decide (x = 0)) = leadF xs :: r := by
  unfold leadF
  cases e : xs.filter fun x => !decide (x = 0) with
  | nil =>
    have : (xs.filter fun x => !decide (x = 0)).isEmpty = true := by rw [e]; rfl
    rw [filter_ne] at this
    unfold all0 at h
    simp at this h
    obtain ⟨x, hx, h⟩ := h
    exact absurd (this x hx) h
  | cons a r =>
    have hm : a ∈ xs.filter fun x => !decide (x = 0) := by rw [e]; exact List.mem_cons_self
    rw [List.mem_filter] at hm
    exact ⟨by simpa using hm.2, hm.1, r, rfl⟩
def ab (q : Rat) : Rat := if q < 0 then -q else q
theorem ab_pos {q : Rat} (h : q ≠ 0) : 0 < ab q := by unfold ab; split <;> grind
theorem ab_num (q : Rat) : (ab q).num = (q.num.natAbs : Int) ∧ (ab q).den = q.den := by
  unfold ab
  split
  · rename_i h
    have := num_neg.mpr h
    exact ⟨by show (-q).num = _; rw [show (-q).num = -q.num from rfl]; omega, rfl⟩
  · rename_i h
    have : ¬ q.num < 0 := fun e => h (num_neg.mp e)
    exact ⟨by omega, rfl⟩
theorem inv_ab {q : Rat} (h : q ≠ 0) : D.tup [.int q.den, .int (q.num.natAbs : Int)] = qd (ab q)⁻¹ := by
  obtain ⟨h1, h2⟩ := ab_num q
  have hn : q.num ≠ 0 := fun e => h (Rat.num_eq_zero.mp e)
  unfold qd
  rw [Rat.num_inv, Rat.den_inv, h1, h2, if_neg (by omega), Int.sign_eq_one_of_pos (by omega), Int.one_mul]
  simp
theorem ok_inv {q : Rat} (h : q ≠ 0) (hz : Z 4 2000 q) : Ok (ab q)⁻¹ := by
  obtain ⟨h1, h2⟩ := ab_num q
  have o : Ok q := hz.ok (by decide) (by decide)
  have hn : q.num ≠ 0 := fun e => h (Rat.num_eq_zero.mp e)
  constructor
  · rw [Rat.den_inv, h1, if_neg (by omega)]
    simp only [Int.natAbs_natCast]
    exact Nat.lt_of_lt_of_le hz.num (Nat.pow_le_pow_right (by decide) (by decide))
  · rw [Rat.num_inv, h1, h2, Int.sign_eq_one_of_pos (by omega), Int.one_mul, Int.natAbs_natCast]
    exact Nat.lt_of_lt_of_le o.den (Nat.pow_le_pow_right (by decide) (by decide))
def scaleF (f : Fen) : Fen := mulF (ab (leadF f.row))⁻¹ f
theorem s_pscaled (n : Nat) (f : Fen) (S : Store) (hf : FB f) (hl : f.row.length ≤ 40) (h : all0 f.row = false) : callF P (n + 5) f_scaled [fend f] S = .ok (fend (scaleF f)) S := by
  obtain ⟨h1, h2, r, h3⟩ := lead_ne h
  have oi := ok_inv h1 (hf.row _ h2)
  refine call_clean P_scaled rfl (fen_bare _) ?_
  have key := fun S => lcL_filter (gd := []) (g := Pin.gName 2) (t := Pin.tCmp .ne (eVar 2) (eCon (.tup [.int 0, .int 1]))) (e := eVar 2) (c := callF P (n + 4)) (ρ := [some (fend f), none, none]) (S := S)
    qd (fun a => !decide (a = 0)) qd gd_nil f.row fun a _ => by
      simp [qd_zero, eq_qd]
  rw [h3] at key
  have k1 := fun S => s_times_row n (ab (leadF f.row))⁻¹ f.row S (ha := oi) (hx := hf.rok) (hl := by omega)
  have k2 := fun S => s_multiplied (n + 1) (ab (leadF f.row))⁻¹ f.b S (hx := oi) (hy := hf.bok)
  have hlen : r.length + 1 ≤ sizeLine := by
    have e : (leadF f.row :: r).length ≤ f.row.length := by rw [← h3]; exact List.length_filter_le _ _
    exact le_line (by rw [List.length_cons] at e; omega)
  have w1 : walkD (rowd f.row) = pure ⟨[], f.row.map qd⟩ := rfl
  have ia := inv_ab h1
  simp [sm_scaled, startE, w1, wipeE, key, wp_fits, hlen, wp_getL get_end, abs_eq, wp_tupM, ia, k1, k2]
  exact ⟨len2l, len3l, rfl⟩
/-! what is alike -/
theorem toPy_fen (S : Store) (n : Nat) (f : Fen) : toPy S (n + 3) (fend f) = some (.tuple [.tuple (f.row.map pq), pq f.b, .bool f.s]) := by
  show (mapO (toPy S (n + 2)) [rowd f.row, qd f.b, .bl f.s]).map PyData.tuple = _
  have h1 : toPy S (n + 2) (.bl f.s) = some (.bool f.s) := rfl
  simp [mapO, toPy_row, toPy_qd S (n + 1), h1]
def sameF (f g : Fen) : Bool := decide (f.row = g.row) && (decide (f.b = g.b) && decide (f.s = g.s))
theorem eq_fen (f g : Fen) : eqM (fend f) (fend g) = pure (sameF f g) := by
  refine eqM_of (fun _ => rfl) (fun S => toPy_fen S 57 f) (fun S => toPy_fen S 57 g) ?_
  have e1 : PyData.eqv (.tuple (f.row.map pq)) (.tuple (g.row.map pq)) = decide (f.row = g.row) := eqvAll_pq _ _
  have e2 : PyData.eqv (.bool f.s) (.bool g.s) = decide (f.s = g.s) := by cases f.s <;> cases g.s <;> rfl
  show (PyData.eqv (.tuple (f.row.map pq)) (.tuple (g.row.map pq)) && (PyData.eqv (pq f.b) (pq g.b) && (PyData.eqv (.bool f.s) (.bool g.s) && true))) = _
  rw [e1, e2, eqv_pq]
  unfold sameF
  simp
theorem same_iff (f g : Fen) : sameF f g = true ↔ f = g := by
  obtain ⟨a, b, c⟩ := f
  obtain ⟨a', b', c'⟩ := g
  simp [sameF]
@[simp] theorem eq_bl (a b : Bool) : eqM (.bl a) (.bl b) = pure (decide (a = b)) := by
  refine eqM_of (x := .bool a) (y := .bool b) (fun _ => rfl) (fun _ => rfl) (fun _ => rfl) ?_
  cases a <;> cases b <;> rfl
def alikeP (f o : Fen) : Bool := if all0 f.row || all0 o.row then all0 f.row && (all0 o.row && decide (forAll f = forAll o)) else sameF (scaleF f) (scaleF o)
theorem s_are_alike (n w : Nat) (f o : Fen) (S : Store) (hw : w ≤ 40) (hf : FB f) (ho : FB o) (lf : f.row.length = w) (lo : o.row.length = w) : callF P (n + 7) f_are_alike [.int w, fend f, fend o] S = .ok (.bl (alikeP f o)) S := by
  refine call_clean P_are_alike rfl rfl ?_
  have k1 := fun S => s_require_fenced n (w : Int) f S (h0 := by omega) (h1 := by omega) (h := by omega)
  have k2 := fun S => s_require_fence (n + 1) (w : Int) o S (hw := by omega) (h := by omega)
  have k3 := fun S => s_is_for_all_by (n + 3) f S
  have k4 := fun S => s_is_for_all_by (n + 3) o S
  unfold alikeP
  cases h1 : all0 f.row with
  | true =>
    cases h2 : all0 o.row <;> simp [sm_are_alike, startE, k1, k2, k3, k4, s_is_rest, h1, h2]
  | false =>
    cases h2 : all0 o.row with
    | true => simp [sm_are_alike, startE, k1, k2, k3, k4, s_is_rest, h1, h2]
    | false =>
      have k5 := fun S => s_pscaled (n + 1) f S hf (by omega) h1
      have k6 := fun S => s_pscaled (n + 1) o S ho (by omega) h2
      simp [sm_are_alike, startE, k1, k2, k5, k6, s_is_rest, h1, h2, eq_fen]
end K06

set_option Elab.async false
set_option linter.all false
set_option maxRecDepth 100000
set_option maxHeartbeats 400000
namespace K06
open PySem PySem.Spec Pin
theorem lead_map {c : Rat} (hc : c ≠ 0) (xs : List Rat) : leadF (xs.map (c * ·)) = c * leadF xs := by
  induction xs with
  | nil => unfold leadF; simp [Rat.mul_zero]
  | cons x xs ih =>
    unfold leadF at ih ⊢
    by_cases hx : x = 0
    · simp [hx, Rat.mul_zero]
      simpa using ih
    · have : c * x ≠ 0 := by
        intro e
        rcases Rat.mul_eq_zero.mp e with h | h
        · exact hc h
        · exact hx h
      simp [hx, this]
theorem map_congr_get {f g : Rat → Rat} : ∀ {xs ys : List Rat}, xs.map f = ys.map g → ∀ (i : Nat) (x y : Rat), xs[i]? = some x → ys[i]? = some y → f x = g y := by
  intro xs ys h i x y hx hy
  have := congrArg (fun l => l[i]?) h
  simp [List.getElem?_map, hx, hy] at this
  exact this
theorem map_mul_eq {a b : Rat} (ha : a ≠ 0) : ∀ {xs ys : List Rat}, xs.map (b * ·) = ys.map (a * ·) → ys = xs.map (a⁻¹ * b * ·)
  | [], [], _ => rfl
  | [], _ :: _, h => by simp at h
  | _ :: _, [], h => by simp at h
  | x :: xs, y :: ys, h => by
    rw [List.map_cons, List.map_cons, List.cons.injEq] at h
    obtain ⟨h1, h2⟩ := h
    rw [List.map_cons, ← map_mul_eq ha h2]
    congr 1
    rw [Rat.mul_assoc, h1, ← Rat.mul_assoc, Rat.inv_mul_cancel _ ha, Rat.one_mul]
/-- the law's way to say it -/
theorem alike_by {f o : Fen} {i : Nat} {y : Rat} (h1 : all0 f.row = false) (h2 : all0 o.row = false) (hx : f.row[i]? = some (leadF f.row)) (hy : o.row[i]? = some y) :
    sameF (scaleF f) (scaleF o) = (decide (0 < y * (leadF f.row)⁻¹) && (decide (f.row.map (y * (leadF f.row)⁻¹ * ·) = o.row) && (decide (y * (leadF f.row)⁻¹ * f.b = o.b) && decide (f.s = o.s)))) := by
  obtain ⟨n1, _, _⟩ := lead_ne h1
  obtain ⟨n2, _, _⟩ := lead_ne h2
  have p1 := ab_pos n1
  have p2 := ab_pos n2
  have z1 : ab (leadF f.row) ≠ 0 := by grind
  have z2 : ab (leadF o.row) ≠ 0 := by grind
  generalize hl : leadF f.row = l at *
  rw [Bool.eq_iff_iff, same_iff]
  simp only [Bool.and_eq_true, decide_eq_true_eq]
  constructor
  · intro h
    have e1 : f.row.map ((ab l)⁻¹ * ·) = o.row.map ((ab (leadF o.row))⁻¹ * ·) := by
      have := congrArg Fen.row h
      simpa [scaleF, mulF, hl] using this
    have e2 : (ab l)⁻¹ * f.b = (ab (leadF o.row))⁻¹ * o.b := by
      have := congrArg Fen.b h
      simpa [scaleF, mulF, hl] using this
    have e3 : f.s = o.s := by
      have := congrArg Fen.s h
      simpa [scaleF, mulF] using this
    have e4 := map_congr_get e1 i l y hx hy
    have zi : (ab (leadF o.row))⁻¹ ≠ 0 := fun e => by have := Rat.inv_pos.mpr p2; rw [e] at this; exact absurd this (by decide)
    have hc : y * l⁻¹ = ab (leadF o.row) * (ab l)⁻¹ := by
      have : y = ab (leadF o.row) * ((ab l)⁻¹ * l) := by rw [e4, ← Rat.mul_assoc, Rat.mul_inv_cancel _ z2, Rat.one_mul]
      rw [this, ← Rat.mul_assoc, Rat.mul_assoc, Rat.mul_inv_cancel _ n1, Rat.mul_one]
    rw [hc]
    refine ⟨Rat.mul_pos p2 (Rat.inv_pos.mpr p1), ?_, ?_, e3⟩
    · have := map_mul_eq zi e1
      rw [Rat.inv_inv] at this
      exact this.symm
    · rw [Rat.mul_assoc, e2, ← Rat.mul_assoc, Rat.mul_inv_cancel _ z2, Rat.one_mul]
  · rintro ⟨hc, hr, hb, hs⟩
    generalize hcv : y * l⁻¹ = c at *
    have nc : c ≠ 0 := by grind
    have e1 : leadF o.row = c * l := by rw [← hr, lead_map nc, hl]
    have e2 : ab (leadF o.row) = c * ab l := by
      rw [e1]
      unfold ab
      by_cases q : l < 0
      · have : c * l < 0 := by
          have := Rat.mul_pos hc (show 0 < -l by grind)
          grind
        rw [if_pos q, if_pos this]; grind
      · have q' : 0 < l := by grind
        have : ¬ c * l < 0 := by have := Rat.mul_pos hc q'; grind
        rw [if_neg q, if_neg this]
    have e3 : ∀ x, (c * ab l)⁻¹ * (c * x) = (ab l)⁻¹ * x := fun x => by
      rw [Rat.inv_mul_rev, Rat.mul_assoc, ← Rat.mul_assoc c⁻¹, Rat.inv_mul_cancel _ nc, Rat.one_mul]
    show Fen.mk (f.row.map ((ab (leadF f.row))⁻¹ * ·)) ((ab (leadF f.row))⁻¹ * f.b) f.s = Fen.mk (o.row.map ((ab (leadF o.row))⁻¹ * ·)) ((ab (leadF o.row))⁻¹ * o.b) o.s
    rw [hl, e2, ← hr, ← hb, ← hs, e3, List.map_map]
    congr 1
    apply List.map_congr_left
    intro x _
    exact (e3 x).symm
end K06

set_option Elab.async false
set_option linter.all false
set_option maxRecDepth 100000
set_option maxHeartbeats 400000
namespace K06
open PySem PySem.Spec Pin
@[simp] theorem lcL_nil' {gd : List (Nat × List D)} {g : GM} {t : TM} {e : EM} {c : Cl} {ρ : Pin.Env} : lcL gd g t e c ρ [] = (do chk gd; pure []) := rfl
@[simp] theorem lcL_cons' {gd : List (Nat × List D)} {g : GM} {t : TM} {e : EM} {c : Cl} {ρ : Pin.Env} {x : D} {xs : List D} : lcL gd g t e c ρ (x :: xs) = (do
    chk gd
    let ρ' ← g x ρ
    let k ← noX (t c ρ')
    if k = true then do
      let y ← noX (e c ρ')
      let ys ← lcL gd g t e c ρ xs
      pure (y :: ys)
    else lcL gd g t e c ρ xs) := rfl
@[simp] theorem chk_nil {S : Store} {Q : Unit → Store → Prop} : WP (chk [] S) Q = Q () S := wp_chk gd_nil
theorem at_map {f : Rat → D} {xs : List Rat} {i : Nat} {x : Rat} (h : xs[i]? = some x) : L2.atI (xs.map f) (i : Int) = some (f x) := by
  have hi := (List.getElem?_eq_some_iff.mp h).1
  unfold L2.atI L2.ixN
  rw [List.length_map, if_pos (by omega), if_pos (by omega)]
  show (xs.map f)[((i : Int)).toNat]? = _
  rw [Int.toNat_natCast, List.getElem?_map, h]; rfl
theorem ix_row {xs : List Rat} {i : Nat} {x : Rat} (h : xs[i]? = some x) : ixM (rowd xs) (.int (i : Int)) = pure (qd x) := by
  show (match L2.atI (xs.map qd) (i : Int) with
    | some d => pure d
    | none => stk) = _
  rw [at_map h]
theorem idx_lead : ∀ {xs : List Rat} (k : Nat), all0 xs = false → ∃ i r, ((xs.zipIdx k).filter fun p => !decide (p.1 = 0)) = (leadF xs, i + k) :: r ∧ xs[i]? = some (leadF xs)
  | [], _, h => by cases h
  | x :: xs, k, h => by
    by_cases hx : x = 0
    · have h' : all0 xs = false := by unfold all0 at h ⊢; simpa [hx] using h
      obtain ⟨i, r, h1, h2⟩ := idx_lead (xs := xs) (k + 1) h'
      have e : leadF (x :: xs) = leadF xs := by unfold leadF; simp [hx]
      refine ⟨i + 1, r, ?_, by rw [e]; simpa using h2⟩
      rw [e, List.zipIdx_cons, List.filter_cons_of_neg (by simp [hx]), h1]
      congr 2; omega
    · have e : leadF (x :: xs) = x := by unfold leadF; simp [hx]
      refine ⟨0, (xs.zipIdx (k + 1)).filter fun p => !decide (p.1 = 0), ?_, by rw [e]; rfl⟩
      rw [e, List.zipIdx_cons, List.filter_cons_of_pos (by simp [hx])]
      simp
theorem ok_divInt {a b : Int} (hb : b ≠ 0) (h1 : b.natAbs < 2 ^ 4400) (h2 : a.natAbs < 2 ^ 1000000) : Ok (Rat.divInt a b) := by
  constructor
  · rw [Rat.den_divInt, if_neg hb]
    exact Nat.lt_of_le_of_lt (Nat.div_le_self _ _) h1
  · rw [Rat.num_divInt]
    refine Nat.lt_of_le_of_lt (Int.natAbs_ediv_le_natAbs _ _) ?_
    rw [Int.natAbs_mul]
    have : b.sign.natAbs = 1 := by rw [Int.natAbs_sign_of_ne_zero hb]
    rw [this, Nat.one_mul]; exact h2
theorem by_eq (y l : Rat) : Rat.divInt (y.num * l.den) (y.den * l.num) = y * l⁻¹ := by
  rw [Rat.inv_def]
  conv => rhs; rw [← Rat.num_divInt_den y]
  rw [Rat.divInt_mul_divInt]
theorem s_lalike (n w : Nat) (f o : Fen) (S : Store) (hw : w ≤ 40) (hf : FB f) (ho : FB o) (lf : f.row.length = w) (lo : o.row.length = w) : callF P (n + 5) f__law_are_alike [fend f, fend o] S = .ok (.bl (alikeP f o)) S := by
  refine call_clean P__law_are_alike rfl rfl ?_
  have key := fun (S : Store) (g : Fen) => lcL_filter (gd := []) (g := Pin.gName 7) (t := Pin.tCmp .ne (eIx (eVar 7) (eCon (.int 0))) (eCon (.int 0))) (e := eVar 7) (c := callF P (n + 4)) (ρ := [some (fend f), some (fend o), none, none, none, some (fend g), none, none]) (S := S)
    qd (fun a => !decide (a = 0)) qd gd_nil g.row fun a _ => by
      simp [Rat.num_eq_zero]
  have wr : ∀ g : Fen, walkD (rowd g.row) = pure ⟨[], g.row.map qd⟩ := fun _ => rfl
  have e3 : ∀ g : Fen, ((g.row.filter fun a => !decide (a = 0)).map qd).isEmpty = all0 g.row := fun g => by
    rw [List.isEmpty_map, filter_ne]
    unfold all0
    congr 1; funext a; simp
  have hle : ∀ g : Fen, g.row.length = w → (g.row.filter fun a => !decide (a = 0)).length ≤ sizeLine := fun g hg => le_line (Nat.le_trans (List.length_filter_le _ _) (by omega))
  simp [sm__law_are_alike, startE, wp_tupM, wipeE, wr, key, wp_fits, wp_lstM]
  refine ⟨len2l, hle f lf, ?_⟩
  rw [eq_new, e3, wp_ok]
  generalize hS1 : S ++ [Ob.lst ((f.row.filter fun a => !decide (a = 0)).map qd), Ob.lst []] = S1
  refine ⟨hle o lo, ?_⟩
  rw [eq_new, e3, wp_ok]
  generalize hS2 : S1 ++ [Ob.lst ((o.row.filter fun a => !decide (a = 0)).map qd), Ob.lst []] = S2
  have hS : ∃ G, S2 = S ++ G := by rw [← hS2, ← hS1]; exact ⟨_, List.append_assoc ..⟩
  have tf := fun S => s_ltruth (n + 2) f S (hf := hf)
  have to_ := fun S => s_ltruth (n + 2) o S (hf := ho)
  obtain ⟨G', hG⟩ := hS
  have hE : ∀ X, ∃ G, S2 ++ X = S ++ G := fun X => ⟨_, by rw [hG, List.append_assoc]⟩
  unfold alikeP
  cases h1 : all0 f.row with
  | true =>
    cases h2 : all0 o.row <;> simp [wp_getL get_end, tf, to_, forAll_truth, h1, h2, hE, len2l]
  | false =>
    cases h2 : all0 o.row with
    | true => simp [wp_getL get_end, h1, h2, hE, len2l]
    | false =>
      simp [wp_getL get_end, enum_map, len2l]
      obtain ⟨n1, n2, _⟩ := lead_ne h1
      obtain ⟨i, r, q1, q2⟩ := idx_lead (xs := f.row) 0 h1
      have hi := (List.getElem?_eq_some_iff.mp q2).1
      obtain ⟨y, hy⟩ : ∃ y, o.row[i]? = some y := ⟨o.row[i]'(by omega), by simp⟩
      have my : y ∈ o.row := List.mem_of_getElem? hy
      have key2 := fun (S : Store) (b : D) => lcL_filter (gd := []) (g := Pin.gTup 2 (Pin.gCons (Pin.gName 6) (Pin.gCons (Pin.gName 7) Pin.gNil))) (t := Pin.tCmp .ne (eIx (eVar 7) (eCon (.int 0))) (eCon (.int 0))) (e := eVar 6) (c := callF P (n + 4)) (ρ := [some (fend f), some (fend o), some b, none, none, none, none, none]) (S := S)
        (fun p : Rat × Nat => D.tup [.int (p.2 : Nat), qd p.1]) (fun p => !decide (p.1 = 0)) (fun p => .int (p.2 : Nat)) gd_nil f.row.zipIdx fun p _ => by
          simp [Rat.num_eq_zero]
      rw [q1] at key2
      have hlen : r.length + 1 ≤ sizeLine := by
        have e := List.length_filter_le (fun p : Rat × Nat => !decide (p.1 = 0)) (f.row.zipIdx 0)
        rw [q1, List.length_cons, List.length_zipIdx] at e
        exact le_line (by omega)
      have zl := hf.row _ n2
      have zy := ho.row _ my
      have ol : Ok (leadF f.row) := zl.ok (by decide) (by decide)
      have oy : Ok y := zy.ok (by decide) (by decide)
      have nl : (leadF f.row).num ≠ 0 := fun e => n1 (Rat.num_eq_zero.mp e)
      have dy : (y.den : Int) ≠ 0 := by have := y.den_pos; omega
      have nb : (y.den : Int) * (leadF f.row).num ≠ 0 := Int.mul_ne_zero dy nl
      have d1 : y.den < 2 ^ 305 := by
        have h3 : y.den ≤ LL ^ 4 := Nat.le_of_dvd (Nat.pow_pos LLpos) zy.den
        exact Nat.lt_of_le_of_lt h3 (by decide)
      have b1 : ((y.den : Int) * (leadF f.row).num).natAbs < 2 ^ 4400 := by
        rw [Int.natAbs_mul, Int.natAbs_natCast]
        calc y.den * (leadF f.row).num.natAbs < 2 ^ 305 * 2 ^ 2000 := Nat.mul_lt_mul'' d1 zl.num
          _ = 2 ^ 2305 := by rw [← Nat.pow_add]
          _ ≤ 2 ^ 4400 := Nat.pow_le_pow_right (by decide) (by decide)
      have b2 : (y.num * ((leadF f.row).den : Int)).natAbs < 2 ^ 1000000 := by
        rw [Int.natAbs_mul, Int.natAbs_natCast]
        calc y.num.natAbs * (leadF f.row).den < 2 ^ 2000 * 2 ^ 4400 := Nat.mul_lt_mul'' zy.num ol.den
          _ = 2 ^ 6400 := by rw [← Nat.pow_add]
          _ ≤ 2 ^ 1000000 := Nat.pow_le_pow_right (by decide) (by decide)
      have k1 := fun S => s_lowest (n + 3) (y.num * ((leadF f.row).den : Int)) ((y.den : Int) * (leadF f.row).num) S nb (Nat.lt_of_lt_of_le b1 (Nat.pow_le_pow_right (by decide) (by decide))) (Nat.lt_of_lt_of_le b2 (Nat.pow_le_pow_right (by decide) (by decide)))
      have ob := ok_divInt nb b1 b2
      rw [by_eq] at ob
      simp only [by_eq] at k1
      have k2 := fun S => s_scaled (n + 1) (y * (leadF f.row)⁻¹) f.row S (ha := ob) (hx := hf.rok) (hl := by omega)
      have k3 := fun S => s_times (n + 2) (y * (leadF f.row)⁻¹) f.b S (hx := ob) (hy := hf.bok)
      have m1 : mulOk y.num (leadF f.row).den = true := xmul_ok oy ol
      have m2 : mulOk y.den (leadF f.row).num = true := mul_ok (a := 4400) (by simpa using oy.den) ol.num (by decide) (by decide) (by decide)
      rw [alike_by h1 h2 q2 hy]
      simp [key2, hlen, ix_row hy, ix_row q2, m1, m2, k1, k2, k3]
      refine ⟨fun q => ⟨fun q' => absurd (num_pos.mpr q') (by omega), hE _⟩, fun q => ?_⟩
      have q' := num_pos.mp q
      rw [eq_row, wp_pure]
      by_cases r1 : f.row.map (fun x => y * (leadF f.row)⁻¹ * x) = o.row
      · rw [decide_eq_true r1]
        refine ⟨(fun e => by cases e), fun _ => ?_⟩
        rw [eq_qd, wp_pure]
        by_cases r2 : y * (leadF f.row)⁻¹ * f.b = o.b
        · rw [decide_eq_true r2, decide_eq_true q']
          exact ⟨fun _ => ⟨rfl, hE _⟩, (fun e => by cases e)⟩
        · rw [decide_eq_false r2]
          exact ⟨(fun e => by cases e), fun _ => ⟨by simp, hE _⟩⟩
      · rw [decide_eq_false r1]
        exact ⟨fun _ => ⟨fun _ e => absurd e r1, hE _⟩, (fun e => by cases e)⟩
end K06

set_option Elab.async false
set_option linter.all false
set_option maxRecDepth 100000
set_option maxHeartbeats 400000
namespace K06
open PySem PySem.Spec Pin
/-! ### the jar -/
def JarOK (S : Store) (j : Nat) : Prop := ∃ a b : Int, S[j]? = some (.lst [.int a, .int b]) ∧ 0 ≤ b ∧ b < 2 ^ 100
/-- the jar alone was touched; things were added behind -/
structure Fr (j : Nat) (S S' : Store) : Prop where
  len : S.length ≤ S'.length
  jar : JarOK S' j
  oth : ∀ i, i < S.length → i ≠ j → S'[i]? = S[i]?
theorem Fr.refl {j : Nat} {S : Store} (h : JarOK S j) : Fr j S S := ⟨Nat.le_refl _, h, fun _ _ _ => rfl⟩
theorem Fr.trans {j : Nat} {S S1 S2 : Store} (h : Fr j S S1) (k : Fr j S1 S2) : Fr j S S2 :=
  ⟨Nat.le_trans h.len k.len, k.jar, fun i hi hj => by rw [k.oth i (Nat.lt_of_lt_of_le hi h.len) hj, h.oth i hi hj]⟩
theorem JarOK.lt {S : Store} {j : Nat} (h : JarOK S j) : j < S.length := by
  obtain ⟨a, b, h, _⟩ := h
  exact (List.getElem?_eq_some_iff.mp h).1
theorem JarOK.app {S : Store} {j : Nat} (h : JarOK S j) (X : Store) : JarOK (S ++ X) j := by
  obtain ⟨a, b, h1, h2⟩ := h
  exact ⟨a, b, get_old h1, h2⟩
theorem Fr.app {j : Nat} {S : Store} (h : JarOK S j) (X : Store) : Fr j S (S ++ X) :=
  ⟨by simp, h.app X, fun i hi _ => List.getElem?_append_left hi⟩
theorem Fr.set {j : Nat} {S : Store} {a b : Int} (h : j < S.length) (h0 : 0 ≤ b) (h1 : b < 2 ^ 100) : Fr j S (S.set j (.lst [.int a, .int b])) :=
  ⟨by simp, ⟨a, b, List.getElem?_set_self h, h0, h1⟩, fun i _ hj => List.getElem?_set_ne (Ne.symm hj)⟩
theorem setM_ref {r : Nat} {k : Int} {d : D} {S : Store} {Q : Unit → Store → Prop} {xs : List D} {i : Nat} (h : S[r]? = some (.lst xs)) (hi : L2.ixN xs.length k = some i) (q : Q () (S.set r (.lst (xs.set i d)))) : WP (setM (.ref r) (.int k) d S) Q := by
  show WP ((getL r >>= fun xs => match L2.ixN xs.length k with | some i => setO r (.lst (xs.set i d)) | none => stk) S) Q
  rw [wp_bind, wp_getL h, hi]
  show WP (setO r (.lst (xs.set i d)) S) Q
  rw [wp_def]
  exact q
theorem call_jar {P : Nat → Option Fn} {n f j : Nat} {fn : Fn} {ds : List D} {S : Store} {Q : D → Prop} (h : P f = some fn) (hl : ds.length = fn.ar) (hJ : JarOK S j) (hw : WP (fn.sm (callF P n) (startE fn.sl ds) K0 S) fun v S' => Q v ∧ Fr j S S') : WP (callF P (n + 1) f ds S) fun v S' => Q v ∧ Fr j S S' :=
  call_wp h hl (hw.mono fun v S' ⟨q, fr⟩ => ⟨⟨q, fr⟩, fun _ _ => ⟨q, Fr.refl hJ⟩⟩)
theorem s_dip (n j : Nat) (b : Int) (S : Store) (hJ : JarOK S j) (h0 : 0 < b) (h1 : b < 2 ^ 64) : WP (callF P (n + 1) f__law_dip [.ref j, .int b] S) fun v S' => (∃ i : Int, v = .int i ∧ 0 ≤ i ∧ i < b) ∧ Fr j S S' := by
  refine call_jar P__law_dip rfl hJ ?_
  have hj := hJ.lt
  obtain ⟨x, y, g, y0, y1⟩ := hJ
  have db : divOk b = true := div_ok (by omega) (Nat.lt_trans (by omega) (Nat.pow_lt_pow_right (a := 2) (m := 64) (by decide) (by decide)))
  have b0 : ¬ b = 0 := by omega
  have m1 : mulOk y 6364136223846793005 = true := mul_ok (a := 100) (b := 64) (by omega) (by decide) (by decide) (by decide) (by decide)
  have fm : ∀ i k : Int, 0 < k → 0 ≤ i.fmod k ∧ i.fmod k < k := fun i k hk => ⟨Int.fmod_nonneg_of_pos i hk, Int.fmod_lt_of_pos i hk⟩
  simp [sm__law_dip, startE, wp_getL g, b0]
  refine ⟨fun hx => ?_, fun hx => ?_⟩
  · simp [wp_getL g, db]
    refine setM_ref g (i := 0) (by simp [L2.ixN]) ?_
    exact ⟨fm x b h0, Fr.set hj y0 y1⟩
  · simp [m1]
    have c1 : divOk 4294967296 = true := by decide
    generalize hz : (y * 6364136223846793005 + 1442695040888963407).fmod 18446744073709551616 = z
    have hz2 := fm (y * 6364136223846793005 + 1442695040888963407) 18446744073709551616 (by decide)
    rw [hz] at hz2
    refine setM_ref g (i := 1) (by simp [L2.ixN]) ?_
    have g2 : (S.set j (.lst [D.int x, D.int z]))[j]? = some (.lst [D.int x, D.int z]) := List.getElem?_set_self hj
    show WP _ _
    simp [wp_getL g2, c1, b0]
    exact ⟨fm _ b h0, Fr.set hj hz2.1 (by omega)⟩
/-- one of some things -/
theorem s_one_of (n j q : Nat) (xs : List D) (S : Store) (hJ : JarOK S j) (hq : S[q]? = some (.lst xs)) (hj : q ≠ j) (h0 : xs ≠ []) (h1 : xs.length < 1000) : WP (callF P (n + 2) f__law_one_of [.ref j, .ref q] S) fun v S' => v ∈ xs ∧ Fr j S S' := by
  refine call_jar P__law_one_of rfl hJ ?_
  have hp : 0 < xs.length := List.length_pos_iff.mpr h0
  simp [sm__law_one_of, startE, wp_getL hq]
  refine (s_dip n j xs.length S hJ (by omega) (by omega)).mono ?_
  rintro v S' ⟨⟨i, rfl, hi, hi2⟩, fr⟩
  have hq' : S'[q]? = some (.lst xs) := by rw [fr.oth q (List.getElem?_eq_some_iff.mp hq).1 hj, hq]
  obtain ⟨m, rfl⟩ := Int.eq_ofNat_of_zero_le hi
  have hm : m < xs.length := by omega
  have e : L2.atI xs (m : Int) = some xs[m] := by
    unfold L2.atI L2.ixN
    rw [if_pos (by omega), if_pos (by omega)]
    simp [hm]
  simp [wp_getL hq', e]
  exact fr
end K06

set_option Elab.async false
set_option linter.all false
set_option maxRecDepth 100000
set_option maxHeartbeats 400000
namespace K06
open PySem PySem.Spec Pin
/-! ### draws -/
theorem Z_divInt {a b : Int} {n e : Nat} (hb : 0 < b) (h1 : b.natAbs ∣ LL ^ n) (h2 : a.natAbs < 2 ^ e) : Z n e (Rat.divInt a b) := by
  obtain ⟨q1, q2⟩ := divInt_pos a b hb
  constructor
  · have : (((Rat.divInt a b).den : Nat) : Int) ∣ b := by
      rw [q2]; exact Int.ediv_dvd_of_dvd (Int.gcd_dvd_right ..)
    have := Int.natAbs_dvd_natAbs.mpr this
    rw [Int.natAbs_natCast] at this
    exact Nat.dvd_trans this h1
  · rw [q1]
    exact Nat.lt_of_le_of_lt (Int.natAbs_ediv_le_natAbs _ _) h2
theorem divInt_gt {a b : Int} (ha : 0 < a) (hb : 0 < b) : 0 < Rat.divInt a b := by
  obtain ⟨q1, q2⟩ := divInt_pos a b hb
  rw [← num_pos, q1]
  have hg : 0 < Int.gcd a b := Int.gcd_pos_of_ne_zero_right a (by omega)
  exact Int.ediv_pos_of_pos_of_dvd ha (by omega) (Int.gcd_dvd_left ..)
theorem low_ok (n : Nat) (a b : Int) (S : Store) (hb : 0 < b) (h1 : b < 2 ^ 100) (h2 : a.natAbs < 2 ^ 140) : callF P (n + 1) f__law_lowest [.int a, .int b] S = .ok (qd (Rat.divInt a b)) S :=
  s_lowest n a b S (by omega) (Nat.lt_of_lt_of_le (m := 2 ^ 100) (by omega) (Nat.pow_le_pow_right (by decide) (by decide))) (Nat.lt_of_lt_of_le h2 (Nat.pow_le_pow_right (by decide) (by decide)))
theorem s_some_times (n j : Nat) (S : Store) (hJ : JarOK S j) : WP (callF P (n + 2) f__law_some_times [.ref j] S) fun v S' => (∃ r, v = qd r ∧ 0 < r ∧ Z 1 4 r) ∧ Fr j S S' := by
  refine call_jar P__law_some_times rfl hJ ?_
  simp [sm__law_some_times, startE]
  refine (s_dip n j 7 S hJ (by decide) (by decide)).mono ?_
  rintro v S1 ⟨⟨a, rfl, a0, a1⟩, fr1⟩
  simp
  refine (s_dip n j 4 S1 fr1.jar (by decide) (by decide)).mono ?_
  rintro v S2 ⟨⟨b, rfl, b0, b1⟩, fr2⟩
  have hb : b = 0 ∨ b = 1 ∨ b = 2 ∨ b = 3 := by omega
  have hd : (1 + b).natAbs ∣ LL ^ 1 := by rcases hb with rfl | rfl | rfl | rfl <;> decide
  simp [low_ok n (1 + a) (1 + b) (hb := by omega) (h1 := by omega) (h2 := by omega)]
  exact ⟨⟨_, rfl, divInt_gt (by omega) (by omega), Z_divInt (by omega) hd (by omega)⟩, fr1.trans fr2⟩
theorem one_new (n j : Nat) (xs : List D) (S : Store) (hJ : JarOK S j) (h0 : xs ≠ []) (h1 : xs.length < 1000) : WP (callF P (n + 2) f__law_one_of [.ref j, .ref S.length] (S ++ [.lst xs])) fun v S' => v ∈ xs ∧ Fr j S S' :=
  (s_one_of n j S.length xs (S ++ [.lst xs]) (hJ.app _) (by simp) (by have := hJ.lt; omega) h0 h1).mono fun v S' ⟨h, fr⟩ => ⟨h, (Fr.app hJ _).trans fr⟩
theorem s_drawn_number (n j : Nat) (S : Store) (hJ : JarOK S j) : WP (callF P (n + 3) f__law_drawn_number [.ref j] S) fun v S' => (∃ r, v = qd r ∧ Z 1 140 r) ∧ Fr j S S' := by
  refine call_jar P__law_drawn_number rfl hJ ?_
  simp [sm__law_drawn_number, startE]
  refine (s_dip (n + 1) j 12 S hJ (by decide) (by decide)).mono ?_
  rintro v S1 ⟨⟨a, rfl, a0, a1⟩, fr1⟩
  have w1 : powOk 10 30 = true := by decide
  have w2 : powOk 10 39 = true := by decide
  have w3 : powOk 10 20 = true := by decide
  have l4 : 4 ≤ sizeLine := by decide
  have l3 : 3 ≤ sizeLine := by decide
  simp [w1, w2, w3, wp_lstM, l4, l3, wp_tupM, len2l]
  refine ⟨fun _ => ?_, fun _ => ⟨fun _ => ?_, fun _ => ?_⟩⟩
  · refine (one_new n j _ S1 fr1.jar (by simp) (by simp)).mono ?_
    rintro v S2 ⟨hv, fr2⟩
    refine (one_new n j _ S2 fr2.jar (by simp) (by simp)).mono ?_
    rintro u S3 ⟨hu, fr3⟩
    have hv' : ∃ x : Int, v = .int x ∧ x.natAbs < 2 ^ 140 := by
      simp at hv
      rcases hv with rfl | rfl | rfl | rfl <;> exact ⟨_, rfl, by decide⟩
    have hu' : ∃ y : Int, u = .int y ∧ 0 < y ∧ y < 2 ^ 100 ∧ y.natAbs ∣ LL ^ 1 := by
      simp at hu
      rcases hu with rfl | rfl | rfl <;> exact ⟨_, rfl, by decide, by decide, by decide⟩
    obtain ⟨x, rfl, hx⟩ := hv'
    obtain ⟨y, rfl, y0, y1, y2⟩ := hu'
    rw [low_ok (n + 1) x y S3 y0 y1 hx, wp_ok]
    exact ⟨⟨_, rfl, Z_divInt y0 y2 hx⟩, (fr1.trans fr2).trans fr3⟩
  · refine (s_dip (n + 1) j 13 S1 fr1.jar (by decide) (by decide)).mono ?_
    rintro v S2 ⟨⟨b, rfl, b0, b1⟩, fr2⟩
    simp
    refine (s_dip (n + 1) j 5 S2 fr2.jar (by decide) (by decide)).mono ?_
    rintro v S3 ⟨⟨c, rfl, c0, c1⟩, fr3⟩
    have hc : c = 0 ∨ c = 1 ∨ c = 2 ∨ c = 3 ∨ c = 4 := by omega
    have hd : (1 + c).natAbs ∣ LL ^ 1 := by rcases hc with rfl | rfl | rfl | rfl | rfl <;> decide
    simp [low_ok (n + 1) (b - 6) (1 + c) (hb := by omega) (h1 := by omega) (h2 := by omega)]
    exact ⟨⟨_, rfl, Z_divInt (by omega) hd (by omega)⟩, (fr1.trans fr2).trans fr3⟩
  · refine (s_dip (n + 1) j 9 S1 fr1.jar (by decide) (by decide)).mono ?_
    rintro v S2 ⟨⟨b, rfl, b0, b1⟩, fr2⟩
    simp
    refine ⟨⟨Rat.divInt (b - 4) 1, (divInt_1 _).symm, Z_divInt (by decide) (Nat.one_dvd _) (by omega)⟩, fr1.trans fr2⟩
end K06

set_option Elab.async false
set_option linter.all false
set_option maxRecDepth 100000
set_option maxHeartbeats 400000
namespace K06
open PySem PySem.Spec Pin
theorem rng_len (w : Nat) : (rangeD 0 w).length = w := by unfold rangeD; simp
theorem rng_ok {w : Nat} (h : w ≤ 1000) : rngOk (w : Int) = true := by
  unfold rngOk
  rw [decide_eq_true (by omega), decide_eq_true (by omega)]; rfl
theorem fr_end {j : Nat} {S S' : Store} (h : Fr j S S') (X : Store) : Fr j S (S' ++ X) := h.trans (Fr.app h.jar X)
theorem s_drawn_row (n j w : Nat) (wi o : Int) (S : Store) (hJ : JarOK S j) (hwi : wi.toNat = w) (h0 : 0 ≤ wi) (hw : w ≤ 1000) : WP (callF P (n + 4) f__law_drawn_row [.ref j, .int wi, .int o] S) fun v S' => (∃ rs, v = rowd rs ∧ rs.length = w ∧ PB rs) ∧ Fr j S S' := by
  refine call_jar P__law_drawn_row rfl hJ ?_
  have rk : rngOk wi = true := by unfold rngOk; rw [decide_eq_true (by omega), decide_eq_true (by omega)]; rfl
  simp [sm__law_drawn_row, startE, rk, hwi, wipeE]
  refine wp_lcL (fun ys xs S' => ∃ rs : List Rat, ys = rs.map qd ∧ PB rs ∧ rs.length + xs.length = w ∧ Fr j S S') (fun _ _ _ _ => gd_nil) ?_ _ [] S _ ⟨[], rfl, (fun x hx => by cases hx), by rw [rng_len]; simp, Fr.refl hJ⟩ ?_
  · rintro ys x xs S1 ⟨rs, rfl, hp, hl, fr⟩
    rw [List.length_cons] at hl
    simp [wp_tupM, len2l]
    refine (s_dip (n + 2) j 10 S1 fr.jar (by decide) (by decide)).mono ?_
    rintro v S2 ⟨⟨a, rfl, a0, a1⟩, fr2⟩
    simp
    refine ⟨fun _ => ⟨rs ++ [0], by simp [qd_zero], ?_, by simp; omega, fr.trans fr2⟩, fun _ => ?_⟩
    · intro x hx
      rcases List.mem_append.mp hx with h | h
      · exact hp x h
      · rw [List.mem_singleton.mp h]; exact Z0 _ _
    · refine (s_drawn_number n j S2 fr2.jar).mono ?_
      rintro v S3 ⟨⟨r, rfl, hr⟩, fr3⟩
      refine ⟨rs ++ [r], by simp, ?_, by simp; omega, (fr.trans fr2).trans fr3⟩
      intro x hx
      rcases List.mem_append.mp hx with h | h
      · exact hp x h
      · rw [List.mem_singleton.mp h]; exact hr
  · rintro zs S' ⟨rs, h1, hp, hl, fr⟩
    rw [List.nil_append] at h1
    subst h1
    rw [List.length_nil, Nat.add_zero] at hl
    have hz : rs.length ≤ sizeLine := le_line (by omega)
    simp [wp_fits, wp_getL get_end, wp_tupM, hz]
    exact ⟨⟨rs, rfl, hl, hp⟩, fr_end fr _⟩
theorem s_weights (n j m : Nat) (mi : Int) (S : Store) (hJ : JarOK S j) (hmi : mi.toNat = m) (h0 : 0 ≤ mi) (hw : m ≤ 1000) : WP (callF P (n + 3) f__law_weights [.ref j, .int mi] S) fun v S' => (∃ rs, v = rowd rs ∧ rs.length = m ∧ ∀ x ∈ rs, Z 1 4 x ∧ 0 ≤ x) ∧ Fr j S S' := by
  refine call_jar P__law_weights rfl hJ ?_
  have rk : rngOk mi = true := by unfold rngOk; rw [decide_eq_true (by omega), decide_eq_true (by omega)]; rfl
  simp [sm__law_weights, startE, rk, hmi, wipeE]
  refine wp_lcL (fun ys xs S' => ∃ rs : List Rat, ys = rs.map qd ∧ (∀ x ∈ rs, Z 1 4 x ∧ 0 ≤ x) ∧ rs.length + xs.length = m ∧ Fr j S S') (fun _ _ _ _ => gd_nil) ?_ _ [] S _ ⟨[], rfl, (fun x hx => by cases hx), by rw [rng_len]; simp, Fr.refl hJ⟩ ?_
  · rintro ys x xs S1 ⟨rs, rfl, hp, hl, fr⟩
    rw [List.length_cons] at hl
    simp [wp_tupM, len2l]
    refine (s_dip (n + 1) j 2 S1 fr.jar (by decide) (by decide)).mono ?_
    rintro v S2 ⟨⟨a, rfl, a0, a1⟩, fr2⟩
    simp
    refine ⟨fun _ => ?_, fun _ => ⟨rs ++ [0], by simp [qd_zero], ?_, by simp; omega, fr.trans fr2⟩⟩
    · refine (s_some_times n j S2 fr2.jar).mono ?_
      rintro v S3 ⟨⟨r, rfl, r0, hr⟩, fr3⟩
      refine ⟨rs ++ [r], by simp, ?_, by simp; omega, (fr.trans fr2).trans fr3⟩
      intro x hx
      rcases List.mem_append.mp hx with h | h
      · exact hp x h
      · rw [List.mem_singleton.mp h]; exact ⟨hr, by grind⟩
    · intro x hx
      rcases List.mem_append.mp hx with h | h
      · exact hp x h
      · rw [List.mem_singleton.mp h]; exact ⟨Z0 _ _, by decide⟩
  · rintro zs S' ⟨rs, h1, hp, hl, fr⟩
    rw [List.nil_append] at h1
    subst h1
    rw [List.length_nil, Nat.add_zero] at hl
    have hz : rs.length ≤ sizeLine := le_line (by omega)
    simp [wp_fits, wp_getL get_end, wp_tupM, hz]
    exact ⟨⟨rs, rfl, hl, hp⟩, fr_end fr _⟩
theorem s_size (n j : Nat) (S : Store) (hJ : JarOK S j) : WP (callF P (n + 3) f__law_size [.ref j] S) fun v S' => (∃ w : Nat, v = .int w ∧ w ≤ 40) ∧ Fr j S S' := by
  refine call_jar P__law_size rfl hJ ?_
  have l11 : 11 ≤ sizeLine := by decide
  simp [sm__law_size, startE, wp_lstM, l11]
  refine (one_new n j _ S hJ (by simp) (by simp)).mono ?_
  rintro v S2 ⟨hv, fr2⟩
  refine ⟨?_, fr2⟩
  simp at hv
  rcases hv with rfl | rfl | rfl | rfl | rfl | rfl | rfl | rfl | rfl | rfl
  · exact ⟨0, rfl, by decide⟩
  · exact ⟨1, rfl, by decide⟩
  · exact ⟨2, rfl, by decide⟩
  · exact ⟨3, rfl, by decide⟩
  · exact ⟨4, rfl, by decide⟩
  · exact ⟨5, rfl, by decide⟩
  · exact ⟨7, rfl, by decide⟩
  · exact ⟨11, rfl, by decide⟩
  · exact ⟨23, rfl, by decide⟩
  · exact ⟨40, rfl, by decide⟩
end K06

set_option Elab.async false
set_option linter.all false
set_option maxRecDepth 100000
set_option maxHeartbeats 400000
namespace K06
open PySem PySem.Spec Pin
/-- a fence drawn about a point -/
structure About (w : Nat) (pt : List Rat) (f : Fen) : Prop where
  len : f.row.length = w
  row : PB f.row
  b : Z 2 7000 f.b
  sl : ∃ sl, f.b = dot f.row pt - sl ∧ 0 ≤ sl ∧ (f.s = true → 0 < sl)
theorem About.fb {w : Nat} {pt : List Rat} {f : Fen} (h : About w pt f) : FB f := ⟨fun x hx => (h.row x hx).mono (by decide) (by decide), h.b.mono (by decide) (by decide)⟩
theorem me_app {r : Nat} {d : D} {S : Store} {Q : D → Store → Prop} {xs : List D} (h : S[r]? = some (.lst xs)) (hl : xs.length < 1000) (q : Q .non (S.set r (.lst (xs ++ [d])))) : WP (meM .append (.ref r) [d] S) Q := by
  show WP ((getL r >>= fun xs => fits (xs.length + 1) (do setO r (.lst (xs ++ [d])); pure .non)) S) Q
  rw [wp_bind, wp_getL h, wp_fits]
  refine ⟨le_line (by omega), ?_⟩
  rw [wp_bind, wp_def]
  show WP ((pure D.non : M D) (S.set r (.lst (xs ++ [d])))) Q
  rw [wp_pure]
  exact q
theorem s_room_about (n j w m : Nat) (wi mi : Int) (pt : List Rat) (S : Store) (hJ : JarOK S j) (hwi : wi.toNat = w) (h0 : 0 ≤ wi) (hw : w ≤ 40) (hmi : mi.toNat = m) (h1 : 0 ≤ mi) (hm : m ≤ 100) (hp : PB pt) :
    WP (callF P (n + 5) f__law_room_about [.ref j, .int wi, .int mi, rowd pt] S) fun v S' => (∃ fs, v = roomd fs ∧ fs.length = m ∧ ∀ f ∈ fs, About w pt f) ∧ Fr j S S' := by
  refine call_jar P__law_room_about rfl hJ ?_
  have rk : rngOk mi = true := by unfold rngOk; rw [decide_eq_true (by omega), decide_eq_true (by omega)]; rfl
  have z0 : 0 ≤ sizeLine := Nat.zero_le _
  have l3 : 3 ≤ sizeLine := by decide
  have hj := hJ.lt
  simp [sm__law_room_about, startE, rk, hmi, wp_lstM]
  refine wp_for (fun ys ρ S' => ∃ (fs : List Fen) (o1 o2 o3 o4 : Option D), ρ = [some (.ref j), some (.int wi), some (.int mi), some (rowd pt), some (.ref S.length), o1, o2, o3, o4] ∧ fs.length + ys.length = m ∧ (∀ f ∈ fs, About w pt f) ∧ S'[S.length]? = some (.lst (fs.map fend)) ∧ Fr j S S') ?_ ?_ ?_ _ _ _
    ⟨[], none, none, none, none, rfl, by simp [rangeD], (fun f hf => by cases hf), by simp, Fr.app hJ _⟩
  · intro ys ρ S' _; exact gd_nil
  · rintro ρ S' ⟨fs, o1, o2, o3, o4, rfl, hl, hf, hg, fr⟩
    have hz : fs.length ≤ sizeLine := le_line (by rw [List.length_nil] at hl; omega)
    simp [wp_getL hg, wp_tupM, hz]
    exact ⟨⟨fs, rfl, by simpa using hl, hf⟩, fr⟩
  · rintro y ys ρ S1 ⟨fs, o1, o2, o3, o4, rfl, hl, hf, hg, fr⟩ K' hn _ _ _
    rw [List.length_cons] at hl
    simp [wp_lstM, l3]
    refine (one_new (n + 2) j _ S1 fr.jar (by simp) (by simp)).mono ?_
    rintro v S2 ⟨hv, fr2⟩
    obtain ⟨o, rfl⟩ : ∃ o : Int, v = .int o := by
      simp at hv
      rcases hv with rfl | rfl | rfl <;> exact ⟨_, rfl⟩
    refine (s_drawn_row n j w wi o S2 fr2.jar hwi h0 (by omega)).mono ?_
    rintro v S3 ⟨⟨row, rfl, hrl, hrp⟩, fr3⟩
    simp [wp_tupM, len2l]
    refine (s_some_times (n + 2) j S3 fr3.jar).mono ?_
    rintro v S4 ⟨⟨t, rfl, t0, tz⟩, fr4⟩
    refine (one_new (n + 2) j _ S4 fr4.jar (by simp) (by simp)).mono ?_
    rintro v S5 ⟨hv, fr5⟩
    obtain ⟨sl, rfl, sl0, slz⟩ : ∃ sl, v = qd sl ∧ 0 ≤ sl ∧ Z 1 4 sl := by
      simp at hv
      rcases hv with rfl | rfl
      · exact ⟨0, qd_zero, by decide, Z0 _ _⟩
      · exact ⟨t, rfl, by grind, tz⟩
    have frA := (((fr.trans fr2).trans fr3).trans fr4).trans fr5
    have hz := zip_le row pt
    have dz : Z 2 6400 (dot row pt) := by
      have := dotF_sz LLpos LLlt (a := 1) (e := 140) (b := 1) (f := 140) (row.zip pt) 0 280 (fun p hp' => ⟨hrp _ (zip_mem hp').1, hp _ (zip_mem hp').2⟩) (Z0 _ _) (by omega)
      exact this.mono (by decide) (by omega)
    have k1 := fun S => s_lproduct LLpos LLlt (n + 1) row pt S (a := 1) (e := 140) (b := 1) (f := 140) (hx := hrp) (hy := hp) (hd := by decide) (he := by omega) (h0 := by decide)
    have k2 := fun S => s_minus (n + 1) (dot row pt) sl S (hx := dz.ok (by decide) (by decide)) (hy := slz.ok (by decide) (by decide))
    simp [k1, k2, qd_zero, eq_qd, wp_tupM, len2l, l3]
    have frB := ((fr2.trans fr3).trans fr4).trans fr5
    have hlt := (List.getElem?_eq_some_iff.mp hg).1
    have bz : Z 2 7000 (dot row pt - sl) := by
      rw [Rat.sub_eq_add_neg]
      exact (dz.add ((slz.mono (m := 2) (f := 6400) (by decide) (by decide)).neg) LLpos LLlt).mono (by decide) (by decide)
    have fin : ∀ (b : Bool) (S6 : Store), Fr j S1 S6 → (b = true → 0 < sl) → WP (meM Me.append (.ref S.length) [.tup [rowd row, qd (dot row pt - sl), .bl b]] S6) fun _ S' =>
        WP (K'.nx [some (.ref j), some (.int wi), some (.int mi), some (rowd pt), some (.ref S.length), some y, some (rowd row), some (qd sl), some (qd (dot row pt - sl))] S') fun v S' => (∃ fs, v = roomd fs ∧ fs.length = m ∧ ∀ f ∈ fs, About w pt f) ∧ Fr j S S' := by
      intro b S6 f6 hb
      have hg6 : S6[S.length]? = some (.lst (fs.map fend)) := by rw [f6.oth _ hlt (by omega), hg]
      have hlt6 := (List.getElem?_eq_some_iff.mp hg6).1
      refine me_app hg6 (by rw [List.length_map]; omega) ?_
      refine hn _ _ ⟨fs ++ [⟨row, dot row pt - sl, b⟩], _, _, _, _, rfl, by simp; omega, ?_, ?_, ?_⟩
      · intro f hf'
        rcases List.mem_append.mp hf' with h | h
        · exact hf f h
        · rw [List.mem_singleton.mp h]
          exact ⟨hrl, hrp, bz, sl, rfl, sl0, hb⟩
      · rw [List.getElem?_set_self hlt6, List.map_append]; rfl
      · have fA := fr.trans f6
        refine ⟨by rw [List.length_set]; exact fA.len, ?_, fun i hi hij => ?_⟩
        · obtain ⟨a, b, q1, q2⟩ := fA.jar
          exact ⟨a, b, by rw [List.getElem?_set_ne (by omega)]; exact q1, q2⟩
        · rw [List.getElem?_set_ne (by omega), fA.oth i hi hij]
    have hg5 : S5[S.length]? = some (.lst (fs.map fend)) := by rw [frB.oth _ hlt (by omega), hg]
    rw [wp_getL hg5]
    refine ⟨fun hs => ?_, fun hs => ?_⟩
    · refine (s_dip (n + 3) j 2 S5 fr5.jar (by decide) (by decide)).mono ?_
      rintro v S6 ⟨⟨c, rfl, c0, c1⟩, fr6⟩
      simp
      exact fin _ S6 (frB.trans fr6) fun _ => by grind
    · exact fin _ S5 frB fun e => by simp [hs] at e
end K06

set_option Elab.async false
set_option linter.all false
set_option maxRecDepth 100000
set_option maxHeartbeats 400000
namespace K06
open PySem PySem.Spec Pin
/-! ### a room that holds has no bar -/
theorem dotF_acc : ∀ (ps : List (Rat × Rat)) (s : Rat), dotF s ps = s + dotF 0 ps
  | [], s => by show s = s + 0; grind
  | p :: ps, s => by
    show dotF (s + p.1 * p.2) ps = s + dotF (0 + p.1 * p.2) ps
    rw [dotF_acc ps (s + p.1 * p.2), dotF_acc ps (0 + p.1 * p.2)]; grind
theorem dot_cons (x y : Rat) (xs ys : List Rat) : dot (x :: xs) (y :: ys) = x * y + dot xs ys := by
  show dotF (0 + x * y) (xs.zip ys) = _
  rw [dotF_acc]
  show 0 + x * y + dot xs ys = _
  grind
theorem dot_nil (ys : List Rat) : dot [] ys = 0 := rfl
theorem dot_lin (a : Rat) : ∀ (xs us ys : List Rat), xs.length = us.length → us.length = ys.length → dot (List.zipWith (· + ·) xs (us.map (a * ·))) ys = dot xs ys + a * dot us ys
  | [], [], [], _, _ => by show (0 : Rat) = 0 + a * 0; grind
  | x :: xs, u :: us, y :: ys, h1, h2 => by
    rw [List.map_cons, List.zipWith_cons_cons, dot_cons, dot_cons, dot_cons, dot_lin a xs us ys (by simpa using h1) (by simpa using h2)]
    grind
  | [], _ :: _, _, h, _ => by simp at h
  | _ :: _, [], _, h, _ => by simp at h
  | _ :: _, _ :: _, [], _, h => by simp at h
  | [], [], _ :: _, _, h => by simp at h
theorem dot_all0 : ∀ (xs ys : List Rat), all0 xs = true → dot xs ys = 0
  | [], _, _ => rfl
  | _ :: _, [], _ => rfl
  | x :: xs, y :: ys, h => by
    unfold all0 at h
    rw [List.all_cons, Bool.and_eq_true, decide_eq_true_eq] at h
    rw [dot_cons, dot_all0 xs ys h.2, h.1]; grind
theorem about_keeps {w : Nat} {pt : List Rat} {f : Fen} (h : About w pt f) : keepF f pt = true := by
  obtain ⟨sl, e, h0, h1⟩ := h.sl
  unfold keepF
  by_cases q : 0 < sl
  · have : f.b < dot f.row pt := by grind
    simp [this]
  · have e2 : dot f.row pt = f.b := by grind
    have e3 : f.s = false := by
      cases hs : f.s with
      | false => rfl
      | true => exact absurd (h1 hs) q
    simp [e2, e3]
theorem rise {w : Nat} {pt : List Rat} (hpt : pt.length = w) : ∀ (ps : List (Fen × Rat)) (s : List Rat × Rat), s.1.length = w → (∀ p ∈ ps, About w pt p.1 ∧ 0 ≤ p.2) →
    (ps.foldl stepF s).1.length = w ∧ dot s.1 pt - s.2 ≤ dot (ps.foldl stepF s).1 pt - (ps.foldl stepF s).2 ∧ (anyS ps = true → dot s.1 pt - s.2 < dot (ps.foldl stepF s).1 pt - (ps.foldl stepF s).2)
  | [], s, hs, _ => ⟨hs, by show dot s.1 pt - s.2 ≤ dot s.1 pt - s.2; grind, fun h => by cases h⟩
  | p :: ps, s, hs, h => by
    obtain ⟨ha, h0⟩ := h p List.mem_cons_self
    have hl : (stepF s p).1.length = w := by
      show (List.zipWith (· + ·) s.1 (p.1.row.map (p.2 * ·))).length = w
      rw [List.length_zipWith, List.length_map, ha.len, hs]; omega
    obtain ⟨r1, r2, r3⟩ := rise hpt ps (stepF s p) hl fun q hq => h q (List.mem_cons_of_mem p hq)
    obtain ⟨sl, e, s0, s1⟩ := ha.sl
    have d1 : dot (stepF s p).1 pt = dot s.1 pt + p.2 * dot p.1.row pt := dot_lin p.2 s.1 p.1.row pt (by rw [hs, ha.len]) (by rw [ha.len, hpt])
    have d2 : (stepF s p).2 = s.2 + p.2 * p.1.b := rfl
    have d3 : dot (stepF s p).1 pt - (stepF s p).2 = dot s.1 pt - s.2 + p.2 * sl := by rw [d1, d2, e]; grind
    have d4 : 0 ≤ p.2 * sl := Rat.mul_nonneg h0 s0
    refine ⟨r1, ?_, fun hany => ?_⟩
    · show _ ≤ dot (ps.foldl stepF (stepF s p)).1 pt - (ps.foldl stepF (stepF s p)).2
      grind
    · show _ < dot (ps.foldl stepF (stepF s p)).1 pt - (ps.foldl stepF (stepF s p)).2
      unfold anyS at hany r3
      rw [List.any_cons, Bool.or_eq_true] at hany
      rcases hany with q | q
      · rw [Bool.and_eq_true, decide_eq_true_eq] at q
        have := Rat.mul_pos q.2 (s1 q.1)
        grind
      · have := r3 q
        grind
theorem no_bar {w : Nat} {pt : List Rat} (hpt : pt.length = w) {fs : List Fen} {ws : List Rat} (hf : ∀ f ∈ fs, About w pt f) (hw : ∀ a ∈ ws, 0 ≤ a) : barV w fs ws = false := by
  obtain ⟨r1, r2, r3⟩ := rise hpt (fs.zip ws) (List.replicate w 0, 0) (by simp) fun p hp => ⟨hf _ (zip_mem hp).1, hw _ (zip_mem hp).2⟩
  have z : dot (List.replicate w 0) pt = 0 := dot_all0 _ _ (by unfold all0; simp)
  have e : (fs.zip ws).foldl stepF (List.replicate w 0, 0) = sumF w (fs.zip ws) := rfl
  rw [e] at r1 r2 r3
  simp only [z] at r2 r3
  unfold barV barS
  cases h0 : all0 (sumF w (fs.zip ws)).1 with
  | false => simp
  | true =>
    have d := dot_all0 _ pt h0
    rw [d] at r2 r3
    have q1 : ¬ 0 < (sumF w (fs.zip ws)).2 := by grind
    by_cases q2 : (sumF w (fs.zip ws)).2 = 0
    · cases ha : anyS (fs.zip ws) with
      | false => simp [q1]
      | true => have := r3 ha; grind
    · simp [q1, q2]
end K06

set_option Elab.async false
set_option linter.all false
set_option maxRecDepth 100000
set_option maxHeartbeats 400000
namespace K06
open PySem PySem.Spec Pin
theorem s_jar (n q : Nat) (xs : List D) (S : Store) (hq : S[q]? = some (.lst xs)) (hx : xs = [] ∨ ∃ c : Int, xs = [.int c]) : WP (callF P (n + 1) f__law_jar [.ref q, .int 0] S) fun v S' => v = .ref S.length ∧ JarOK S' S.length := by
  refine call_wp P__law_jar rfl ?_
  have w1 : powOk 10 47 = true := by decide
  have w2 : powOk (10 ^ 47) 6 = true := by decide
  have w3 : powOk 10 17 = true := by decide
  have w4 : powOk 100000000000000000000000000000000000000000000000 6 = true := by decide
  have w5 : mulOk 1193 0 = true := by decide
  have w6 : mulOk 613 0 = true := by decide
  have w7 : ∀ b : Bool, mulOk 47 (if b = true then 1 else 0) = true := fun b => by cases b <;> decide
  have w8 : mulOk 47 1 = true := by decide
  have w9 : mulOk 47 0 = true := by decide
  have fp : ∀ g : Int, 0 ≤ g.fmod 18446744073709551557 ∧ g.fmod 18446744073709551557 < 18446744073709551557 := fun g => ⟨Int.fmod_nonneg_of_pos g (by decide), Int.fmod_lt_of_pos g (by decide)⟩
  have wm : ∀ g : Int, mulOk (g.fmod 18446744073709551557) 89 = true := fun g => mul_ok (a := 65) (b := 7) (by have := fp g; omega) (by decide) (by decide) (by decide) (by decide)
  rcases hx with rfl | ⟨c, rfl⟩
  · simp only [sm__law_jar, startE]
    simp [wp_getL hq, w1, w2, w3, w4, w5, w6, w7, w8, w9, wm, abs_eq, wp_lstM]
    have v1 : mulOk 71 89 = true := by decide
    simp [v1]
    exact ⟨len2l, 0, 6342, by simp, by decide, by decide⟩
  · simp only [sm__law_jar, startE]
    simp [wp_getL hq, w1, w2, w3, w4, w5, w6, w7, w8, w9, wm, abs_eq, wp_lstM]
    refine ⟨len2l, _, _, get_end, ?_, ?_⟩
    · generalize hg : Int.fmod (c.natAbs : Int) _ = g
      have := fp g
      split <;> omega
    · generalize hg : Int.fmod (c.natAbs : Int) _ = g
      have := fp g
      split <;> omega
end K06

set_option Elab.async false
set_option linter.all false
set_option maxRecDepth 100000
set_option maxHeartbeats 400000
namespace K06
open PySem PySem.Spec Pin
theorem bits_lt {k : Int} (h : Builtin.Int.intBits k ≤ 1048576) : k.natAbs < 2 ^ 1048576 := by
  unfold Builtin.Int.intBits at h
  split at h
  · rename_i e
    have : k = 0 := by simpa using e
    rw [this]; exact Nat.pow_pos (by decide)
  · exact Nat.lt_of_lt_of_le Nat.lt_log2_self (Nat.pow_le_pow_right (by decide) h)
theorem cell_step {c o : Int} {e : Nat} (h : c.natAbs < 2 ^ e) (ho : o.natAbs < 2 ^ 1048576) (he : 1048576 ≤ e) : (c * 31 + o).natAbs < 2 ^ (e + 6) := by
  refine sum_lt (e := e + 5) ?_ (Nat.lt_of_lt_of_le ho (Nat.pow_le_pow_right (by decide) (by omega))) (by omega)
  rw [Int.natAbs_mul, Nat.pow_add]
  exact Nat.mul_lt_mul'' h (by decide)
theorem cut40 (ns : List Int) : cutD (ns.map D.int) none (some 40) = (ns.take 40).map D.int := by
  have h : HT.sIx (ns.map D.int).length (ns.map D.int).length (some 40) = min 40 ns.length := by
    rw [show (40 : Int) = ((40 : Nat) : Int) from rfl, HT.sIx_nat, List.length_map]
  unfold cutD
  rw [h, HT.sIx_none, List.drop_zero, Nat.sub_zero, ← List.map_take]
  congr 1
  rw [List.take_eq_take_iff]; omega
theorem s_law (k : Nat) (hR : ∀ j S, JarOK S j → WP (callF P (k + 1) f__law_right [.ref j] S) fun v S' => v = .bl true ∧ Fr j S S') (ns : List Int) (hb : ∀ k ∈ ns, Builtin.Int.intBits k ≤ 1048576) :
    ∃ S, callF P (k + 2) f_law [.fz (ns.map D.int)] [] = .ok (.bl true) S := by
  have key : WP (callF P (k + 2) f_law [.fz (ns.map D.int)] []) fun v _ => v = .bl true := by
    refine call_wp P_law rfl ?_
    simp [sm_law, startE, cut40]
    rw [wp_getL (xs := List.take 40 (List.map D.int ns)) rfl]
    refine wp_for (fun ys ρ S' => ∃ (r : List Int) (c : Int) (e : Nat) (o : Option D), ys = r.map D.int ∧ ρ = [some (.fz (ns.map D.int)), some (.int c), o, none] ∧ c.natAbs < 2 ^ e ∧ 1048576 ≤ e ∧ e + 6 * r.length ≤ 2000000 ∧ (∀ x ∈ r, x.natAbs < 2 ^ 1048576) ∧ S' = [.lst ((ns.take 40).map D.int)]) ?_ ?_ ?_ _ _ _
      ⟨ns.take 40, 0, 1048576, none, List.map_take.symm, rfl, by simpa using Nat.pow_pos (by decide), Nat.le_refl _, by rw [List.length_take]; omega, (fun x hx => bits_lt (hb x (List.mem_of_mem_take hx))), by rw [List.map_take]⟩
    · rintro ys ρ S' ⟨r, c, e, o, rfl, rfl, h1, h2, h3, h4, rfl⟩
      intro p hp
      simp at hp
      rw [hp]
      simp
    · rintro ρ S' ⟨r, c, e, o, h0, rfl, h1, h2, h3, h4, rfl⟩
      have l1 : 1 ≤ sizeLine := by decide
      have l0 : 0 ≤ sizeLine := by decide
      have go : ∀ (xs : List D), (xs = [] ∨ ∃ c : Int, xs = [.int c]) → ∀ S : Store, WP (callF P (k + 1) f__law_jar [.ref S.length, .int 0] (S ++ [.lst xs])) fun v S' => WP (callF P (k + 1) f__law_right [v] S') fun w S2 => w = .bl true ∧ WP (callF P (k + 1) f__law_right [v] S2) fun w _ => w = .bl true := by
        intro xs hx S
        refine (s_jar k S.length xs (S ++ [.lst xs]) (by simp) hx).mono ?_
        rintro v S1 ⟨rfl, hJ⟩
        refine (hR _ S1 hJ).mono ?_
        rintro w S2 ⟨rfl, fr⟩
        refine ⟨rfl, (hR _ S2 fr.jar).mono ?_⟩
        rintro w S3 ⟨rfl, _⟩
        rfl
      simp [wp_lstM, l1]
      refine ⟨fun _ => ?_, fun _ => ?_⟩
      · refine (go [.int c] (.inr ⟨c, rfl⟩) [Ob.lst (List.take 40 (List.map D.int ns))]).mono fun v S1 h => h.mono ?_
        rintro w S2 ⟨rfl, h⟩
        simp
        exact h.mono fun _ _ q => ⟨q, fun _ => q⟩
      · refine (go [] (.inl rfl) [Ob.lst (List.take 40 (List.map D.int ns))]).mono fun v S1 h => h.mono ?_
        rintro w S2 ⟨rfl, h⟩
        simp
        exact h.mono fun _ _ q => ⟨q, fun _ => q⟩
    · rintro y ys ρ S' ⟨r, c, e, o, h0, rfl, h1, h2, h3, h4, rfl⟩ K' hn _ _ _
      cases r with
      | nil => simp at h0
      | cons a r =>
        simp only [List.map_cons, List.cons.injEq] at h0
        obtain ⟨rfl, rfl⟩ := h0
        rw [List.length_cons] at h3
        have m : mulOk c 31 = true := mul_ok (b := 5) h1 (by decide) (by omega) (by omega) (by decide)
        simp [m]
        exact hn _ _ ⟨r, c * 31 + a, e + 6, _, rfl, rfl, cell_step h1 (h4 a List.mem_cons_self) h2, by omega, by omega, (fun x hx => h4 x (List.mem_cons_of_mem _ hx)), by simp⟩
  rw [wp_def] at key
  cases e : callF P (k + 2) f_law [.fz (ns.map D.int)] [] with
  | ok v S' => rw [e] at key; exact ⟨S', by rw [show v = .bl true from key]⟩
  | exc x S' => rw [e] at key; exact key.elim
  | stk => rw [e] at key; exact key.elim
end K06

set_option Elab.async false
set_option linter.all false
set_option maxRecDepth 100000
set_option maxHeartbeats 400000
namespace K06
open PySem PySem.Spec Pin
/-! ### cuts -/
theorem cut_to {xs : List D} (a : Nat) : cutD xs none (some (a : Int)) = xs.take a := by
  unfold cutD
  rw [HT.sIx_nat, HT.sIx_none, List.drop_zero, Nat.sub_zero]
  rw [List.take_eq_take_iff]; omega
theorem cut_from {xs : List D} (a : Nat) : cutD xs (some (a : Int)) none = xs.drop a := by
  unfold cutD
  rw [HT.sIx_nat, HT.sIx_none]
  by_cases h : a ≤ xs.length
  · rw [Nat.min_eq_left h, List.take_of_length_le (by rw [List.length_drop]; omega)]
  · rw [Nat.min_eq_right (by omega), List.drop_of_length_le (Nat.le_refl _), List.drop_of_length_le (show xs.length ≤ a by omega)]; simp
theorem putL_len {α : Type} {xs : List α} {a : Nat} {r : α} (h : a < xs.length) : (xs.take a ++ r :: xs.drop (a + 1)).length = xs.length := by
  simp; omega
theorem putL_PB {xs : List Rat} {a : Nat} {r : Rat} (h : PB xs) (hr : Z 1 140 r) : PB (xs.take a ++ r :: xs.drop (a + 1)) := fun x hx => by
  rcases List.mem_append.mp hx with q | q
  · exact h x (List.mem_of_mem_take q)
  · rcases List.mem_cons.mp q with rfl | q
    · exact hr
    · exact h x (List.mem_of_mem_drop q)
theorem RB.of {w : Nat} {wi : Int} {pt : List Rat} {fs : List Fen} (hwi : wi = w) (hw : w ≤ 40) (hl : fs.length ≤ 80) (h : ∀ f ∈ fs, About w pt f) : RB wi fs :=
  ⟨hl, by omega, by omega, fun f hf => by rw [hwi, (h f hf).len], fun f hf => (h f hf).fb⟩
/-- what the law keeps of the broken ones -/
theorem broken_idx (fs : List Fen) (xs : List Rat) : ∀ k, ((fs.zipIdx k).filter fun p => !keepF p.1 xs).isEmpty = fs.all fun f => keepF f xs := by
  induction fs with
  | nil => intro k; rfl
  | cons f fs ih =>
    intro k
    rw [List.zipIdx_cons]
    cases h : keepF f xs with
    | true => rw [List.filter_cons_of_neg (by simp [h]), ih, List.all_cons, h, Bool.true_and]
    | false => rw [List.filter_cons_of_pos (by simp [h]), List.all_cons, h]; rfl
theorem broken_head (xs : List Rat) : ∀ (fs : List Fen) (k : Nat), (fs.findIdx? fun f => !keepF f xs).map (· + k) = (((fs.zipIdx k).filter fun p => !keepF p.1 xs).head?).map (·.2)
  | [], k => rfl
  | f :: fs, k => by
    rw [List.zipIdx_cons, List.findIdx?_cons]
    cases h : keepF f xs with
    | true =>
      rw [List.filter_cons_of_neg (by simp [h]), ← broken_head xs fs (k + 1)]
      simp
      cases fs.findIdx? (fun f => !keepF f xs) with
      | none => rfl
      | some i => simp; omega
    | false => rw [List.filter_cons_of_pos (by simp [h])]; simp
theorem s_room_right (n j w : Nat) (wi : Int) (pt : List Rat) (fs : List Fen) (S : Store) (hJ : JarOK S j) (hwi : wi = w) (hw : w ≤ 40) (hl : fs.length ≤ 80) (hpl : pt.length = w) (hp : PB pt) (h : ∀ f ∈ fs, About w pt f) :
    WP (callF P (n + 9) f__law_room_right [.ref j, .int wi, roomd fs, rowd pt] S) fun v S' => v = .bl true ∧ Fr j S S' := by
  refine call_jar P__law_room_right rfl hJ ?_
  have rb := RB.of hwi hw hl h
  have k1 := fun S => s_is_room (n + 2) wi (roomd fs) S (vok_room _ _) (by omega) (by omega)
  rw [isRoom_room hl rb.row] at k1
  have k2 := fun S => s_does_hold n wi fs pt S rb (by omega) hp
  have k3 := fun S => s_first_broken n wi fs pt S rb (by omega) hp
  have a1 : (fs.all fun f => keepF f pt) = true := List.all_eq_true.mpr fun f hf => about_keeps (h f hf)
  have a2 : brokenD fs pt = .non := by
    unfold brokenD
    rw [List.findIdx?_eq_none_iff.mpr fun f hf => by rw [about_keeps (h f hf)]; rfl]
  rw [a1] at k2
  rw [a2] at k3
  simp [sm__law_room_right, startE, k1, k2, k3]
  have r4 : rngOk 4 = true := by decide
  simp [r4]
  have lenr : (roomd fs) = .tup (fs.map fend) := rfl
  refine wp_for (fun ys ρ S' => ∃ (o1 o2 o3 o4 : Option D), ρ = [some (.ref j), some (.int wi), some (roomd fs), some (rowd pt), o1, o2, o3, o4, none, none, none] ∧ Fr j S S') ?_ ?_ ?_ _ _ _ ⟨none, none, none, none, rfl, Fr.refl hJ⟩
  · intro ys ρ S' _; exact gd_nil
  · rintro ρ S1 ⟨o1, o2, o3, o4, rfl, fr⟩
    have e1 : biM .len [roomd fs] = pure (.int ((fs.map fend).length : Nat)) := rfl
    simp only [wp_bind, var_0, var_s, wp_pure, e1, List.length_map]
    obtain ⟨mi, hmi⟩ : ∃ mi : Int, mi = (fs.length : Int) := ⟨_, rfl⟩
    rw [← hmi]
    have sw := s_weights (n + 5) j fs.length mi S1 fr.jar (by omega) (by omega) (by omega)
    refine sw.mono ?_
    rintro v S2 ⟨⟨ws, rfl, wl, wz⟩, fr2⟩
    have hb : WB ws := fun a ha => (wz a ha).1.mono (by decide) (by decide)
    have hn : nonneg ws = true := List.all_eq_true.mpr fun a ha => decide_eq_true (wz a ha).2
    have rbw : RB (w : Int) fs := hwi ▸ rb
    have G := GB.of rbw hb
    have m1 := fun S => s_summed n w fs ws S rbw wl hb hn
    have m2 := fun S => s_lsummed (n + 4) w fs ws S hw G
    have m3 := fun S => s_is_bar_row n w fs ws S rbw wl hb
    rw [no_bar hpl h (fun a ha => (wz a ha).2)] at m3
    have m4 := fun S => s_is_bar_row n w fs (List.replicate fs.length 0) S rbw (by simp) (fun a ha => by rw [List.eq_of_mem_replicate ha]; exact Z0 _ _)
    rw [no_bar hpl h (fun a ha => by rw [List.eq_of_mem_replicate ha]; decide)] at m4
    rw [← hwi] at m1 m2 m3 m4
    simp [m1, m2, m3]
    have ep : ∀ s : List Rat × Rat, eqM (D.tup [rowd s.1, qd s.2]) (D.tup [rowd s.1, qd s.2]) = pure true := fun s => by
      refine eqM_of (x := .tuple [.tuple (s.1.map pq), pq s.2]) (y := .tuple [.tuple (s.1.map pq), pq s.2]) (fun _ => rfl) (fun S => ?_) (fun S => ?_) ?_
      · show (mapO (toPy S 59) [rowd s.1, qd s.2]).map PyData.tuple = _
        simp [mapO, toPy_row S 57, toPy_qd S 58]
      · show (mapO (toPy S 59) [rowd s.1, qd s.2]).map PyData.tuple = _
        simp [mapO, toPy_row S 57, toPy_qd S 58]
      · have e1 : PyData.eqv (.tuple (s.1.map pq)) (.tuple (s.1.map pq)) = true := by
          show PyData.eqvAll _ _ = true
          rw [eqvAll_pq]; simp
        show (PyData.eqv (.tuple (s.1.map pq)) (.tuple (s.1.map pq)) && (PyData.eqv (pq s.2) (pq s.2) && true)) = true
        rw [e1, eqv_pq]; simp
    rw [ep, wp_pure]
    refine ⟨rfl, fun _ => ?_⟩
    simp only [wp_tupM, e1, wp_pure, List.length_map]
    refine ⟨len2l, by decide, ?_⟩
    have c1 : (decide ((fs.length : Int) ≤ 1000) && decide (-(2 ^ 62) ≤ (fs.length : Int)) && decide ([D.tup [.int 0, .int 1]].length ≤ 1000)) = true := by
      rw [decide_eq_true (by omega), decide_eq_true (by omega)]; rfl
    have c2 : repD [D.tup [.int 0, .int 1]] (fs.length : Int) = (List.replicate fs.length (0 : Rat)).map qd := by
      unfold repD
      rw [Int.toNat_natCast]
      generalize fs.length = q
      induction q with
      | zero => rfl
      | succ q ih => rw [List.replicate_succ, List.replicate_succ, List.flatten_cons, List.map_cons, ih]; rfl
    rw [b_mulT, c1, Pin.cond_true, wp_pure, c2]
    rw [show D.tup ((List.replicate fs.length (0 : Rat)).map qd) = rowd (List.replicate fs.length 0) from rfl, m4, wp_ok]
    simp only [is_bl, wp_pure]
    exact ⟨by decide, fr.trans fr2⟩
  · rintro y ys ρ S1 ⟨o1, o2, o3, o4, rfl, fr⟩ K' hn _ _ _
    simp only [wp_gName, x_sSeq, x_sAsg, x_eCall, x_lCons, x_lNil, x_eBi, x_eVar, x_eCon, wp_bind, wp_pure, List.set_cons_succ, List.set_cons_zero, var_0, var_s, bi_max]
    refine ⟨by simp, ?_⟩
    have hwp : 0 < (if wi > 1 then wi else 1) ∧ (if wi > 1 then wi else 1) < 2 ^ 64 ∧ (0 < wi → (if wi > 1 then wi else 1) = wi) := by split <;> omega
    refine (s_dip (n + 7) j _ S1 fr.jar hwp.1 hwp.2.1).mono ?_
    rintro v S2 ⟨⟨at_, rfl, a0, a1⟩, fr2⟩
    refine ⟨by simp, ?_⟩
    -- the point that is bent
    have hbent : WP (eIf (Pin.tCmp COp.gt (eVar 1) (eCon (D.int 0)))
          (eBin BOp.add
            (eBin BOp.add (eSl (eVar 3) oNone (oSome (eVar 5)))
              (eTup (lCons (eCall f__law_drawn_number (lCons (eVar 0) lNil)) lNil)))
            (eSl (eVar 3) (oSome (eBin BOp.add (eVar 5) (eCon (D.int 1)))) oNone))
          (eVar 3) (callF P (n + 8))
          [some (D.ref j), some (D.int wi), some (roomd fs), some (rowd pt), some y, some (D.int at_), o3, o4, none, none, none] S2)
        fun v S' => (∃ bt, v = rowd bt ∧ bt.length = w ∧ PB bt) ∧ Fr j S S' := by
      obtain ⟨a, rfl⟩ := Int.eq_ofNat_of_zero_le a0
      have sr : ∀ lo hi, slM (rowd pt) lo hi = pure (.tup (cutD (pt.map qd) lo hi)) := fun _ _ => rfl
      have ca : cutD (pt.map qd) none (some (a : Int)) = (pt.take a).map qd := by rw [cut_to, List.map_take]
      have cb : cutD (pt.map qd) (some ((a : Int) + 1)) none = (pt.drop (a + 1)).map qd := by
        rw [show ((a : Int) + 1) = ((a + 1 : Nat) : Int) from rfl, cut_from, List.map_drop]
      simp only [x_eIf, x_tCmp, x_eVar, x_eCon, wp_bind, var_0, var_s, wp_pure, c_gt, wp_ite]
      refine ⟨fun hp0 => ?_, fun hp0 => ?_⟩
      · have hp1 : 0 < wi := by simpa using hp0
        have haw : a < w := by have := hwp.2.2 hp1; omega
        simp only [x_eBin, x_eSl, x_oNone, x_oSome, x_eTup, x_lCons, x_lNil, x_eCall, x_eVar, x_eCon, wp_bind, var_0, var_s, wp_pure, int_int, sr, b_add]
        refine (s_drawn_number (n + 5) j S2 fr2.jar).mono ?_
        rintro v S3 ⟨⟨r, rfl, hr⟩, fr3⟩
        rw [ca, cb]
        have l1 : [qd r].length ≤ sizeLine := le_line (by simp)
        have l2 : ((pt.take a).map qd ++ [qd r]).length ≤ sizeLine := le_line (by simp; omega)
        have l3 : (((pt.take a).map qd ++ [qd r]) ++ (pt.drop (a + 1)).map qd).length ≤ sizeLine := le_line (by simp; omega)
        simp only [wp_tupM, b_addT, wp_bind, wp_pure]
        refine ⟨l1, l2, l3, ⟨pt.take a ++ r :: pt.drop (a + 1), ?_, by rw [putL_len (by omega), hpl], putL_PB hp hr⟩, (fr.trans fr2).trans fr3⟩
        show D.tup _ = D.tup _
        simp
      · exact ⟨⟨pt, rfl, hpl, hp⟩, fr.trans fr2⟩
    refine hbent.mono ?_
    rintro v S3 ⟨⟨bt, rfl, bl, bp⟩, fr3⟩
    refine ⟨by simp, ?_⟩
    have wr : walkD (roomd fs) = pure ⟨[], fs.map fend⟩ := rfl
    have key := fun S => lcL_filter (gd := []) (g := Pin.gTup 2 (Pin.gCons (Pin.gName 9) (Pin.gCons (Pin.gName 10) Pin.gNil))) (t := Pin.tNot (tVal (eCall f__law_keeps (lCons (eVar 10) (lCons (eVar 6) lNil))))) (e := eVar 9) (c := callF P (n + 8)) (ρ := [some (D.ref j), some (D.int wi), some (roomd fs), some (rowd pt), some y, some (D.int at_), some (rowd bt), o4, none, none, none]) (S := S)
      (fun p : Fen × Nat => D.tup [.int (p.2 : Nat), fend p.1]) (fun p => !keepF p.1 bt) (fun p => .int (p.2 : Nat)) gd_nil fs.zipIdx fun p hp => by
        have hm : p.1 ∈ fs := by
          obtain ⟨i, hi, e⟩ := List.mem_iff_getElem.mp hp
          rw [← e]; simp
        have hf := h _ hm
        simp [s_lkeeps (n + 4) p.1 bt (hf := hf.fb) (hl := by rw [hf.len]; omega) (hp := bp)]
    obtain ⟨B, hB⟩ : ∃ B : List Nat, (fs.zipIdx.filter fun p => !keepF p.1 bt).map (·.2) = B := ⟨_, rfl⟩
    have hB1 : ((fs.zipIdx.filter fun p => !keepF p.1 bt).map fun p => D.int (p.2 : Nat)) = B.map fun i => D.int (i : Nat) := by rw [← hB, List.map_map]; rfl
    have hB2 : (fs.all fun f => keepF f bt) = B.isEmpty := by rw [← hB, List.isEmpty_map, broken_idx]
    have hB3 : brokenD fs bt = (match B with | i :: _ => D.int (i : Nat) | [] => .non) := by
      have := broken_head bt fs 0
      unfold brokenD
      rw [show (fs.findIdx? fun f => !keepF f bt) = B.head? by
        rw [← hB, List.head?_map, ← this]; simp]
      cases B <;> rfl
    have hBl : (B.map fun i => D.int (i : Nat)).length ≤ sizeLine := by
      refine le_line ?_
      rw [List.length_map, ← hB, List.length_map]
      exact Nat.le_trans (List.length_filter_le _ _) (by rw [List.length_zipIdx]; omega)
    have d2 := fun S => s_does_hold n wi fs bt S rb (by omega) bp
    have d3 := fun S => s_first_broken n wi fs bt S rb (by omega) bp
    rw [hB2] at d2
    rw [hB3] at d3
    simp only [hB1] at key
    have fr4 := fr_end fr3
    simp only [x_sSeq, x_sAsg, x_eLc, x_cLc, x_iEnum, x_eVar, wp_bind, var_0, var_s, wp_pure, List.set_cons_succ, List.set_cons_zero, wr, enum_map, wipeE, key, wp_ok, wp_fits, wp_newO, wp_gName]
    refine ⟨hBl, by simp, ?_⟩
    generalize hS4 : S3 ++ [Ob.lst (B.map fun i => D.int (i : Nat))] = S4
    have g4 : S4[S3.length]? = some (.lst (B.map fun i => D.int (i : Nat))) := by rw [← hS4]; simp
    have f5 : Fr j S S4 := by rw [← hS4]; exact fr4 _
    have fin : ∀ X : Store, WP (K'.nx [some (D.ref j), some (D.int wi), some (roomd fs), some (rowd pt), some y, some (D.int at_), some (rowd bt), some (D.ref S3.length), none, none, none] (S4 ++ X)) fun v S' => v = D.bl true ∧ Fr j S S' :=
      fun X => hn _ _ ⟨_, _, _, _, rfl, fr_end f5 X⟩
    have e4 : eqM (.ref S3.length) (.ref S4.length) (S4 ++ [Ob.lst []]) = .ok B.isEmpty (S4 ++ [Ob.lst []]) := by
      have := eq_nil (S := S4 ++ [Ob.lst []]) (r := S3.length) (q := S4.length) (get_old g4) (by simp)
      rw [List.isEmpty_map] at this; exact this
    have e5 : eqM (.ref S3.length) (.ref (S4 ++ [Ob.lst []]).length) (S4 ++ [Ob.lst []] ++ [Ob.lst []]) = .ok B.isEmpty (S4 ++ [Ob.lst []] ++ [Ob.lst []]) := by
      have := eq_nil (S := S4 ++ [Ob.lst []] ++ [Ob.lst []]) (r := S3.length) (q := (S4 ++ [Ob.lst []]).length) (get_old (get_old g4)) (by simp)
      rw [List.isEmpty_map] at this; exact this
    have l0 : ([] : List D).length ≤ sizeLine := Nat.zero_le _
    simp only [x_sIf, x_tOr, x_tCmp, x_eCall, x_lCons, x_lNil, x_eVar, x_eCmp, x_eLst, x_eIf, x_eIx, x_eCon, wp_bind, var_0, var_s, wp_pure, d2, wp_ok, c_ne, c_eq, wp_lstM, e4, eq_bl, d3, wp_ite, decide_true, Bool.not_true, x_sRet, x_sPass, e5]
    refine ⟨l0, (fun e => by cases e), fun _ => ⟨l0, ?_⟩⟩
    cases B with
    | nil =>
      refine ⟨(fun e => by cases e), fun _ => ?_⟩
      rw [show eqM D.non D.non = pure true from ?_, wp_pure]
      · refine ⟨(fun e => by cases e), fun _ => ?_⟩
        rw [List.append_assoc]; exact fin _
      · exact eqM_of (x := .none) (y := .none) (fun _ => rfl) (fun _ => rfl) (fun _ => rfl) rfl
    | cons b B =>
      refine ⟨fun _ => ?_, (fun e => absurd rfl e)⟩
      have g6 := get_old (S' := [Ob.lst []]) (get_old (S' := [Ob.lst []]) g4)
      simp only [ix_ref, wp_bind, wp_getL g6, List.map_cons, at_0, wp_pure, eq_int, decide_true, Bool.not_true]
      refine ⟨(fun e => by cases e), fun _ => ?_⟩
      rw [List.append_assoc]; exact fin _
end K06

set_option Elab.async false
set_option linter.all false
set_option maxRecDepth 100000
set_option maxHeartbeats 400000
namespace K06
open PySem PySem.Spec Pin
/-! ### bent values -/
/-- plain data, so deep at most -/
inductive Pl : Nat → D → Prop
  | non {n : Nat} : Pl n .non
  | bl {n : Nat} {b : Bool} : Pl n (.bl b)
  | int {n : Nat} {i : Int} : Pl n (.int i)
  | tup {n : Nat} {xs : List D} : xs.length ≤ 100 → (∀ x ∈ xs, Pl n x) → Pl (n + 1) (.tup xs)
theorem Pl.up {n : Nat} {d : D} (h : Pl n d) : Pl (n + 1) d := by
  induction h with
  | non => exact .non
  | bl => exact .bl
  | int => exact .int
  | tup hl _ ih => exact .tup hl ih
theorem Pl.vok {n : Nat} {d : D} (h : Pl n d) (S : Store) : VOk S d := by
  induction h with
  | non => trivial
  | bl => trivial
  | int => trivial
  | @tup n xs hl _ ih =>
    show VOks S xs
    clear hl
    induction xs with
    | nil => trivial
    | cons x xs ih2 => exact ⟨ih x List.mem_cons_self, ih2 (fun y hy => by rename_i q; exact q y (List.mem_cons_of_mem _ hy)) fun y hy => ih y (List.mem_cons_of_mem _ hy)⟩
theorem Pl.bare {n : Nat} {d : D} (h : Pl n d) : d.noRefs = true := by
  induction h with
  | non => rfl
  | bl => rfl
  | int => rfl
  | @tup n xs hl hx ih =>
    show D.noRefsL xs = true
    clear hl hx
    induction xs with
    | nil => rfl
    | cons x xs ih2 => rw [nr_cons, ih x List.mem_cons_self, ih2 fun y hy => ih y (List.mem_cons_of_mem _ hy)]; rfl
theorem Pl.py {n : Nat} {d : D} (h : Pl n d) : ∀ (m : Nat), n ≤ m → ∃ y, ∀ S, toPy S m d = some y := by
  induction h with
  | non => intro m _; exact ⟨.none, fun S => by cases m <;> rfl⟩
  | @bl n b => intro m _; exact ⟨.bool b, fun S => by cases m <;> rfl⟩
  | @int n i => intro m _; exact ⟨.int i, fun S => toPy_int S m i⟩
  | @tup n xs hl hx ih =>
    intro m hm
    obtain ⟨m, rfl⟩ : ∃ k, m = k + 1 := ⟨m - 1, by omega⟩
    have : ∃ ys, ∀ S, mapO (toPy S m) xs = some ys := by
      clear hl hx
      induction xs with
      | nil => exact ⟨[], fun S => rfl⟩
      | cons x xs ih2 =>
        obtain ⟨y, hy⟩ := ih x List.mem_cons_self m (by omega)
        obtain ⟨ys, hys⟩ := ih2 fun z hz => ih z (List.mem_cons_of_mem _ hz)
        exact ⟨y :: ys, fun S => by unfold mapO; rw [hy S, hys S]⟩
    obtain ⟨ys, hys⟩ := this
    exact ⟨.tuple ys, fun S => by show (mapO (toPy S m) xs).map PyData.tuple = _; rw [hys S]; rfl⟩
theorem mapO_len {α β : Type} {f : α → Option β} : ∀ {xs : List α} {ys : List β}, mapO f xs = some ys → ys.length = xs.length
  | [], ys, h => by cases h; rfl
  | x :: xs, ys, h => by
    unfold mapO at h
    split at h
    · rename_i y zs h1 h2
      cases h
      rw [List.length_cons, List.length_cons, mapO_len h2]
    · cases h
theorem eq_tup0 {n : Nat} {xs : List D} (h : Pl n (.tup xs)) (hn : n ≤ 60) : eqM (.tup xs) (.tup []) = pure xs.isEmpty := by
  obtain ⟨y, hy⟩ := h.py 60 hn
  have e : ∃ ys, y = .tuple ys ∧ ys.length = xs.length := by
    have := hy []
    rw [show toPy [] 60 (.tup xs) = (mapO (toPy [] 59) xs).map PyData.tuple from rfl] at this
    cases q : mapO (toPy [] 59) xs with
    | none => rw [q] at this; cases this
    | some ys => rw [q] at this; cases this; exact ⟨ys, rfl, mapO_len q⟩
  obtain ⟨ys, rfl, hl⟩ := e
  refine eqM_of (fun _ => rfl) hy (y := .tuple []) (fun S => rfl) ?_
  show PyData.eqvAll ys [] = _
  cases xs with
  | nil => rw [List.length_eq_zero_iff.mp hl]; rfl
  | cons x xs => cases ys with
    | nil => cases hl
    | cons y ys => rfl
/-! what may come out -/
def odd0 (a b : Nat) : List D := [.non, .bl true, .bl false, .int 0, .int 1, .int (-1), .int 2, .tup [], .tup [.int 0, .int 1], .tup [.int 2, .int 4], .tup [.int 1, .int 0], .tup [.int 1, .int (-2)], .tup [.bl true, .int 1], .str "0", .ref a, .ref b, .int (10 ^ 39), .str "bar", .str "point", .str "mix", .str "sum"]
def Odd (v r : D) : Prop := (∃ a b, r ∈ odd0 a b) ∨ (∃ q, r = .ref q) ∨ ∃ xs, v = .tup xs ∧ (r = .tup (xs ++ xs.take 1) ∨ r = .tup (xs.drop 1))
inductive Bt : D → D → Prop
  | here {v r : D} : Odd v r → Bt v r
  | at {xs : List D} {i : Nat} {x r : D} : xs[i]? = some x → Bt x r → Bt (.tup xs) (.tup (xs.set i r))
mutual
theorem vok_back {S S' : Store} : ∀ {d : D}, d.noRefs = true → VOk S' d → VOk S d
  | .tup xs, h, k => voks_back (xs := xs) h k
  | .ref _, h, _ => by cases h
  | .fn _, _, k => k.elim
  | .clo _ _, _, k => k.elim
  | .fz _, _, k => k.elim
  | .non, _, _ => trivial
  | .bl _, _, _ => trivial
  | .int _, _, _ => trivial
  | .str _, _, _ => trivial
theorem voks_back {S S' : Store} : ∀ {xs : List D}, D.noRefsL xs = true → VOks S' xs → VOks S xs
  | [], _, _ => trivial
  | x :: xs, h, ⟨k1, k2⟩ => by
    rw [nr_cons, Bool.and_eq_true] at h
    exact ⟨vok_back h.1 k1, voks_back h.2 k2⟩
end
theorem voks_set {S : Store} {r : D} (hr : VOk S r) : ∀ {xs : List D} (i : Nat), VOks S xs → VOks S (xs.set i r)
  | [], _, _ => trivial
  | _ :: _, 0, ⟨_, h⟩ => ⟨hr, h⟩
  | _ :: _, i + 1, ⟨h1, h⟩ => ⟨h1, voks_set hr i h⟩
theorem voks_of {S : Store} : ∀ {xs : List D}, (∀ x ∈ xs, VOk S x) → VOks S xs
  | [], _ => trivial
  | x :: xs, h => ⟨h x List.mem_cons_self, voks_of fun y hy => h y (List.mem_cons_of_mem _ hy)⟩
theorem vok_odd {S : Store} {a b : Nat} (ha : There S a) (hb : There S b) : ∀ r ∈ odd0 a b, VOk S r := by
  intro r hr
  unfold odd0 at hr
  simp only [List.mem_cons, List.not_mem_nil, or_false] at hr
  rcases hr with rfl | rfl | rfl | rfl | rfl | rfl | rfl | rfl | rfl | rfl | rfl | rfl | rfl | rfl | rfl | rfl | rfl | rfl | rfl | rfl | rfl <;> first | trivial | exact ha | exact hb | exact ⟨trivial, trivial, trivial⟩
theorem Fr.there {j i : Nat} {S S' : Store} (h : Fr j S S') (hi : i ≠ j) (ht : There S i) : There S' i := by
  have hlt : i < S.length := by
    rcases ht with ⟨xs, h⟩ | ⟨xs, h⟩ <;> exact (List.getElem?_eq_some_iff.mp h).1
  unfold There
  rw [h.oth i hlt hi]; exact ht
theorem py_wrap {n : Nat} {v : D} (h : Pl n v) (S : Store) : isiM v .tuple S = .ok (isTup v) S := isi_tup (h.vok S)
mutual
theorem vok_app {S : Store} (X : Store) : ∀ {d : D}, VOk S d → VOk (S ++ X) d
  | .tup xs, k => voks_app X (xs := xs) k
  | .ref _, k => by
    rcases k with ⟨xs, h⟩ | ⟨xs, h⟩
    · exact .inl ⟨xs, get_old h⟩
    · exact .inr ⟨xs, get_old h⟩
  | .fn _, k => k.elim
  | .clo _ _, k => k.elim
  | .fz _, k => k.elim
  | .non, _ => trivial
  | .bl _, _ => trivial
  | .int _, _ => trivial
  | .str _, _ => trivial
theorem voks_app {S : Store} (X : Store) : ∀ {xs : List D}, VOks S xs → VOks (S ++ X) xs
  | [], _ => trivial
  | x :: xs, ⟨k1, k2⟩ => ⟨vok_app X k1, voks_app X k2⟩
end
theorem There.fr {j i : Nat} {S S' : Store} (h : There S i) (f : Fr j S S') : There S' i := by
  by_cases e : i = j
  · subst e
    obtain ⟨a, b, q, _⟩ := f.jar
    exact .inl ⟨_, q⟩
  · exact f.there e h
mutual
theorem vok_fr {j : Nat} {S S' : Store} (f : Fr j S S') : ∀ {d : D}, VOk S d → VOk S' d
  | .tup xs, k => voks_fr f (xs := xs) k
  | .ref _, k => There.fr k f
  | .fn _, k => k.elim
  | .clo _ _, k => k.elim
  | .fz _, k => k.elim
  | .non, _ => trivial
  | .bl _, _ => trivial
  | .int _, _ => trivial
  | .str _, _ => trivial
theorem voks_fr {j : Nat} {S S' : Store} (f : Fr j S S') : ∀ {xs : List D}, VOks S xs → VOks S' xs
  | [], _ => trivial
  | x :: xs, ⟨k1, k2⟩ => ⟨vok_fr f k1, voks_fr f k2⟩
end
/-- the last draw -/
theorem s_odd2 (n j : Nat) (v : D) (O : List D) (S S1 : Store) (hv : ∃ m, Pl m v) (hJ : JarOK S j) (fr : Fr j S S1) (h1 : ∀ r ∈ O, VOk S1 r) (h2 : ∀ r ∈ O, Bt v r) (h3 : O ≠ []) (h4 : O.length ≤ 30) :
    WP ((sIf (tVal (eIsi (eVar 1) .tuple)) (sAsg (eBin .add (eVar 3) (eLst (lCons (eBi .list (lCons (eVar 1) lNil)) (lCons (eBin .add (eVar 1) (eSl (eVar 1) oNone (oSome (eCon (.int 1))))) (lCons (eSl (eVar 1) (oSome (eCon (.int 1))) oNone) lNil))))) (Pin.gName 3)) sPass) (callF P (n + 2))
      [some (.ref j), some v, none, some (.ref S1.length)] { nx := fun ρ' => sRet (eCall f__law_one_of (lCons (eVar 0) (lCons (eVar 3) lNil))) (callF P (n + 2)) ρ' K0, rt := K0.rt, bk := K0.bk, ct := K0.ct } (S1 ++ [Ob.lst O]))
      fun r S' => (Bt v r ∧ VOk S' r) ∧ Fr j S S' := by
  obtain ⟨m, hv⟩ := hv
  have hj := fr.jar.lt
  have go : ∀ (Q : List D) (S2 : Store), Fr j S S2 → (∀ r ∈ Q, VOk S2 r) → (∀ r ∈ Q, Bt v r) → Q ≠ [] → Q.length ≤ 60 → WP (callF P (n + 2) f__law_one_of [.ref j, .ref S2.length] (S2 ++ [Ob.lst Q])) fun r S' => (Bt v r ∧ VOk S' r) ∧ Fr j S S' := by
    intro Q S2 f q1 q2 q3 q4
    refine (one_new n j Q S2 f.jar q3 (by omega)).mono ?_
    rintro r S3 ⟨hr, f3⟩
    exact ⟨⟨q2 r hr, vok_fr f3 (q1 r hr)⟩, f.trans f3⟩
  simp only [x_sIf, x_tVal, x_eIsi, x_eVar, wp_bind, var_0, var_s, wp_pure, py_wrap hv, wp_ok, t_bl, wp_ite, x_sPass, x_sRet, x_eCall, x_lCons, x_lNil, x_sAsg]
  refine ⟨fun ht => ?_, fun ht => ?_⟩
  · cases hv with
    | non => cases ht
    | bl => cases ht
    | int => cases ht
    | @tup m xs hl hx =>
      have c1 : cutD xs none (some 1) = xs.take 1 := cut_to 1
      have c2 : cutD xs (some 1) none = xs.drop 1 := cut_from 1
      have g1 : (S1 ++ [Ob.lst O] ++ [Ob.lst xs] ++ [Ob.lst [D.ref (S1 ++ [Ob.lst O]).length, D.tup (xs ++ xs.take 1), D.tup (xs.drop 1)]])[S1.length]? = some (.lst O) := get_old (get_old get_end)
      simp only [x_eBin, x_eLst, x_lCons, x_lNil, x_eVar, x_eBi, x_eSl, x_oNone, x_oSome, x_eCon, wp_bind, wp_pure, var_0, var_s, bi_lstT, wp_lstM, int_int, sl_tup, b_addT, wp_tupM, b_addL, c1, c2]
      refine ⟨le_line (by omega), le_line (by simp; omega), le_line (by simp), ?_⟩
      rw [wp_getL g1, wp_getL get_end]
      refine ⟨le_line (by simp; omega), ?_⟩
      rw [wp_gName]
      refine ⟨by simp, ?_⟩
      have f2 := fr_end (fr_end (fr_end fr [Ob.lst O]) [Ob.lst xs]) [Ob.lst [D.ref (S1 ++ [Ob.lst O]).length, D.tup (xs ++ xs.take 1), D.tup (xs.drop 1)]]
      simp only [List.set_cons_succ, List.set_cons_zero, var_0, var_s, wp_pure, K0_rt]
      refine go _ _ f2 ?_ ?_ ?_ ?_
      · intro r hr
        rcases List.mem_append.mp hr with q | q
        · exact vok_app _ (vok_app _ (vok_app _ (h1 r q)))
        · simp only [List.mem_cons, List.not_mem_nil, or_false] at q
          rcases q with rfl | rfl | rfl
          · exact .inl ⟨xs, get_old get_end⟩
          · refine voks_of fun x hx' => ?_
            rcases List.mem_append.mp hx' with q | q
            · exact (hx x q).vok _
            · exact (hx x (List.mem_of_mem_take q)).vok _
          · exact voks_of fun x hx' => (hx x (List.mem_of_mem_drop hx')).vok _
      · intro r hr
        rcases List.mem_append.mp hr with q | q
        · exact h2 r q
        · simp only [List.mem_cons, List.not_mem_nil, or_false] at q
          rcases q with rfl | rfl | rfl
          · exact .here (.inr (.inl ⟨_, rfl⟩))
          · exact .here (.inr (.inr ⟨xs, rfl, .inl rfl⟩))
          · exact .here (.inr (.inr ⟨xs, rfl, .inr rfl⟩))
      · simp
      · simp; omega
  · simp only [K0_rt, wp_pure]
    exact go O S1 fr h1 h2 h3 (by omega)
/-- where nothing further in is bent -/
theorem s_odd (n j : Nat) (v : D) (S : Store) (hv : ∃ m, Pl m v) (hJ : JarOK S j) :
    WP (sSeq (sAsg (eLst (lCons (eCon (.non)) (lCons (eCon (.bl true)) (lCons (eCon (.bl false)) (lCons (eCon (.int 0)) (lCons (eCon (.int 1)) (lCons (eNeg (eCon (.int 1))) (lCons (eCon (.int 2)) (lCons (eTup lNil) (lCons (eTup (lCons (eCon (.int 0)) (lCons (eCon (.int 1)) lNil))) (lCons (eTup (lCons (eCon (.int 2)) (lCons (eCon (.int 4)) lNil))) (lCons (eTup (lCons (eCon (.int 1)) (lCons (eCon (.int 0)) lNil))) (lCons (eTup (lCons (eCon (.int 1)) (lCons (eNeg (eCon (.int 2))) lNil))) (lCons (eTup (lCons (eCon (.bl true)) (lCons (eCon (.int 1)) lNil))) (lCons (eCon (.str "0")) (lCons (eLst lNil) (lCons eDct0 (lCons (eBin .pow (eCon (.int 10)) (eCon (.int 39))) (lCons (eCon (.str "bar")) (lCons (eCon (.str "point")) (lCons (eCon (.str "mix")) (lCons (eCon (.str "sum")) lNil)))))))))))))))))))))) (Pin.gName 3)) (sSeq (sIf (tVal (eIsi (eVar 1) .tuple)) (sAsg (eBin .add (eVar 3) (eLst (lCons (eBi .list (lCons (eVar 1) lNil)) (lCons (eBin .add (eVar 1) (eSl (eVar 1) oNone (oSome (eCon (.int 1))))) (lCons (eSl (eVar 1) (oSome (eCon (.int 1))) oNone) lNil))))) (Pin.gName 3)) sPass) (sRet (eCall f__law_one_of (lCons (eVar 0) (lCons (eVar 3) lNil))))) (callF P (n + 2)) [some (.ref j), some v, none, none] K0 S)
      fun r S' => (Bt v r ∧ VOk S' r) ∧ Fr j S S' := by
  obtain ⟨m, hv⟩ := hv
  have w1 : powOk 10 39 = true := by decide
  have l0 : 0 ≤ sizeLine := by decide
  have l21 : 21 ≤ sizeLine := by decide
  have hj := hJ.lt
  have q1 : There (S ++ [Ob.lst []] ++ [Ob.dct []]) S.length := .inl ⟨[], by simp⟩
  have q2 : There (S ++ [Ob.lst []] ++ [Ob.dct []]) (S ++ [Ob.lst []]).length := .inr ⟨[], by simp⟩
  simp only [x_sSeq, x_sAsg, x_eLst, x_lCons, x_lNil, x_eCon, x_eNeg, x_eTup, x_eDct0, x_eBin, wp_bind, wp_pure, b_neg, wp_tupM, wp_lstM, wp_newO, b_pow, w1, Pin.cond_true]
  have q3 : Fr j S (S ++ [Ob.lst []] ++ [Ob.dct []]) := fr_end (Fr.app hJ _) _
  refine ⟨l0, len2l, len2l, len2l, len2l, len2l, l0, l21, ?_⟩
  rw [wp_gName]
  refine ⟨by simp, ?_⟩
  exact s_odd2 n j v (odd0 S.length (S ++ [Ob.lst []]).length) S _ ⟨m, hv⟩ hJ q3 (vok_odd q1 q2) (fun r hr => .here (.inl ⟨_, _, hr⟩)) (by simp [odd0]) (by simp [odd0])
theorem s_bent (n j : Nat) : ∀ (m : Nat) (v : D) (S : Store), m ≤ 50 → Pl m v → JarOK S j → WP (callF P (n + m + 3) f__law_bent [.ref j, v] S) fun r S' => (Bt v r ∧ VOk S' r) ∧ Fr j S S' := by
  intro m
  induction m with
  | zero =>
    intro v S hm hv hJ
    refine call_wp P__law_bent rfl ?_
    have ht : isTup v = false := by cases hv <;> rfl
    have go := s_odd n j v S ⟨_, hv⟩ hJ
    rw [show startE 4 [D.ref j, v] = [some (D.ref j), some v, none, none] from rfl]
    simp only [sm__law_bent]
    rw [x_sSeq, x_sIf, x_tAnd, x_tVal, x_eIsi, x_eVar]
    simp only [List.map_cons, List.map_nil, List.length_cons, List.length_nil, List.cons_append, List.nil_append, var_0, var_s, wp_bind, wp_pure, py_wrap hv, wp_ok, t_bl, ht, wp_ite, x_sPass]
    refine ⟨(fun e => by cases e), fun _ => ⟨(fun e => by cases e), fun _ => ?_⟩⟩
    exact go.mono fun r S' ⟨⟨b, vk⟩, f⟩ => ⟨⟨⟨b, vk⟩, f⟩, fun hb ht => ⟨⟨b, vok_back hb vk⟩, Fr.refl hJ⟩⟩
  | succ m ih =>
    intro v S hm hv hJ
    refine call_wp P__law_bent rfl ?_
    have up : ∀ r S', (Bt v r ∧ VOk S' r) ∧ Fr j S S' → ((Bt v r ∧ VOk S' r) ∧ Fr j S S') ∧ (r.noRefs = true → S'.take S.length = S → (Bt v r ∧ VOk S r) ∧ Fr j S S) :=
      fun r S' ⟨⟨b, vk⟩, f⟩ => ⟨⟨⟨b, vk⟩, f⟩, fun hb ht => ⟨⟨b, vok_back hb vk⟩, Fr.refl hJ⟩⟩
    have go := fun S1 (f : Fr j S S1) => (s_odd (n + m + 1) j v S1 ⟨_, hv⟩ f.jar).mono fun r S' ⟨q, f2⟩ => up r S' ⟨q, f.trans f2⟩
    rw [show startE 4 [D.ref j, v] = [some (D.ref j), some v, none, none] from rfl]
    simp only [sm__law_bent]
    rw [x_sSeq, x_sIf, x_tAnd, x_tVal, x_eIsi, x_eVar]
    simp only [List.map_cons, List.map_nil, List.length_cons, List.length_nil, List.cons_append, List.nil_append, var_0, var_s, wp_bind, wp_pure, py_wrap hv, wp_ok, t_bl, wp_ite, x_sPass]
    refine ⟨fun ht => ?_, fun ht => ⟨(fun e => by cases e), fun _ => go S (Fr.refl hJ)⟩⟩
    cases hv with
    | non => cases ht
    | bl => cases ht
    | int => cases ht
    | @tup m xs hl hx =>
      have e0 := eq_tup0 (Pl.tup hl hx) (by omega)
      simp only [x_tAnd, x_tCmp, x_eVar, x_eTup, x_lNil, wp_bind, var_0, var_s, wp_pure, wp_tupM, c_ne, e0, wp_ite, x_eCall, x_lCons, x_eCon, c_gt]
      refine ⟨Nat.zero_le _, fun h0 => ?_, fun _ => ⟨(fun e => by cases e), fun _ => go S (Fr.refl hJ)⟩⟩
      refine (s_dip (n + m + 2) j 5 S hJ (by decide) (by decide)).mono ?_
      rintro v S1 ⟨⟨a, rfl, a0, a1⟩, fr1⟩
      simp only [c_gt, wp_pure]
      refine ⟨fun _ => ?_, fun _ => go S1 fr1⟩
      have hp : 0 < xs.length := by
        cases xs with
        | nil => simp at h0
        | cons x xs => simp
      simp only [x_sSeq, x_sAsg, x_eCall, x_lCons, x_lNil, x_eVar, x_eBi, wp_bind, wp_pure, var_0, var_s, bi_lenT]
      refine (s_dip (n + m + 2) j xs.length S1 fr1.jar (by omega) (by omega)).mono ?_
      rintro v S2 ⟨⟨b, rfl, b0, b1⟩, fr2⟩
      obtain ⟨i, rfl⟩ := Int.eq_ofNat_of_zero_le b0
      have hi : i < xs.length := by omega
      have ca : cutD xs none (some (i : Int)) = xs.take i := cut_to i
      have cb : cutD xs (some ((i : Int) + 1)) none = xs.drop (i + 1) := by
        rw [show ((i : Int) + 1) = ((i + 1 : Nat) : Int) from rfl, cut_from]
      have ei : L2.atI xs (i : Int) = some xs[i] := by
        unfold L2.atI L2.ixN
        rw [if_pos (by omega), if_pos (by omega)]
        simp [hi]
      rw [wp_gName]
      refine ⟨by simp, ?_⟩
      simp only [List.set_cons_succ, List.set_cons_zero, x_sRet, x_eBin, x_eSl, x_eVar, x_oNone, x_oSome, x_eTup, x_lCons, x_lNil, x_eCall, x_eIx, x_eCon, wp_bind, wp_pure, var_0, var_s, int_int, sl_tup, ix_tup, ei, ca, b_add, cb]
      refine (ih xs[i] S2 (by omega) (hx _ (List.getElem_mem _)) fr2.jar).mono ?_
      rintro r S3 ⟨⟨hb, hk⟩, fr3⟩
      simp only [wp_tupM, b_addT, K0_rt, wp_pure]
      refine ⟨le_line (by simp), le_line (by simp; omega), le_line (by simp; omega), ?_⟩
      have es : xs.take i ++ [r] ++ xs.drop (i + 1) = xs.set i r := by
        rw [List.set_eq_take_append_cons_drop, if_pos hi]; simp
      rw [es]
      exact up _ _ ⟨⟨.at (List.getElem?_eq_getElem hi) hb, voks_set hk i ((Pl.tup hl hx).vok S3)⟩, (fr1.trans fr2).trans fr3⟩
end K06

set_option Elab.async false
set_option linter.all false
set_option maxRecDepth 100000
set_option maxHeartbeats 400000
namespace K06
open PySem PySem.Spec Pin
/-! ### what bent numbers, rows, fences, rooms may be -/
def NB (e : Nat) (d : D) : Prop := ∀ a b : Int, d = .tup [.int a, .int b] → a.natAbs < 2 ^ e ∧ (1 ≤ b → b.natAbs ∣ LL ^ 39) ∧ b.natAbs < 2 ^ 4400
theorem NB.not {e : Nat} {d : D} (h : ∀ a b : Int, d ≠ .tup [.int a, .int b]) : NB e d := fun a b q => absurd q (h a b)
theorem pl_qd (r : Rat) : Pl 1 (qd r) := .tup (by simp) fun x hx => by
  simp only [List.mem_cons, List.not_mem_nil, or_false] at hx
  rcases hx with rfl | rfl <;> exact .int
theorem pl_row {xs : List Rat} (h : xs.length ≤ 100) : Pl 2 (rowd xs) := .tup (by rw [List.length_map]; exact h) fun x hx => by
  obtain ⟨r, _, rfl⟩ := List.mem_map.mp hx
  exact pl_qd r
theorem pl_fen {f : Fen} (h : f.row.length ≤ 100) : Pl 3 (fend f) := .tup (by simp) fun x hx => by
  simp only [List.mem_cons, List.not_mem_nil, or_false] at hx
  rcases hx with rfl | rfl | rfl
  · exact pl_row h
  · exact (pl_qd _).up
  · exact .bl
theorem pl_room {fs : List Fen} (hl : fs.length ≤ 100) (h : ∀ f ∈ fs, f.row.length ≤ 100) : Pl 4 (roomd fs) := .tup (by rw [List.length_map]; exact hl) fun x hx => by
  obtain ⟨f, hf, rfl⟩ := List.mem_map.mp hx
  exact pl_fen (h f hf)
/-- an odd thing in a number's part -/
def oddInts : List Int := [0, 1, -1, 2, 10 ^ 39]
theorem odd_int {v : D} {k : Int} (hv : ∀ xs, v ≠ .tup xs) (h : Bt v (.int k)) : k ∈ oddInts := by
  cases h with
  | here o =>
    rcases o with ⟨a, b, h⟩ | ⟨q, h⟩ | ⟨xs, h, _⟩
    · unfold odd0 at h
      simp only [List.mem_cons, List.not_mem_nil, or_false, D.int.injEq, reduceCtorEq, false_or] at h
      simp only [oddInts, List.mem_cons, List.not_mem_nil, or_false]
      omega
    · cases h
    · exact absurd h (hv xs)
theorem int_tup {k : Int} : ∀ xs, (D.int k) ≠ .tup xs := fun _ h => by cases h
theorem bt_num {e : Nat} {x : Rat} {r : D} (he : 140 ≤ e) (hz : Z 39 e x) (h : Bt (qd x) r) : NB e r := by
  have p2 : 2 ^ 140 ≤ 2 ^ e := Nat.pow_le_pow_right (by decide) he
  have hd : x.den < 2 ^ 4400 := by
    have h1 := Nat.le_of_dvd (Nat.pow_pos LLpos) hz.den
    exact Nat.lt_of_le_of_lt h1 (by decide)
  have so : ∀ k ∈ oddInts, k.natAbs < 2 ^ 140 ∧ (1 ≤ k → k.natAbs ∣ LL ^ 39) ∧ k.natAbs < 2 ^ 4400 := by decide
  intro a b hab
  have hn := hz.num
  generalize hv : qd x = v at h
  cases h with
  | here o =>
    rcases o with ⟨c, d, h⟩ | ⟨q, h⟩ | ⟨xs, h, q⟩
    · subst hab
      unfold odd0 at h
      simp only [List.mem_cons, List.not_mem_nil, or_false, D.tup.injEq, List.cons.injEq, D.int.injEq, reduceCtorEq, false_or, and_false, false_and, and_true] at h
      have : a ∈ oddInts ∧ (b ∈ oddInts ∨ b = 4 ∨ b = -2) := by
        simp only [oddInts, List.mem_cons, List.not_mem_nil, or_false]; omega
      obtain ⟨h1, h2⟩ := this
      refine ⟨Nat.lt_of_lt_of_le (so a h1).1 p2, ?_⟩
      rcases h2 with h2 | rfl | rfl
      · exact (so b h2).2
      · decide
      · decide
    · rw [hab] at h; cases h
    · have hx : xs = [.int x.num, .int x.den] := by
        have : D.tup [.int x.num, .int x.den] = .tup xs := by rw [← h, ← hv]; rfl
        injection this with this
        exact this.symm
      subst hx
      rw [hab] at q
      rcases q with q | q <;> cases q
  | @«at» xs i y r' hi hb =>
    have hx : xs = [.int x.num, .int x.den] := by
      have : D.tup [.int x.num, .int x.den] = .tup xs := hv
      injection this with this
      exact this.symm
    subst hx
    have d39 : x.den ∣ LL ^ 39 := hz.den
    match i, hi with
    | 0, hi =>
      cases hi
      rw [List.set_cons_zero] at hab
      injection hab with hab
      injection hab with h1 h2
      injection h2 with h2 _
      injection h2 with h2
      subst h1 h2
      refine ⟨Nat.lt_of_lt_of_le (so a (odd_int int_tup hb)).1 p2, fun _ => d39, ?_⟩
      rw [Int.natAbs_natCast]; exact hd
    | 1, hi =>
      cases hi
      rw [List.set_cons_succ, List.set_cons_zero] at hab
      injection hab with hab
      injection hab with h1 h2
      injection h2 with h2 _
      injection h1 with h1
      subst h1 h2
      exact ⟨hn, (so b (odd_int int_tup hb)).2⟩
    | i + 2, hi => simp at hi
theorem NB.num {e : Nat} {d : D} (h : NB e d) (he : e ≤ 2000000) : numB d := by
  unfold numB
  split
  · rename_i a b
    obtain ⟨h1, h2, h3⟩ := h a b rfl
    exact ⟨Nat.lt_of_lt_of_le h1 (Nat.pow_le_pow_right (by decide) he), Nat.lt_of_lt_of_le h3 (Nat.pow_le_pow_right (by decide) (by decide))⟩
  · trivial
theorem NB.z {e : Nat} {y : Rat} (h : NB e (qd y)) : Z 39 e y := by
  obtain ⟨h1, h2, _⟩ := h _ _ rfl
  exact ⟨by simpa using h2 (by have := y.den_pos; omega), h1⟩
theorem nb_qd {e : Nat} {y : Rat} (h : Z 39 e y) : NB e (qd y) := by
  intro a b q
  have q' : D.tup [.int y.num, .int y.den] = .tup [.int a, .int b] := q
  injection q' with q'
  injection q' with q1 q2
  injection q2 with q2 _
  injection q1 with q1
  injection q2 with q2
  subst q1 q2
  refine ⟨h.num, fun _ => by simpa using h.den, ?_⟩
  rw [Int.natAbs_natCast]
  exact Nat.lt_of_le_of_lt (Nat.le_of_dvd (Nat.pow_pos LLpos) h.den) (by decide)
theorem mem_set_or {α : Type} {xs : List α} {i : Nat} {r x : α} (h : x ∈ xs.set i r) : x ∈ xs ∨ x = r := List.mem_or_eq_of_mem_set h
theorem bt_row {e : Nat} {xs : List Rat} {r : D} (he : 140 ≤ e) (hz : ∀ x ∈ xs, Z 39 e x) (h : Bt (rowd xs) r) : ∀ ys, r = .tup ys → ∀ y ∈ ys, NB e y := by
  intro ys hr
  generalize hv : rowd xs = v at h
  cases h with
  | here o =>
    rcases o with ⟨c, d, h⟩ | ⟨q, h⟩ | ⟨zs, h, q⟩
    · subst hr
      unfold odd0 at h
      simp only [List.mem_cons, List.not_mem_nil, or_false, D.tup.injEq, reduceCtorEq, false_or] at h
      rcases h with rfl | rfl | rfl | rfl | rfl | rfl <;> intro y hy <;> simp only [List.mem_cons, List.not_mem_nil, or_false] at hy
      all_goals rcases hy with rfl | rfl <;> exact NB.not fun _ _ h => by cases h
    · rw [hr] at h; cases h
    · have hx : zs = xs.map qd := by
        have : D.tup (xs.map qd) = .tup zs := by rw [← h, ← hv]; rfl
        injection this with this
        exact this.symm
      subst hx
      have k : ∀ y ∈ xs.map qd, NB e y := fun y hy => by
        obtain ⟨u, hu, rfl⟩ := List.mem_map.mp hy
        exact nb_qd (hz u hu)
      rw [hr] at q
      rcases q with q | q <;> injection q with q <;> subst q <;> intro y hy
      · rcases List.mem_append.mp hy with p | p
        · exact k y p
        · exact k y (List.mem_of_mem_take p)
      · exact k y (List.mem_of_mem_drop hy)
  | @«at» zs i y r' hi hb =>
    have hx : zs = xs.map qd := by
      have : D.tup (xs.map qd) = .tup zs := hv
      injection this with this
      exact this.symm
    subst hx
    injection hr with hr
    subst hr
    intro z hz'
    rcases mem_set_or hz' with p | rfl
    · obtain ⟨u, hu, rfl⟩ := List.mem_map.mp p
      exact nb_qd (hz u hu)
    · obtain ⟨u, hu, rfl⟩ := List.mem_map.mp (List.mem_of_getElem? hi)
      exact bt_num he (hz u hu) hb
theorem rowB_of {e : Nat} {r : D} (he : e ≤ 2000000) (h : ∀ ys, r = .tup ys → ∀ y ∈ ys, NB e y) : rowB r := by
  unfold rowB
  split
  · exact fun x hx => (h _ rfl x hx).num he
  · trivial
theorem fenB_fen {f : Fen} (h : FB f) : fenB (fend f) :=
  ⟨rowB_of (e := 2000) (by decide) fun ys hr y hy => by
    injection hr with hr
    subst hr
    obtain ⟨u, hu, rfl⟩ := List.mem_map.mp hy
    exact nb_qd ((h.row u hu).mono (by decide) (by decide)), (nb_qd (h.b.mono (m := 39) (by decide) (Nat.le_refl _))).num (by decide)⟩
theorem fenB_not {d : D} (h : ∀ r b s, d ≠ .tup [r, b, s]) : fenB d := by
  unfold fenB
  split
  · exact absurd rfl (h _ _ _)
  · trivial
theorem bt_fen {f : Fen} {r : D} (hf : FB f) (h : Bt (fend f) r) : fenB r := by
  generalize hv : fend f = v at h
  cases h with
  | here o =>
    rcases o with ⟨c, d, h⟩ | ⟨q, h⟩ | ⟨zs, h, q⟩
    · unfold odd0 at h
      simp only [List.mem_cons, List.not_mem_nil, or_false] at h
      rcases h with rfl | rfl | rfl | rfl | rfl | rfl | rfl | rfl | rfl | rfl | rfl | rfl | rfl | rfl | rfl | rfl | rfl | rfl | rfl | rfl | rfl <;> exact fenB_not fun _ _ _ h => by cases h
    · rw [h]; trivial
    · have hx : zs = [rowd f.row, qd f.b, .bl f.s] := by
        have : D.tup [rowd f.row, qd f.b, .bl f.s] = .tup zs := by rw [← h, ← hv]; rfl
        injection this with this
        exact this.symm
      subst hx
      rcases q with rfl | rfl <;> exact fenB_not fun _ _ _ h => by cases h
  | @«at» zs i y r' hi hb =>
    have hx : zs = [rowd f.row, qd f.b, .bl f.s] := by
      have : D.tup [rowd f.row, qd f.b, .bl f.s] = .tup zs := hv
      injection this with this
      exact this.symm
    subst hx
    obtain ⟨g1, g2⟩ := fenB_fen hf
    match i, hi with
    | 0, hi =>
      cases hi
      exact ⟨rowB_of (e := 2000) (by decide) (bt_row (by decide) (fun x hx => (hf.row x hx).mono (by decide) (by decide)) hb), g2⟩
    | 1, hi =>
      cases hi
      exact ⟨g1, (bt_num (e := 10000) (by decide) (hf.b.mono (by decide) (by decide)) hb).num (by decide)⟩
    | 2, hi => exact ⟨g1, g2⟩
    | i + 3, hi => simp at hi
theorem bt_room {fs : List Fen} {r : D} (hf : ∀ f ∈ fs, FB f) (h : Bt (roomd fs) r) : roomB r := by
  generalize hv : roomd fs = v at h
  have k : ∀ y ∈ fs.map fend, fenB y := fun y hy => by
    obtain ⟨u, hu, rfl⟩ := List.mem_map.mp hy
    exact fenB_fen (hf u hu)
  cases h with
  | here o =>
    rcases o with ⟨c, d, h⟩ | ⟨q, h⟩ | ⟨zs, h, q⟩
    · unfold odd0 at h
      simp only [List.mem_cons, List.not_mem_nil, or_false] at h
      rcases h with rfl | rfl | rfl | rfl | rfl | rfl | rfl | rfl | rfl | rfl | rfl | rfl | rfl | rfl | rfl | rfl | rfl | rfl | rfl | rfl | rfl <;> first | trivial | (intro y hy; cases hy; done) | (intro y hy; simp only [List.mem_cons, List.not_mem_nil, or_false] at hy; (rcases hy with rfl | rfl <;> exact fenB_not fun _ _ _ h => by cases h))
    · rw [h]; trivial
    · have hx : zs = fs.map fend := by
        have : D.tup (fs.map fend) = .tup zs := by rw [← h, ← hv]; rfl
        injection this with this
        exact this.symm
      subst hx
      rcases q with rfl | rfl <;> intro y hy
      · rcases List.mem_append.mp hy with p | p
        · exact k y p
        · exact k y (List.mem_of_mem_take p)
      · exact k y (List.mem_of_mem_drop hy)
  | @«at» zs i y r' hi hb =>
    have hx : zs = fs.map fend := by
      have : D.tup (fs.map fend) = .tup zs := hv
      injection this with this
      exact this.symm
    subst hx
    intro z hz'
    rcases mem_set_or hz' with p | rfl
    · exact k z p
    · obtain ⟨u, hu, rfl⟩ := List.mem_map.mp (List.mem_of_getElem? hi)
      exact bt_fen (hf u hu) hb
end K06

set_option Elab.async false
set_option linter.all false
set_option maxRecDepth 100000
set_option maxHeartbeats 400000
namespace K06
open PySem PySem.Spec Pin
/-! ### bars, plainly -/
def SS (φ : Fen → Rat) : List (Fen × Rat) → Rat
  | [] => 0
  | p :: ps => p.2 * φ p.1 + SS φ ps
def at_ (i : Nat) (f : Fen) : Rat := f.row.getD i 0
theorem SS_app (φ : Fen → Rat) : ∀ ps qs, SS φ (ps ++ qs) = SS φ ps + SS φ qs
  | [], qs => by show SS φ qs = 0 + SS φ qs; grind
  | p :: ps, qs => by
    show p.2 * φ p.1 + SS φ (ps ++ qs) = p.2 * φ p.1 + SS φ ps + SS φ qs
    rw [SS_app φ ps qs]; grind
theorem sum_b : ∀ (ps : List (Fen × Rat)) (s : List Rat × Rat), (ps.foldl stepF s).2 = s.2 + SS Fen.b ps
  | [], s => by show s.2 = s.2 + 0; grind
  | p :: ps, s => by
    rw [List.foldl_cons, sum_b ps]
    show s.2 + p.2 * p.1.b + SS Fen.b ps = s.2 + (p.2 * p.1.b + SS Fen.b ps)
    grind
theorem zw_get (a : Rat) : ∀ (xs ys : List Rat) (i : Nat), xs.length = ys.length → (List.zipWith (· + ·) xs (ys.map (a * ·))).getD i 0 = xs.getD i 0 + a * ys.getD i 0
  | [], [], i, _ => by show (0 : Rat) = 0 + a * 0; grind
  | x :: xs, y :: ys, 0, _ => rfl
  | x :: xs, y :: ys, i + 1, h => by
    have := zw_get a xs ys i (by simpa using h)
    simpa using this
  | [], _ :: _, _, h => by simp at h
  | _ :: _, [], _, h => by simp at h
theorem sum_row {w : Nat} (i : Nat) : ∀ (ps : List (Fen × Rat)) (s : List Rat × Rat), s.1.length = w → (∀ p ∈ ps, p.1.row.length = w) → (ps.foldl stepF s).1.length = w ∧ (ps.foldl stepF s).1.getD i 0 = s.1.getD i 0 + SS (at_ i) ps
  | [], s, hs, _ => ⟨hs, by show s.1.getD i 0 = s.1.getD i 0 + 0; grind⟩
  | p :: ps, s, hs, h => by
    have hl := h p List.mem_cons_self
    have h1 : (stepF s p).1.length = w := by
      show (List.zipWith (· + ·) s.1 (p.1.row.map (p.2 * ·))).length = w
      rw [List.length_zipWith, List.length_map, hl, hs]; omega
    obtain ⟨q1, q2⟩ := sum_row i ps (stepF s p) h1 fun q hq => h q (List.mem_cons_of_mem p hq)
    refine ⟨q1, ?_⟩
    rw [List.foldl_cons, q2]
    show (List.zipWith (· + ·) s.1 (p.1.row.map (p.2 * ·))).getD i 0 + SS (at_ i) ps = s.1.getD i 0 + (p.2 * p.1.row.getD i 0 + SS (at_ i) ps)
    rw [zw_get p.2 s.1 p.1.row i (by rw [hs, hl])]; grind
theorem rep_get (w i : Nat) : (List.replicate w (0 : Rat)).getD i 0 = 0 := by
  rw [List.getD_eq_getElem?_getD, List.getElem?_replicate]
  split <;> rfl
theorem sumF_b (w : Nat) (ps : List (Fen × Rat)) : (sumF w ps).2 = SS Fen.b ps := by
  unfold sumF; rw [sum_b]; show (0 : Rat) + SS Fen.b ps = _; grind
theorem sumF_row {w : Nat} (i : Nat) {ps : List (Fen × Rat)} (h : ∀ p ∈ ps, p.1.row.length = w) : (sumF w ps).1.length = w ∧ (sumF w ps).1.getD i 0 = SS (at_ i) ps := by
  obtain ⟨q1, q2⟩ := sum_row i ps (List.replicate w 0, 0) (by simp) h
  refine ⟨q1, ?_⟩
  unfold sumF; rw [q2]
  show (List.replicate w (0 : Rat)).getD i 0 + _ = _
  rw [rep_get]; grind
theorem all0_get (xs : List Rat) : all0 xs = true ↔ ∀ i, xs.getD i 0 = 0 := by
  unfold all0
  constructor
  · intro h i
    rw [List.getD_eq_getElem?_getD]
    cases e : xs[i]? with
    | none => rfl
    | some x => exact of_decide_eq_true (List.all_eq_true.mp h x (List.mem_of_getElem? e))
  · intro h
    refine List.all_eq_true.mpr fun x hx => decide_eq_true ?_
    obtain ⟨i, hi, e⟩ := List.mem_iff_getElem.mp hx
    have := h i
    rw [List.getD_eq_getElem?_getD, List.getElem?_eq_getElem hi, e] at this
    exact this
structure IsBar (fs : List Fen) (ws : List Rat) : Prop where
  nn : ∀ a ∈ ws, 0 ≤ a
  rows : ∀ i, SS (at_ i) (fs.zip ws) = 0
  num : 0 < SS Fen.b (fs.zip ws) ∨ (SS Fen.b (fs.zip ws) = 0 ∧ anyS (fs.zip ws) = true)
theorem IsBar.v {w : Nat} {fs : List Fen} {ws : List Rat} (h : IsBar fs ws) (hl : ∀ f ∈ fs, f.row.length = w) : barV w fs ws = true := by
  have hl' : ∀ p ∈ fs.zip ws, p.1.row.length = w := fun p hp => hl _ (zip_mem hp).1
  unfold barV barS nonneg
  have h1 : (ws.all fun a => decide (0 ≤ a)) = true := List.all_eq_true.mpr fun a ha => decide_eq_true (h.nn a ha)
  have h2 : all0 (sumF w (fs.zip ws)).1 = true := (all0_get _).mpr fun i => by rw [(sumF_row i hl').2]; exact h.rows i
  rw [h1, h2, sumF_b]
  rcases h.num with q | ⟨q1, q2⟩
  · rw [decide_eq_true q]; rfl
  · rw [q2, decide_eq_true q1]; simp
theorem SS_mul (φ : Fen → Rat) (a : Rat) : ∀ (fs : List Fen) (ws : List Rat), SS φ (fs.zip (ws.map (a * ·))) = a * SS φ (fs.zip ws)
  | [], ws => by simp [SS, Rat.mul_zero]
  | f :: fs, [] => by simp [SS, Rat.mul_zero]
  | f :: fs, b :: ws => by
    show a * b * φ f + SS φ (fs.zip (ws.map (a * ·))) = a * (b * φ f + SS φ (fs.zip ws))
    rw [SS_mul φ a fs ws]; grind
theorem any_mul {a : Rat} (ha : 0 < a) : ∀ (fs : List Fen) (ws : List Rat), anyS (fs.zip ws) = true → anyS (fs.zip (ws.map (a * ·))) = true
  | [], ws, h => by cases h
  | f :: fs, [], h => by cases h
  | f :: fs, b :: ws, h => by
    have h' : (f.s && decide (0 < b) || anyS (fs.zip ws)) = true := h
    show (f.s && decide (0 < a * b) || anyS (fs.zip (ws.map (a * ·)))) = true
    rw [Bool.or_eq_true] at h' ⊢
    rcases h' with h' | h'
    · rw [Bool.and_eq_true, decide_eq_true_eq] at h'
      exact .inl (by rw [h'.1, decide_eq_true (Rat.mul_pos ha h'.2)]; rfl)
    · exact .inr (any_mul ha fs ws h')
theorem IsBar.mul {fs : List Fen} {ws : List Rat} (h : IsBar fs ws) {a : Rat} (ha : 0 < a) : IsBar fs (ws.map (a * ·)) := by
  refine ⟨fun x hx => ?_, fun i => ?_, ?_⟩
  · obtain ⟨y, hy, rfl⟩ := List.mem_map.mp hx
    exact Rat.mul_nonneg (by grind) (h.nn y hy)
  · rw [SS_mul, h.rows i, Rat.mul_zero]
  · rw [SS_mul]
    rcases h.num with q | ⟨q1, q2⟩
    · exact .inl (Rat.mul_pos ha q)
    · exact .inr ⟨by rw [q1, Rat.mul_zero], any_mul ha fs ws q2⟩
theorem SS_add (φ : Fen → Rat) : ∀ (fs : List Fen) (ws us : List Rat), ws.length = us.length → SS φ (fs.zip (List.zipWith (· + ·) ws us)) = SS φ (fs.zip ws) + SS φ (fs.zip us)
  | [], ws, us, _ => by simp [SS]; grind
  | f :: fs, [], [], _ => by simp [SS]; grind
  | f :: fs, a :: ws, b :: us, h => by
    show (a + b) * φ f + SS φ (fs.zip (List.zipWith (· + ·) ws us)) = a * φ f + SS φ (fs.zip ws) + (b * φ f + SS φ (fs.zip us))
    rw [SS_add φ fs ws us (by simpa using h)]; grind
  | f :: fs, [], _ :: _, h => by simp at h
  | f :: fs, _ :: _, [], h => by simp at h
theorem any_add : ∀ (fs : List Fen) (ws us : List Rat), ws.length = us.length → (∀ a ∈ ws, 0 ≤ a) → (∀ a ∈ us, 0 ≤ a) → (anyS (fs.zip ws) = true ∨ anyS (fs.zip us) = true) → anyS (fs.zip (List.zipWith (· + ·) ws us)) = true
  | [], ws, us, _, _, _, h => by rcases h with h | h <;> cases h
  | f :: fs, [], [], _, _, _, h => by rcases h with h | h <;> cases h
  | f :: fs, a :: ws, b :: us, h, h1, h2, h3 => by
    have ha := h1 a List.mem_cons_self
    have hb := h2 b List.mem_cons_self
    have h3' : (f.s && decide (0 < a) || anyS (fs.zip ws)) = true ∨ (f.s && decide (0 < b) || anyS (fs.zip us)) = true := h3
    show (f.s && decide (0 < a + b) || anyS (fs.zip (List.zipWith (· + ·) ws us))) = true
    have ih := any_add fs ws us (by simpa using h) (fun x hx => h1 x (List.mem_cons_of_mem _ hx)) (fun x hx => h2 x (List.mem_cons_of_mem _ hx))
    rw [Bool.or_eq_true] at h3' ⊢
    rw [Bool.or_eq_true] at h3'
    rcases h3' with (q | q) | (q | q)
    · rw [Bool.and_eq_true, decide_eq_true_eq] at q
      exact .inl (by rw [q.1, decide_eq_true (by grind)]; rfl)
    · exact .inr (ih (.inl q))
    · rw [Bool.and_eq_true, decide_eq_true_eq] at q
      exact .inl (by rw [q.1, decide_eq_true (by grind)]; rfl)
    · exact .inr (ih (.inr q))
  | f :: fs, [], _ :: _, h, _, _, _ => by simp at h
  | f :: fs, _ :: _, [], h, _, _, _ => by simp at h
theorem IsBar.add {fs : List Fen} {ws us : List Rat} (h : IsBar fs ws) (k : IsBar fs us) (hl : ws.length = us.length) : IsBar fs (List.zipWith (· + ·) ws us) := by
  refine ⟨fun z hz => ?_, fun i => ?_, ?_⟩
  · obtain ⟨x, hx, y, hy, rfl⟩ := zw_mem hz
    have := h.nn x hx
    have := k.nn y hy
    grind
  · rw [SS_add _ _ _ _ hl, h.rows i, k.rows i]; grind
  · rw [SS_add _ _ _ _ hl]
    have q3 := fun q => any_add fs ws us hl h.nn k.nn q
    rcases h.num with q | ⟨q1, q2⟩
    · rcases k.num with r | ⟨r1, _⟩
      · exact .inl (by grind)
      · exact .inl (by grind)
    · rcases k.num with r | ⟨r1, _⟩
      · exact .inl (by grind)
      · exact .inr ⟨by grind, q3 (.inl q2)⟩
theorem SS_zero (φ : Fen → Rat) : ∀ (fs : List Fen) (k : Nat), SS φ (fs.zip (List.replicate k 0)) = 0
  | [], k => by simp [SS]
  | f :: fs, 0 => by simp [SS]
  | f :: fs, k + 1 => by
    show 0 * φ f + SS φ (fs.zip (List.replicate k 0)) = 0
    rw [SS_zero φ fs k]; grind
theorem any_app (ps qs : List (Fen × Rat)) : anyS (ps ++ qs) = (anyS ps || anyS qs) := List.any_append
theorem IsBar.more {fs gs : List Fen} {ws : List Rat} (h : IsBar fs ws) (hl : fs.length = ws.length) (k : Nat) : IsBar (fs ++ gs) (ws ++ List.replicate k 0) := by
  have e : (fs ++ gs).zip (ws ++ List.replicate k 0) = fs.zip ws ++ gs.zip (List.replicate k 0) := List.zip_append hl
  refine ⟨fun a ha => ?_, fun i => ?_, ?_⟩
  · rcases List.mem_append.mp ha with q | q
    · exact h.nn a q
    · rw [List.eq_of_mem_replicate q]; decide
  · rw [e, SS_app, h.rows i, SS_zero]; grind
  · rw [e, SS_app, SS_zero, any_app]
    rcases h.num with q | ⟨q1, q2⟩
    · exact .inl (by grind)
    · exact .inr ⟨by grind, by rw [q2]; rfl⟩
theorem map_get (c : Rat) : ∀ (xs : List Rat) (i : Nat), (xs.map (c * ·)).getD i 0 = c * xs.getD i 0
  | [], i => by show (0 : Rat) = c * 0; grind
  | x :: xs, 0 => rfl
  | x :: xs, i + 1 => by simpa using map_get c xs i
theorem zip_take {α β : Type} : ∀ (xs : List α) (ys : List β) (k : Nat), (xs.take k).zip (ys.take k) = (xs.zip ys).take k
  | _, _, 0 => by simp
  | [], _, k + 1 => by simp
  | _ :: _, [], k + 1 => by simp
  | x :: xs, y :: ys, k + 1 => by simp [zip_take xs ys k]
theorem zip_drop {α β : Type} : ∀ (xs : List α) (ys : List β) (k : Nat), (xs.drop k).zip (ys.drop k) = (xs.zip ys).drop k
  | _, _, 0 => by simp
  | [], _, k + 1 => by simp
  | _ :: _, [], k + 1 => by simp
  | x :: xs, y :: ys, k + 1 => by simp [zip_drop xs ys k]
theorem IsBar.made {w k : Nat} {fs : List Fen} {ws : List Rat} {l : Fen} {by_ extra : Rat} (hl : fs.length = ws.length) (hw : ∀ f ∈ fs, f.row.length = w) (h0 : ∀ a ∈ ws, 0 ≤ a) (hb : 0 < by_)
    (lr : l.row = (sumF w (fs.zip ws)).1.map (-by_⁻¹ * ·)) (lb : l.b = by_⁻¹ * (extra - (sumF w (fs.zip ws)).2)) (he : 0 < extra ∨ (extra = 0 ∧ (anyS (fs.zip ws) = true ∨ l.s = true))) :
    IsBar (fs.take k ++ l :: fs.drop k) (ws.take k ++ by_ :: ws.drop k) := by
  have hne : by_ ≠ 0 := by grind
  have e : (fs.take k ++ l :: fs.drop k).zip (ws.take k ++ by_ :: ws.drop k) = (fs.zip ws).take k ++ (l, by_) :: (fs.zip ws).drop k := by
    rw [List.zip_append (by rw [List.length_take, List.length_take, hl]), List.zip_cons_cons, zip_take, zip_drop]
  have sp : ∀ φ, SS φ ((fs.zip ws).take k) + SS φ ((fs.zip ws).drop k) = SS φ (fs.zip ws) := fun φ => by
    rw [← SS_app, List.take_append_drop]
  have e2 : ∀ φ, SS φ ((fs.take k ++ l :: fs.drop k).zip (ws.take k ++ by_ :: ws.drop k)) = by_ * φ l + SS φ (fs.zip ws) := fun φ => by
    rw [e, SS_app, ← sp φ]
    show _ + (by_ * φ l + _) = _
    grind
  refine ⟨fun a ha => ?_, fun i => ?_, ?_⟩
  · rcases List.mem_append.mp ha with q | q
    · exact h0 a (List.mem_of_mem_take q)
    · rcases List.mem_cons.mp q with rfl | q
      · grind
      · exact h0 a (List.mem_of_mem_drop q)
  · rw [e2]
    have h1 := (sumF_row (w := w) i (ps := fs.zip ws) fun p hp => hw _ (zip_mem hp).1).2
    have h2 : at_ i l = -by_⁻¹ * SS (at_ i) (fs.zip ws) := by
      unfold at_ at h1 ⊢
      rw [lr, map_get, h1]
    rw [h2, ← Rat.mul_assoc, Rat.mul_neg, Rat.mul_inv_cancel _ hne]; grind
  · rw [e2]
    have h2 : by_ * l.b = extra - SS Fen.b (fs.zip ws) := by
      rw [lb, sumF_b, ← Rat.mul_assoc, Rat.mul_inv_cancel _ hne, Rat.one_mul]
    have h3 : by_ * l.b + SS Fen.b (fs.zip ws) = extra := by grind
    rw [h3, e]
    rcases he with q | ⟨q1, q2⟩
    · exact .inl q
    · refine .inr ⟨q1, ?_⟩
      have h4 : (anyS ((fs.zip ws).take k) || anyS ((fs.zip ws).drop k)) = anyS (fs.zip ws) := by
        rw [← any_app, List.take_append_drop]
      rw [any_app]
      show (anyS ((fs.zip ws).take k) || (l.s && decide (0 < by_) || anyS ((fs.zip ws).drop k))) = true
      rcases q2 with q2 | q2
      · rw [← h4, Bool.or_eq_true] at q2
        rcases q2 with q | q <;> rw [q] <;> simp
      · rw [q2, decide_eq_true hb]; simp
end K06

set_option Elab.async false
set_option linter.all false
set_option maxRecDepth 100000
set_option maxHeartbeats 400000
namespace K06
open PySem PySem.Spec Pin
/-! ### a room with a bar, drawn -/
theorem inv_div (a b : Int) : (Rat.divInt a b)⁻¹ = Rat.divInt b a := Rat.inv_divInt a b
theorem s_some_times2 (n j : Nat) (S : Store) (hJ : JarOK S j) : WP (callF P (n + 2) f__law_some_times [.ref j] S) fun v S' => (∃ r, v = qd r ∧ 0 < r ∧ Z 1 4 r ∧ Z 1 4 r⁻¹) ∧ Fr j S S' := by
  refine call_jar P__law_some_times rfl hJ ?_
  simp [sm__law_some_times, startE]
  refine (s_dip n j 7 S hJ (by decide) (by decide)).mono ?_
  rintro v S1 ⟨⟨a, rfl, a0, a1⟩, fr1⟩
  simp
  refine (s_dip n j 4 S1 fr1.jar (by decide) (by decide)).mono ?_
  rintro v S2 ⟨⟨b, rfl, b0, b1⟩, fr2⟩
  have hb : b = 0 ∨ b = 1 ∨ b = 2 ∨ b = 3 := by omega
  have ha : a = 0 ∨ a = 1 ∨ a = 2 ∨ a = 3 ∨ a = 4 ∨ a = 5 ∨ a = 6 := by omega
  have hd : (1 + b).natAbs ∣ LL ^ 1 := by rcases hb with rfl | rfl | rfl | rfl <;> decide
  have hc : (1 + a).natAbs ∣ LL ^ 1 := by rcases ha with rfl | rfl | rfl | rfl | rfl | rfl | rfl <;> decide
  simp [low_ok n (1 + a) (1 + b) (hb := by omega) (h1 := by omega) (h2 := by omega)]
  refine ⟨⟨_, rfl, divInt_gt (by omega) (by omega), Z_divInt (by omega) hd (by omega), ?_⟩, fr1.trans fr2⟩
  rw [inv_div]
  exact Z_divInt (by omega) hc (by omega)
/-- how far a drawn sum has come -/
structure SC (w : Nat) (i : Nat) (s : List Rat × Rat) : Prop where
  len : s.1.length = w
  row : ∀ x ∈ s.1, Z 2 (144 + i * 153) x
  b : Z 3 (7004 + i * 229) s.2
theorem SC.step {w i : Nat} {s : List Rat × Rat} {p : Fen × Rat} {pt : List Rat} (h : SC w i s) (hf : About w pt p.1) (ha : Z 1 4 p.2) : SC w (i + 1) (stepF s p) := by
  refine ⟨?_, fun z hz => ?_, ?_⟩
  · show (List.zipWith (· + ·) s.1 (p.1.row.map (p.2 * ·))).length = w
    rw [List.length_zipWith, List.length_map, hf.len, h.len]; omega
  · obtain ⟨x, hx, y, hy, rfl⟩ := zw_mem hz
    obtain ⟨u, hu, rfl⟩ := List.mem_map.mp hy
    have h1 : Z 2 (144 + i * 153) (p.2 * u) := (ha.mul (hf.row u hu)).mono (by decide) (by omega)
    exact ((h.row x hx).add h1 LLpos LLlt).mono (by decide) (by omega)
  · have h1 : Z 3 (7004 + i * 229) (p.2 * p.1.b) := (ha.mul hf.b).mono (by decide) (by omega)
    exact (h.b.add h1 LLpos LLlt).mono (by decide) (by omega)
theorem SC.all {w : Nat} {pt : List Rat} : ∀ (ps : List (Fen × Rat)) (s : List Rat × Rat) (i : Nat), SC w i s → (∀ p ∈ ps, About w pt p.1 ∧ Z 1 4 p.2) → SC w (i + ps.length) (ps.foldl stepF s)
  | [], s, i, h, _ => h
  | p :: ps, s, i, h, hp => by
    have q := hp p List.mem_cons_self
    have := SC.all ps (stepF s p) (i + 1) (h.step q.1 q.2) fun r hr => hp r (List.mem_cons_of_mem p hr)
    rw [List.length_cons, show i + (ps.length + 1) = i + 1 + ps.length by omega]
    exact this
theorem SC.sum {w k : Nat} {pt : List Rat} {fs : List Fen} {ws : List Rat} (hf : ∀ f ∈ fs, About w pt f) (hw : ∀ a ∈ ws, Z 1 4 a) (hl : fs.length ≤ k) : SC w k (sumF w (fs.zip ws)) := by
  have h0 : SC w 0 (List.replicate w 0, 0) := ⟨by simp, fun x hx => by rw [List.eq_of_mem_replicate hx]; exact Z0 _ _, Z0 _ _⟩
  have h := SC.all (fs.zip ws) _ 0 h0 fun p hp => ⟨hf _ (zip_mem hp).1, hw _ (zip_mem hp).2⟩
  have hz := zip_le fs ws
  have hk : 0 + (fs.zip ws).length ≤ k := by omega
  have m1 : (0 + (fs.zip ws).length) * 153 ≤ k * 153 := Nat.mul_le_mul_right _ hk
  have m2 : (0 + (fs.zip ws).length) * 229 ≤ k * 229 := Nat.mul_le_mul_right _ hk
  exact ⟨h.len, fun x hx => (h.row x hx).mono (Nat.le_refl _) (by omega), h.b.mono (Nat.le_refl _) (by omega)⟩
/-- what is drawn -/
structure Barred (w m : Nat) (fs : List Fen) (ws : List Rat) : Prop where
  lf : fs.length = m
  lw : ws.length = m
  f : ∀ f ∈ fs, FB f ∧ f.row.length = w
  w : ∀ a ∈ ws, Z 1 4 a
  bar : IsBar fs ws
theorem s_barred_room (n j w m : Nat) (wi mi : Int) (S : Store) (hJ : JarOK S j) (hwi : wi = w) (hw : w ≤ 40) (hmi : mi = m) (h1 : 1 ≤ m) (hm : m ≤ 9) :
    WP (callF P (n + 7) f__law_barred_room [.ref j, .int wi, .int mi] S) fun v S' => (∃ fs ws, v = .tup [roomd fs, rowd ws] ∧ Barred w m fs ws) ∧ Fr j S S' := by
  refine call_jar P__law_barred_room rfl hJ ?_
  rw [show startE 16 [D.ref j, .int wi, .int mi] = [some (D.ref j), some (.int wi), some (.int mi), none, none, none, none, none, none, none, none, none, none, none, none, none] from rfl]
  simp only [sm__law_barred_room]
  rw [x_sSeq, x_sAsg]
  simp only [x_eCall, x_lCons, x_lNil, x_eVar, x_eCon, x_eBin, wp_bind, wp_pure, var_0, var_s, b_sub]
  refine (s_drawn_row (n + 2) j w wi 3 S hJ (by omega) (by omega) (by omega)).mono ?_
  rintro v S1 ⟨⟨pt, rfl, ptl, ptb⟩, fr1⟩
  refine (s_room_about (n + 1) j w (m - 1) wi (mi - 1) pt S1 fr1.jar (by omega) (by omega) hw (by omega) (by omega) (by omega) ptb).mono ?_
  rintro v S2 ⟨⟨fs, rfl, fl, fa⟩, fr2⟩
  rw [wp_gName]
  refine ⟨by simp, ?_⟩
  rw [x_sSeq, x_sAsg]
  simp only [x_eCall, x_lCons, x_lNil, x_eVar, x_eCon, x_eBin, wp_bind, wp_pure, var_0, var_s, b_sub, List.set_cons_succ, List.set_cons_zero]
  refine (s_weights (n + 3) j (m - 1) (mi - 1) S2 fr2.jar (by omega) (by omega) (by omega)).mono ?_
  rintro v S3 ⟨⟨ws, rfl, wl, wz⟩, fr3⟩
  rw [wp_gName]
  refine ⟨by simp, ?_⟩
  have rb : RB (w : Int) fs := RB.of rfl hw (by omega) fa
  have wb : WB ws := fun a ha => (wz a ha).1.mono (by decide) (by decide)
  have k1 := fun S => s_lsummed (n + 2) w fs ws S hw (GB.of rb wb)
  have sc := SC.sum (k := 8) fa (fun a ha => (wz a ha).1) (by omega)
  rw [← hwi] at k1
  obtain ⟨R, N, hs⟩ : ∃ R N, sumF w (fs.zip ws) = (R, N) := ⟨_, _, rfl⟩
  rw [hs] at sc
  simp only [hs] at k1
  rw [x_sSeq, x_sAsg]
  simp only [x_eCall, x_lCons, x_lNil, x_eVar, x_eCon, x_eBin, wp_bind, wp_pure, var_0, var_s, b_sub, List.set_cons_succ, List.set_cons_zero, k1, wp_ok, wp_gTup, x_gCons, x_gNil, wp_gName, List.length_cons, List.length_nil]
  refine ⟨trivial, by decide, by decide, ?_⟩
  -- which are strict
  have key := fun S => lcL_filter (gd := []) (g := Pin.gTup 2 (Pin.gCons (Pin.gName 14) (Pin.gCons (Pin.gName 15) Pin.gNil))) (t := Pin.tAnd (tVal (eIx (eVar 14) (eCon (.int 2)))) (Pin.tCmp .gt (eIx (eVar 15) (eCon (.int 0))) (eCon (.int 0)))) (e := eCon (.int 1)) (c := callF P (n + 6)) (ρ := [some (D.ref j), some (.int wi), some (.int mi), some (roomd fs), some (rowd ws), some (rowd R), some (qd N), none, none, none, none, none, none, none, none, none]) (S := S)
      (fun p : Fen × Rat => D.tup [fend p.1, qd p.2]) (fun p => p.1.s && decide (0 < p.2)) (fun _ => .int 1) gd_nil (fs.zip ws) fun p _ => by
        simp [num_pos]
        cases p.1.s <;> simp
  have e4 : (((fs.zip ws).filter fun p => p.1.s && decide (0 < p.2)).map fun _ => D.int 1).isEmpty = !anyS (fs.zip ws) := by
    rw [List.isEmpty_map, filter_ne]
    unfold anyS
    rw [List.not_any_eq_all_not]
  have hz : (((fs.zip ws).filter fun p => p.1.s && decide (0 < p.2)).map fun _ => D.int 1).length ≤ sizeLine := by
    rw [List.length_map]
    exact le_line (Nat.le_trans (List.length_filter_le _ _) (by have := zip_le fs ws; omega))
  rw [x_sSeq, x_sAsg]
  simp only [x_eCmp, x_eLc, x_cLc, x_iZip, x_eVar, wp_bind, wp_pure, var_0, var_s, zip_room, wipeE, List.set_cons_succ, List.set_cons_zero, key, wp_ok, wp_fits, wp_newO, x_eLst, x_lNil, wp_lstM, c_ne]
  refine ⟨hz, Nat.zero_le _, ?_⟩
  generalize hL : (((fs.zip ws).filter fun p => p.1.s && decide (0 < p.2)).map fun _ => D.int 1) = L
  rw [hL] at e4
  rw [eq_nil (get_old get_end) (by simp), wp_ok, e4, Bool.not_not, wp_gName]
  refine ⟨by simp, ?_⟩
  generalize hS4 : S3 ++ [Ob.lst L] ++ [Ob.lst []] = S4
  have fr4 : Fr j S3 S4 := by rw [← hS4]; exact fr_end (fr_end (Fr.refl fr3.jar) _) _
  -- by, more
  rw [x_sSeq, x_sPar]
  simp only [x_eCall, x_lCons, x_lNil, x_eVar, wp_bind, wp_pure, var_0, var_s, List.set_cons_succ, List.set_cons_zero]
  refine (s_some_times2 (n + 4) j S4 fr4.jar).mono ?_
  rintro v S5 ⟨⟨by_, rfl, by0, byz, byi⟩, fr5⟩
  refine (s_some_times2 (n + 4) j S5 fr5.jar).mono ?_
  rintro v S6 ⟨⟨more, rfl, more0, morez, _⟩, fr6⟩
  simp only [x_gCons, x_gNil, wp_bind, wp_gName, wp_pure, List.set_cons_succ, List.set_cons_zero]
  refine ⟨by simp, by simp, ?_⟩
  -- own
  rw [x_sSeq, x_sAsg]
  simp only [x_eCall, x_lCons, x_lNil, x_eVar, x_eLst, x_eCon, wp_bind, wp_pure, var_0, var_s, List.set_cons_succ, List.set_cons_zero, wp_lstM]
  refine ⟨le_line (by simp), ?_⟩
  refine (one_new (n + 4) j _ S6 fr6.jar (by simp) (by simp)).mono ?_
  rintro v S7 ⟨hv, fr7⟩
  obtain ⟨own, rfl⟩ : ∃ b : Bool, v = .bl b := by
    simp only [List.mem_cons, List.not_mem_nil, or_false] at hv
    rcases hv with rfl | rfl <;> exact ⟨_, rfl⟩
  rw [wp_gName]
  refine ⟨by simp, ?_⟩
  -- extra
  rw [x_sSeq, x_sAsg, wp_bind]
  simp only [List.set_cons_succ, List.set_cons_zero]
  have hex : ∀ (c : Bool), WP (eIf (Pin.tAnd (Pin.tOr (tVal (eVar 7)) (tVal (eVar 10))) (Pin.tCmp .eq (eCall f__law_dip (lCons (eVar 0) (lCons (eCon (.int 2)) lNil))) (eCon (.int 0)))) (eTup (lCons (eCon (.int 0)) (lCons (eCon (.int 1)) lNil))) (eVar 9) (callF P (n + 6)) [some (D.ref j), some (.int wi), some (.int mi), some (roomd fs), some (rowd ws), some (rowd R), some (qd N), some (.bl c), some (qd by_), some (qd more), some (.bl own), none, none, none, none, none] S7)
      fun v S' => (∃ ex, v = qd ex ∧ Z 1 4 ex ∧ (0 < ex ∨ (ex = 0 ∧ (c = true ∨ own = true)))) ∧ Fr j S7 S' := by
    intro c
    simp only [x_eIf, x_tAnd, x_tOr, x_tVal, x_eVar, wp_bind, wp_pure, var_0, var_s, t_bl, wp_ite, x_tCmp, x_eCall, x_lCons, x_lNil, x_eCon, c_eq]
    have yes : ∀ (S8 : Store), Fr j S7 S8 → (∃ ex, qd more = qd ex ∧ Z 1 4 ex ∧ (0 < ex ∨ (ex = 0 ∧ (c = true ∨ own = true)))) ∧ Fr j S7 S8 := fun S8 f => ⟨⟨more, rfl, morez, .inl more0⟩, f⟩
    have dip : (c = true ∨ own = true) → WP (callF P (n + 6) f__law_dip [D.ref j, D.int 2] S7) fun b S' => WP (eqM b (D.int 0) S') fun b S' =>
        (b = true → WP (eTup (lCons (eCon (.int 0)) (lCons (eCon (.int 1)) lNil)) (callF P (n + 6)) [some (D.ref j), some (.int wi), some (.int mi), some (roomd fs), some (rowd ws), some (rowd R), some (qd N), some (.bl c), some (qd by_), some (qd more), some (.bl own), none, none, none, none, none] S') fun v S' => (∃ ex, v = qd ex ∧ Z 1 4 ex ∧ (0 < ex ∨ (ex = 0 ∧ (c = true ∨ own = true)))) ∧ Fr j S7 S') ∧
        (¬ b = true → (∃ ex, qd more = qd ex ∧ Z 1 4 ex ∧ (0 < ex ∨ (ex = 0 ∧ (c = true ∨ own = true)))) ∧ Fr j S7 S') := by
      intro hc
      refine (s_dip (n + 5) j 2 S7 fr7.jar (by decide) (by decide)).mono ?_
      rintro v S8 ⟨⟨a, rfl, _, _⟩, f8⟩
      simp only [eq_int, wp_pure, x_eTup, x_lCons, x_lNil, x_eCon, wp_bind, wp_tupM]
      exact ⟨fun _ => ⟨len2l, ⟨0, rfl, Z0 _ _, .inr ⟨rfl, hc⟩⟩, f8⟩, fun _ => yes S8 f8⟩
    exact ⟨fun hc => ⟨fun _ => dip (.inl hc), fun h => absurd trivial h⟩, fun hc => ⟨fun ho => dip (.inr ho), fun ho => ⟨(fun e => by cases e), fun _ => yes _ (Fr.refl fr7.jar)⟩⟩⟩
  refine (hex (anyS (fs.zip ws))).mono ?_
  rintro v S8 ⟨⟨ex, rfl, exz, exp⟩, fr8⟩
  rw [wp_bind, wp_gName]
  refine ⟨by simp, ?_⟩
  -- the last fence
  have sub1 : Z 3 9065 (ex - N) := by
    rw [Rat.sub_eq_add_neg]
    exact ((exz.mono (m := 3) (f := 8836) (by decide) (by decide)).add (sc.b.neg) LLpos LLlt).mono (Nat.le_refl _) (by decide)
  have oby : Ok by_⁻¹ := byi.ok (by decide) (by decide)
  have hden : by_.den < 2 ^ 140 := Nat.lt_of_le_of_lt (Nat.le_of_dvd (Nat.pow_pos LLpos) byz.den) (by decide)
  have q1 := fun S => low_ok (n + 5) (-(by_.den : Int)) by_.num S (num_pos.mpr by0) (by have := byz.num; omega) (by omega)
  have q2 := fun S => low_ok (n + 5) (by_.den : Int) by_.num S (num_pos.mpr by0) (by have := byz.num; omega) (by omega)
  rw [← Rat.inv_def] at q2
  rw [show Rat.divInt (-(by_.den : Int)) by_.num = -by_⁻¹ by rw [Rat.inv_def, Rat.neg_divInt]] at q1
  have q3 := fun S => s_scaled (n + 3) (-by_⁻¹) R S (ha := oby.neg) (hx := fun x hx => (sc.row x hx).ok (by decide) (by decide)) (hl := by have := sc.len; simp only at this; omega)
  have q4 := fun S => s_minus (n + 3) ex N S (hx := exz.ok (by decide) (by decide)) (hy := sc.b.ok (by decide) (by decide))
  have q5 := fun S => s_times (n + 4) by_⁻¹ (ex - N) S (hx := oby) (hy := sub1.ok (by decide) (by decide))
  rw [x_sSeq, x_sAsg]
  simp only [x_eTup, x_eCall, x_lCons, x_lNil, x_eVar, x_eNeg, x_eIx, x_eCon, wp_bind, wp_pure, var_0, var_s, List.set_cons_succ, List.set_cons_zero, qd_0 rfl, qd_1 rfl, b_neg, q1, q2, q3, q4, q5, wp_ok, wp_tupM]
  refine ⟨le_line (by simp), ?_⟩
  obtain ⟨l, hl⟩ : ∃ l : Fen, l = ⟨R.map (-by_⁻¹ * ·), by_⁻¹ * (ex - N), own⟩ := ⟨_, rfl⟩
  rw [show D.tup [rowd (R.map (-by_⁻¹ * ·)), qd (by_⁻¹ * (ex - N)), D.bl own] = fend l by rw [hl]; rfl]
  have lfb : FB l := by
    rw [hl]
    refine ⟨fun x hx => ?_, ?_⟩
    · obtain ⟨u, hu, rfl⟩ := List.mem_map.mp hx
      exact (byi.neg.mul (sc.row u hu)).mono (by decide) (by decide)
    · exact (byi.mul sub1).mono (by decide) (by decide)
  have llen : l.row.length = w := by
    rw [hl]; show (R.map _).length = w
    rw [List.length_map]; exact sc.len
  rw [wp_gName]
  refine ⟨by simp, ?_⟩
  rw [x_sSeq, x_sAsg]
  simp only [x_eCall, x_lCons, x_lNil, x_eVar, wp_bind, wp_pure, var_0, var_s, List.set_cons_succ, List.set_cons_zero]
  refine (s_dip (n + 5) j mi S8 fr8.jar (by omega) (by omega)).mono ?_
  rintro v S9 ⟨⟨at0, rfl, a0, a1⟩, fr9⟩
  obtain ⟨a, rfl⟩ := Int.eq_ofNat_of_zero_le a0
  rw [wp_gName]
  refine ⟨by simp, ?_⟩
  have sr1 : ∀ lo hi, slM (roomd fs) lo hi = pure (.tup (cutD (fs.map fend) lo hi)) := fun _ _ => rfl
  have sr2 : ∀ lo hi, slM (rowd ws) lo hi = pure (.tup (cutD (ws.map qd) lo hi)) := fun _ _ => rfl
  have c1 : cutD (fs.map fend) none (some (a : Int)) = (fs.take a).map fend := by rw [cut_to, List.map_take]
  have c2 : cutD (fs.map fend) (some (a : Int)) none = (fs.drop a).map fend := by rw [cut_from, List.map_drop]
  have c3 : cutD (ws.map qd) none (some (a : Int)) = (ws.take a).map qd := by rw [cut_to, List.map_take]
  have c4 : cutD (ws.map qd) (some (a : Int)) none = (ws.drop a).map qd := by rw [cut_from, List.map_drop]
  rw [x_sRet]
  simp only [x_eTup, x_eBin, x_eSl, x_oNone, x_oSome, x_lCons, x_lNil, x_eVar, wp_bind, wp_pure, var_0, var_s, List.set_cons_succ, List.set_cons_zero, int_int, sr1, sr2, c1, c2, c3, c4, wp_tupM, b_addT, K0_rt]
  refine ⟨le_line (by simp), le_line (by simp; omega), le_line (by simp; omega), le_line (by simp), le_line (by simp; omega), le_line (by simp; omega), le_line (by simp), ⟨fs.take a ++ l :: fs.drop a, ws.take a ++ by_ :: ws.drop a, ?_, ?_⟩, ((((((((fr1.trans fr2).trans fr3).trans fr4).trans fr5).trans fr6).trans fr7).trans fr8).trans fr9)⟩
  · unfold roomd rowd
    simp
  · refine ⟨?_, ?_, fun f hf => ?_, fun x hx => ?_, ?_⟩
    · simp; omega
    · simp; omega
    · rcases List.mem_append.mp hf with q | q
      · have := fa f (List.mem_of_mem_take q); exact ⟨this.fb, this.len⟩
      · rcases List.mem_cons.mp q with rfl | q
        · exact ⟨lfb, llen⟩
        · have := fa f (List.mem_of_mem_drop q); exact ⟨this.fb, this.len⟩
    · rcases List.mem_append.mp hx with q | q
      · exact (wz x (List.mem_of_mem_take q)).1
      · rcases List.mem_cons.mp q with rfl | q
        · exact byz
        · exact (wz x (List.mem_of_mem_drop q)).1
    · refine IsBar.made (w := w) (extra := ex) (by omega) (fun f hf => (fa f hf).len) (fun x hx => (wz x hx).2) by0 ?_ ?_ ?_
      · rw [hl, hs]
      · rw [hl, hs]
      · rw [hl]; exact exp
end K06

set_option Elab.async false
set_option linter.all false
set_option maxRecDepth 100000
set_option maxHeartbeats 400000
namespace K06
open PySem PySem.Spec Pin
/-! ### bars right -/
theorem cond_rep (q : Nat) (h : q ≤ 1000) : binM .mul (D.tup [D.tup [.int 0, .int 1]]) (.int (q : Int)) = pure (rowd (List.replicate q 0)) := by
  have c1 : (decide ((q : Int) ≤ 1000) && decide (-(2 ^ 62) ≤ (q : Int)) && decide ([D.tup [.int 0, .int 1]].length ≤ 1000)) = true := by
    rw [decide_eq_true (by omega), decide_eq_true (by omega)]; rfl
  have c2 : repD [D.tup [.int 0, .int 1]] (q : Int) = (List.replicate q (0 : Rat)).map qd := by
    unfold repD
    rw [Int.toNat_natCast]
    clear c1 h
    induction q with
    | zero => rfl
    | succ q ih => rw [List.replicate_succ, List.replicate_succ, List.flatten_cons, List.map_cons, ih]; rfl
  rw [b_mulT, c1, Pin.cond_true, c2]; rfl
/-- the program's word and the law's, of any value -/
theorem bar_same (n w : Nat) (fs : List Fen) (d : D) (S : Store) (rb : RB w fs) (hv : VOk S d) (hd : ∀ ys, d = .tup ys → ∀ y ∈ ys, NB 300 y) :
    ∃ b, callF P (n + 8) f_is_bar [.int w, roomd fs, d] S = .ok (.bl b) S ∧ callF P (n + 8) f__law_is_bar [.int w, roomd fs, d] S = .ok (.bl b) S := by
  rcases row_or (fs.length : Int) d with ⟨rs, rfl, hl⟩ | h
  · have wb : WB rs := fun a ha => (NB.z (hd _ rfl (qd a) (List.mem_map_of_mem ha))).mono (by decide) (Nat.le_refl _)
    exact ⟨_, s_is_bar_row n w fs rs S rb (by omega) wb, s_lis_bar_row (n + 3) w fs rs S rb (by omega) wb⟩
  · exact ⟨_, s_is_bar_not n w fs d S rb hv h, s_lis_bar_not (n + 3) w fs d S rb hv (rowB_of (e := 300) (by decide) hd) h⟩
def Gd (S : Store) (d : D) : Prop := VOk S d ∧ ∀ ys, d = .tup ys → ∀ y ∈ ys, NB 300 y
theorem gd_row {S : Store} {xs : List Rat} (h : ∀ x ∈ xs, Z 39 300 x) : Gd S (rowd xs) := ⟨vok_row _ _, fun ys e y hy => by
  injection e with e
  subst e
  obtain ⟨u, hu, rfl⟩ := List.mem_map.mp hy
  exact nb_qd (h u hu)⟩
theorem cut_mem {α : Type} {xs : List α} {a b : Nat} {x : α} (h : x ∈ (xs.drop a).take b) : x ∈ xs := List.mem_of_mem_drop (List.mem_of_mem_take h)
theorem cut_row (ws : List Rat) (lo hi : Option Int) : ∃ rs : List Rat, cutD (ws.map qd) lo hi = rs.map qd ∧ ∀ x ∈ rs, x ∈ ws := by
  unfold cutD
  refine ⟨(ws.drop (HT.sIx (ws.map qd).length 0 lo)).take (HT.sIx (ws.map qd).length (ws.map qd).length hi - HT.sIx (ws.map qd).length 0 lo), ?_, fun x hx => cut_mem hx⟩
  rw [List.map_take, List.map_drop]
theorem s_bars_right (n j w : Nat) (wi : Int) (S : Store) (hJ : JarOK S j) (hwi : wi = w) (hw : w ≤ 40) :
    WP (callF P (n + 9) f__law_bars_right [.ref j, .int wi] S) fun v S' => v = .bl true ∧ Fr j S S' := by
  refine call_jar P__law_bars_right rfl hJ ?_
  rw [show startE 10 [D.ref j, .int wi] = [some (D.ref j), some (.int wi), none, none, none, none, none, none, none, none] from rfl]
  simp only [sm__law_bars_right]
  rw [x_sSeq, x_sAsg]
  simp only [x_eCall, x_lCons, x_lNil, x_eVar, x_eCon, x_eLst, wp_bind, wp_pure, var_0, var_s, wp_lstM]
  refine ⟨le_line (by simp), ?_⟩
  refine (one_new (n + 6) j _ S hJ (by simp) (by simp)).mono ?_
  rintro v S1 ⟨hv, fr1⟩
  obtain ⟨m, rfl, hm1, hm2⟩ : ∃ m : Nat, v = .int m ∧ 1 ≤ m ∧ m ≤ 9 := by
    simp only [List.mem_cons, List.not_mem_nil, or_false] at hv
    rcases hv with rfl | rfl | rfl | rfl
    · exact ⟨2, rfl, by decide, by decide⟩
    · exact ⟨3, rfl, by decide, by decide⟩
    · exact ⟨5, rfl, by decide, by decide⟩
    · exact ⟨9, rfl, by decide, by decide⟩
  refine (s_barred_room (n + 1) j w m wi m S1 fr1.jar hwi hw rfl hm1 hm2).mono ?_
  rintro v S2 ⟨⟨fs, ws, rfl, B⟩, fr2⟩
  simp only [wp_gTup, x_gCons, x_gNil, wp_bind, wp_gName, wp_pure, List.set_cons_succ, List.set_cons_zero]
  refine ⟨by simp, by simp, by simp, ?_⟩
  have hwl : ∀ f ∈ fs, f.row.length = w := fun f hf => (B.f f hf).2
  have rb : RB (w : Int) fs := ⟨by have := B.lf; omega, by omega, by omega, fun f hf => by rw [hwl f hf], fun f hf => (B.f f hf).1⟩
  -- another one
  rw [x_sSeq, x_sAsg]
  simp only [x_eCall, x_lCons, x_lNil, x_eVar, wp_bind, wp_pure, var_0, var_s, List.set_cons_succ, List.set_cons_zero]
  refine (s_some_times (n + 6) j S2 fr2.jar).mono ?_
  rintro v S3 ⟨⟨t, rfl, t0, tz⟩, fr3⟩
  have wok : ∀ x ∈ ws, Ok x := fun x hx => (B.w x hx).ok (by decide) (by decide)
  have k1 := fun S => s_scaled (n + 5) t ws S (ha := tz.ok (by decide) (by decide)) (hx := wok) (hl := by have := B.lw; omega)
  simp only [k1, wp_ok, wp_gName]
  refine ⟨by simp, ?_⟩
  obtain ⟨us, hus⟩ : ∃ us, ws.map (t * ·) = us := ⟨_, rfl⟩
  have uz : ∀ x ∈ us, Z 2 8 x := fun x hx => by
    rw [← hus] at hx
    obtain ⟨u, hu, rfl⟩ := List.mem_map.mp hx
    exact tz.mul (B.w u hu)
  have ul : us.length = m := by rw [← hus, List.length_map, B.lw]
  have bu : IsBar fs us := hus ▸ B.bar.mul t0
  have bs : IsBar fs (List.zipWith (· + ·) ws us) := B.bar.add bu (by rw [ul, B.lw])
  have sz : ∀ x ∈ List.zipWith (· + ·) ws us, Z 2 161 x := fun x hx => by
    obtain ⟨a, ha, b, hb, rfl⟩ := zw_mem hx
    exact (((B.w a ha).mono (m := 2) (f := 8) (by decide) (by decide)).add (uz b hb) LLpos LLlt).mono (Nat.le_refl _) (by decide)
  have sl : (List.zipWith (· + ·) ws us).length = m := by rw [List.length_zipWith, ul, B.lw]; omega
  rw [hus]
  have k2 := fun S => s_ladded (n + 5) ws us S (hx := wok) (hy := fun x hx => (uz x hx).ok (by decide) (by decide)) (hl := by have := B.lw; omega)
  have yes : ∀ (zs : List Rat) (S : Store), IsBar fs zs → zs.length = m → (∀ x ∈ zs, Z 2 161 x) → callF P (n + 8) f_is_bar [.int wi, roomd fs, rowd zs] S = .ok (.bl true) S := fun zs S hb hl hz => by
    have := s_is_bar_row n w fs zs S rb (by rw [hl, B.lf]) (fun a ha => (hz a ha).mono (by decide) (by decide))
    rw [hb.v hwl, ← hwi] at this; exact this
  rw [x_sSeq, x_sFor]
  simp only [x_iSeq, x_eTup, x_eCall, x_lCons, x_lNil, x_eVar, wp_bind, wp_pure, var_0, var_s, List.set_cons_succ, List.set_cons_zero, k2, wp_ok, wp_tupM, walk_tup]
  refine ⟨le_line (by simp), ?_⟩
  refine wp_for (fun ys ρ S' => ∃ (r : List (List Rat)) (o : Option D), ys = r.map rowd ∧ ρ = [some (.ref j), some (.int wi), some (roomd fs), some (rowd ws), some (rowd us), o, none, none, none, none] ∧ (∀ zs ∈ r, IsBar fs zs ∧ zs.length = m ∧ ∀ x ∈ zs, Z 2 161 x) ∧ Fr j S S') ?_ ?_ ?_ _ _ _
    ⟨[ws, us, List.zipWith (· + ·) ws us], none, rfl, rfl, ?_, (fr1.trans fr2).trans fr3⟩
  · intro ys ρ S' _; exact gd_nil
  · rintro ρ S4 ⟨r, o, _, rfl, _, fr⟩
    simp only
    have hws : ∀ x ∈ ws, Z 39 300 x := fun x hx => (B.w x hx).mono (by decide) (by decide)
    rw [x_sSeq, x_sAsg]
    simp only [x_eBin, x_eCall, x_lCons, x_lNil, x_eVar, x_eCon, wp_bind, wp_pure, var_0, var_s]
    refine (s_dip (n + 7) j 3 S4 fr.jar (by decide) (by decide)).mono ?_
    rintro v S5 ⟨⟨c, rfl, c0, c1⟩, fr5⟩
    simp only [b_add, wp_pure]
    refine (s_drawn_row (n + 4) j w wi 5 S5 fr5.jar (by omega) (by omega) (by omega)).mono ?_
    rintro v S6 ⟨⟨pt, rfl, ptl, ptb⟩, fr6⟩
    refine (s_room_about (n + 3) j w (1 + c).toNat wi (1 + c) pt S6 fr6.jar (by omega) (by omega) hw rfl (by omega) (by omega) ptb).mono ?_
    rintro v S7 ⟨⟨gs, rfl, gl, ga⟩, fr7⟩
    rw [wp_gName]
    refine ⟨by simp, ?_⟩
    have rb2 : RB (w : Int) (fs ++ gs) := ⟨by rw [List.length_append, B.lf]; omega, by omega, by omega, fun f hf => by
      rcases List.mem_append.mp hf with q | q
      · rw [hwl f q]
      · rw [(ga f q).len], fun f hf => by
      rcases List.mem_append.mp hf with q | q
      · exact (B.f f q).1
      · exact (ga f q).fb⟩
    have hb2 := B.bar.more (gs := gs) (by rw [B.lf, B.lw]) gs.length
    have e1 : biM .len [roomd gs] = pure (.int (gs.length : Nat)) := by
      show pure (D.int ((gs.map fend).length : Nat)) = _
      rw [List.length_map]
    have e2 : binM .add (roomd fs) (roomd gs) = tupM (fs.map fend ++ gs.map fend) := rfl
    have e3 : ∀ zs : List Rat, binM .add (rowd ws) (rowd zs) = tupM (ws.map qd ++ zs.map qd) := fun _ => rfl
    have e4 := cond_rep gs.length (by omega)
    have k3 : ∀ S, callF P (n + 8) f_is_bar [.int wi, roomd (fs ++ gs), rowd (ws ++ List.replicate gs.length 0)] S = .ok (.bl true) S := fun S => by
      have := s_is_bar_row n w (fs ++ gs) (ws ++ List.replicate gs.length 0) S rb2 (by rw [List.length_append, List.length_append, B.lf, B.lw]; simp) (fun a ha => by
        rcases List.mem_append.mp ha with q | q
        · exact (B.w a q).mono (by decide) (by decide)
        · rw [List.eq_of_mem_replicate q]; exact Z0 _ _)
      rw [hb2.v (fun f hf => by
        rcases List.mem_append.mp hf with q | q
        · exact hwl f q
        · exact (ga f q).len), ← hwi] at this
      exact this
    have e5 : D.tup (fs.map fend ++ gs.map fend) = roomd (fs ++ gs) := by unfold roomd; rw [List.map_append]
    have e6 : ∀ zs : List Rat, D.tup (ws.map qd ++ zs.map qd) = rowd (ws ++ zs) := fun zs => by unfold rowd; rw [List.map_append]
    rw [x_sSeq, x_sIf]
    simp only [x_tCmp, x_eBin, x_eBi, x_eTup, x_eCall, x_lCons, x_lNil, x_eVar, x_eCon, wp_bind, wp_pure, var_0, var_s, List.set_cons_succ, List.set_cons_zero, e1, e2, wp_tupM, e3, e4, e5, e6, k3, wp_ok, c_isnot, is_bl, wp_ite, x_sPass]
    have hbl := B.lf
    have hbw := B.lw
    refine ⟨le_line (by simp; omega), le_line (by simp), le_line (by simp), le_line (by simp; omega), (fun e => by cases e), fun _ => ?_⟩
    have r8 : rngOk 8 = true := by decide
    rw [x_sSeq, x_sFor]
    simp only [x_iRng1, x_eCon, wp_bind, wp_pure, int_int, r8, Pin.cond_true]
    have fr7' := ((fr.trans fr5).trans fr6).trans fr7
    refine wp_for (fun ys ρ S' => ∃ (o1 o2 o3 : Option D), ρ = [some (.ref j), some (.int wi), some (roomd fs), some (rowd ws), some (rowd us), o, some (roomd gs), o1, o2, o3] ∧ Fr j S S') ?_ ?_ ?_ _ _ _
      ⟨none, none, none, rfl, fr7'⟩
    · intro ys ρ S' _; exact gd_nil
    · rintro ρ S8 ⟨o1, o2, o3, rfl, f8⟩
      simp only [x_sRet, x_eCon, wp_bind, wp_pure, K0_rt]
      exact ⟨trivial, f8⟩
    · rintro y ys ρ S8 ⟨o1, o2, o3, rfl, f8⟩ K' hn _ _ _
      have e7 : biM .len [rowd ws] = pure (.int (m : Nat)) := by
        show pure (D.int ((ws.map qd).length : Nat)) = _
        rw [List.length_map, hbw]
      rw [wp_gName]
      refine ⟨by simp, ?_⟩
      rw [x_sSeq, x_sAsg]
      simp only [x_eBi, x_eCall, x_lCons, x_lNil, x_eVar, x_eCon, wp_bind, wp_pure, var_0, var_s, List.set_cons_succ, List.set_cons_zero, e7]
      refine (s_dip (n + 7) j m S8 f8.jar (by omega) (by omega)).mono ?_
      rintro v S9 ⟨⟨at0, rfl, a0, a1⟩, fr9⟩
      obtain ⟨a, rfl⟩ := Int.eq_ofNat_of_zero_le a0
      rw [wp_gName]
      refine ⟨by simp, ?_⟩
      have sr2 : ∀ lo hi, slM (rowd ws) lo hi = pure (.tup (cutD (ws.map qd) lo hi)) := fun _ _ => rfl
      have c3 : cutD (ws.map qd) none (some (a : Int)) = (ws.take a).map qd := by rw [cut_to, List.map_take]
      have c4 : cutD (ws.map qd) (some ((a : Int) + 1)) none = (ws.drop (a + 1)).map qd := by
        rw [show ((a : Int) + 1) = ((a + 1 : Nat) : Int) from rfl, cut_from, List.map_drop]
      obtain ⟨cs, c5, c6⟩ := cut_row ws none (some (-1))
      have rv : revM (rowd ws) = pure (rowd ws.reverse) := by
        show pure (D.tup (ws.map qd).reverse) = _
        rw [← List.map_reverse]; rfl
      have bl : biM .list [rowd ws] = lstM (ws.map qd) := rfl
      have e8 := cond_rep m (by omega)
      have k4 := fun S => s_scaled (n + 5) (-1) ws S (ha := ok_m1) (hx := wok) (hl := by omega)
      rw [x_sSeq, x_sAsg]
      simp only [x_eBi, x_eCall, x_eLst, x_eBin, x_eSl, x_eTup, x_eRev, x_eNeg, x_oNone, x_oSome, x_lCons, x_lNil, x_eVar, x_eCon, wp_bind, wp_pure, var_0, var_s, List.set_cons_succ, List.set_cons_zero, e7, int_int, sr2, c3, b_add, c4, b_neg, c5, rv, e8, bl]
      refine (s_drawn_number (n + 5) j S9 fr9.jar).mono ?_
      rintro v S10 ⟨⟨r, rfl, hr⟩, fr10⟩
      have f10 := (f8.trans fr9).trans fr10
      have a1' : a < m := by omega
      simp only [wp_tupM, b_addT, wp_bind, wp_pure, qd_m1, k4, wp_ok, wp_lstM, show binM .add (rowd ws) (D.tup [D.tup [.int 0, .int 1]]) = tupM (ws.map qd ++ [qd 0]) from rfl, e8]
      refine ⟨le_line (by simp), le_line (by simp; omega), le_line (by simp; omega), le_line (by simp), le_line (by simp), le_line (by simp; omega), le_line (by simp), le_line (by simp), le_line (by simp), le_line (by simp; omega), ?_⟩
      have fA : Fr j S (S10 ++ [Ob.lst (ws.map qd)]) := fr_end f10 _
      refine (s_bent (n + 3) j 2 (rowd ws) _ (by decide) (pl_row (by omega)) fA.jar).mono ?_
      rintro v S11 ⟨⟨hb, hvk⟩, fr11⟩
      have fB := fA.trans fr11
      refine ⟨le_line (by simp), ?_⟩
      have hlist : VOk S11 (.ref S10.length) := There.fr (S := S10 ++ [Ob.lst (ws.map qd)]) (.inl ⟨_, get_end⟩) fr11
      have hz300 : Z 39 300 r := hr.mono (by decide) (by decide)
      have hall : ∀ d ∈ [D.tup ((ws.take a).map qd ++ [qd r] ++ (ws.drop (a + 1)).map qd), D.tup (cs.map qd), D.tup (ws.map qd ++ [qd 0]), rowd ws.reverse, rowd (ws.map (-1 * ·)), rowd (List.replicate m 0), .ref S10.length, v, .non], Gd S11 d := by
        intro d hd
        simp only [List.mem_cons, List.not_mem_nil, or_false] at hd
        rcases hd with rfl | rfl | rfl | rfl | rfl | rfl | rfl | rfl | rfl
        · rw [show D.tup ((ws.take a).map qd ++ [qd r] ++ (ws.drop (a + 1)).map qd) = rowd (ws.take a ++ r :: ws.drop (a + 1)) by unfold rowd; simp]
          refine gd_row fun x hx => ?_
          rcases List.mem_append.mp hx with q | q
          · exact hws x (List.mem_of_mem_take q)
          · rcases List.mem_cons.mp q with rfl | q
            · exact hz300
            · exact hws x (List.mem_of_mem_drop q)
        · exact gd_row fun x hx => hws x (c6 x hx)
        · rw [show D.tup (ws.map qd ++ [qd 0]) = rowd (ws ++ [0]) by unfold rowd; simp]
          refine gd_row fun x hx => ?_
          rcases List.mem_append.mp hx with q | q
          · exact hws x q
          · rw [List.mem_singleton.mp q]; exact Z0 _ _
        · exact gd_row fun x hx => hws x (List.mem_reverse.mp hx)
        · refine gd_row fun x hx => ?_
          obtain ⟨u, hu, rfl⟩ := List.mem_map.mp hx
          rw [show -1 * u = -u by grind]
          exact (hws u hu).neg
        · exact gd_row fun x hx => by rw [List.eq_of_mem_replicate hx]; exact Z0 _ _
        · exact ⟨hlist, fun ys e => by cases e⟩
        · exact ⟨hvk, bt_row (by decide) hws hb⟩
        · exact ⟨trivial, fun ys e => by cases e⟩
      refine (one_new (n + 6) j _ S11 fB.jar (by simp) (by simp)).mono ?_
      rintro d S12 ⟨hd, fr12⟩
      obtain ⟨g1, g2⟩ := hall d hd
      obtain ⟨b, b1, b2⟩ := bar_same n w fs d S12 rb (vok_fr fr12 g1) g2
      rw [← hwi] at b1 b2
      rw [wp_gName]
      refine ⟨by simp, ?_⟩
      simp only [x_sIf, x_tCmp, x_eCall, x_lCons, x_lNil, x_eVar, wp_bind, wp_pure, var_0, var_s, List.set_cons_succ, List.set_cons_zero, b1, b2, wp_ok, c_ne, eq_bl, decide_true, Bool.not_true, wp_ite, x_sPass]
      exact ⟨(fun e => by cases e), fun _ => hn _ _ ⟨_, _, _, rfl, fB.trans fr12⟩⟩
  · rintro y ys ρ S4 ⟨r, o, hr, rfl, hg, fr⟩ K' hn _ _ _
    cases r with
    | nil => simp at hr
    | cons zs r =>
      simp only [List.map_cons, List.cons.injEq] at hr
      obtain ⟨rfl, rfl⟩ := hr
      obtain ⟨g1, g2, g3⟩ := hg zs List.mem_cons_self
      rw [wp_gName]
      refine ⟨by simp, ?_⟩
      simp only [x_sIf, x_tCmp, x_eCall, x_lCons, x_lNil, x_eVar, x_eCon, wp_bind, wp_pure, var_0, var_s, List.set_cons_succ, List.set_cons_zero, yes zs _ g1 g2 g3, wp_ok, c_isnot, is_bl, wp_ite, x_sPass]
      refine ⟨(fun e => by cases e), fun _ => ?_⟩
      exact hn _ _ ⟨r, _, rfl, rfl, fun q hq => hg q (List.mem_cons_of_mem _ hq), fr⟩
  · intro zs hz
    simp only [List.mem_cons, List.not_mem_nil, or_false] at hz
    rcases hz with rfl | rfl | rfl
    · exact ⟨B.bar, B.lw, fun x hx => (B.w x hx).mono (by decide) (by decide)⟩
    · exact ⟨bu, ul, fun x hx => (uz x hx).mono (by decide) (by decide)⟩
    · exact ⟨bs, sl, sz⟩
end K06

set_option Elab.async false
set_option linter.all false
set_option maxRecDepth 100000
set_option maxHeartbeats 400000
namespace K06
open PySem PySem.Spec Pin
/-! ### fences right -/
theorem opp_opp (f : Fen) : oppF (oppF f) = f := by
  obtain ⟨r, b, s⟩ := f
  unfold oppF
  simp [Rat.neg_neg, Function.comp_def]
theorem dot_neg : ∀ (xs ys : List Rat), dot (xs.map fun x => -x) ys = -dot xs ys
  | [], _ => by show (0 : Rat) = -0; decide
  | x :: xs, [] => by show (0 : Rat) = -0; decide
  | x :: xs, y :: ys => by rw [List.map_cons, dot_cons, dot_cons, dot_neg xs ys]; grind
theorem keep_opp (f : Fen) (xs : List Rat) : keepF (oppF f) xs = !keepF f xs := by
  unfold keepF oppF
  simp only [dot_neg]
  have e1 : decide (-f.b < -dot f.row xs) = decide (dot f.row xs < f.b) := by congr 1; grind
  have e2 : decide (-dot f.row xs = -f.b) = decide (dot f.row xs = f.b) := by congr 1; grind
  rw [e1, e2]
  by_cases k1 : f.b < dot f.row xs
  · have q1 : ¬ dot f.row xs < f.b := by grind
    have q2 : ¬ dot f.row xs = f.b := by grind
    simp [k1, q1, q2]
  · by_cases k2 : dot f.row xs = f.b
    · have q1 : ¬ dot f.row xs < f.b := by grind
      simp [k1, k2, q1]
    · have q1 : dot f.row xs < f.b := by grind
      simp [k1, k2, q1]
theorem all0_neg (xs : List Rat) : all0 (xs.map fun x => -x) = all0 xs := by
  unfold all0
  rw [List.all_map]
  congr 1; funext x
  show decide (-x = 0) = decide (x = 0)
  congr 1; grind
theorem none_is (f : Fen) : forAll (oppF f) = (all0 f.row && !truthF f) := by
  rw [forAll_truth]
  unfold oppF truthF
  simp only [all0_neg]
  have e1 : decide (-f.b < 0) = decide (0 < f.b) := by congr 1; grind
  have e2 : decide (-f.b = 0) = decide (f.b = 0) := by congr 1; grind
  rw [e1, e2]
  by_cases k1 : f.b < 0
  · have q1 : ¬ 0 < f.b := by grind
    have q2 : ¬ f.b = 0 := by grind
    simp [k1, q1, q2]
  · by_cases k2 : f.b = 0
    · have q1 : ¬ 0 < f.b := by grind
      simp [k1, k2, q1]
    · have q1 : 0 < f.b := by grind
      simp [k1, k2, q1]
theorem FB.opp {f : Fen} (h : FB f) : FB (oppF f) := ⟨fun x hx => by
  obtain ⟨u, hu, rfl⟩ := List.mem_map.mp hx
  exact (h.row u hu).neg, h.b.neg⟩
theorem opp_len (f : Fen) : (oppF f).row.length = f.row.length := by unfold oppF; simp
/-- one of the fences that are looked at -/
structure FW (w : Nat) (f : Fen) : Prop where
  fb : FB f
  len : f.row.length = w
theorem Z_of (a b : Int) (h : Int.gcd a b = 1) (hb : 0 < b) (hd : b.natAbs ∣ LL ^ 1) (ha : a.natAbs < 2 ^ 4) : ∃ r, D.tup [.int a, .int b] = qd r ∧ Z 1 4 r := by
  refine ⟨Rat.divInt a b, ?_, Z_divInt hb hd ha⟩
  obtain ⟨q1, q2⟩ := divInt_pos a b hb
  unfold qd
  rw [q1, q2, h]; simp
theorem s_fences_right (n j w : Nat) (wi : Int) (f : Fen) (pt : List Rat) (S : Store) (hJ : JarOK S j) (hwi : wi = w) (hw : w ≤ 40) (hf : About w pt f) (ptl : pt.length = w) (ptb : PB pt) :
    WP (callF P (n + 9) f__law_fences_right [.ref j, .int wi, fend f, rowd pt] S) fun v S' => v = .bl true ∧ Fr j S S' := by
  refine call_jar P__law_fences_right rfl hJ ?_
  have fw : FW w f := ⟨hf.fb, hf.len⟩
  have ow : FW w (oppF f) := ⟨hf.fb.opp, by rw [opp_len, hf.len]⟩
  rw [show startE 11 [D.ref j, .int wi, fend f, rowd pt] = [some (D.ref j), some (.int wi), some (fend f), some (rowd pt), none, none, none, none, none, none, none] from rfl]
  have lenI : ∀ {g : Fen}, FW w g → (g.row.length : Int) = wi := fun h => by rw [h.len, hwi]
  have k1 := fun S => s_lopposite (n + 4) f S fw.fb (by rw [fw.len]; omega)
  have k2 := fun S => s_opposite_rooms (n + 1) wi f S (by omega) (by omega) (lenI fw) fw.fb
  have k3 := fun S => s_opposite_rooms (n + 1) wi (oppF f) S (by omega) (by omega) (lenI ow) ow.fb
  have k4 := fun S => s_keeps (n + 1) wi f pt S (by omega) (by omega) (lenI fw) (by omega) fw.fb ptb
  have k5 := fun S => s_keeps (n + 1) wi (oppF f) pt S (by omega) (by omega) (lenI ow) (by omega) ow.fb ptb
  rw [opp_opp] at k3
  rw [keep_opp] at k5
  have sm1 : ∀ g, sameF g g = true := fun g => (same_iff g g).mpr rfl
  simp only [sm__law_fences_right]
  rw [x_sSeq, x_sAsg]
  simp only [x_eCall, x_lCons, x_lNil, x_eVar, wp_bind, wp_pure, var_0, var_s, k1, wp_ok, wp_gName]
  refine ⟨by simp, ?_⟩
  rw [x_sSeq, x_sIf]
  simp only [x_tOr, x_tCmp, x_eCall, x_lCons, x_lNil, x_eVar, wp_bind, wp_pure, var_0, var_s, List.set_cons_succ, List.set_cons_zero, k2, k3, k4, k5, wp_ok, c_ne, c_eq, eq_fen, sm1, Bool.not_true, wp_ite, eq_bl]
  refine ⟨(fun e => by cases e), fun _ => ⟨(fun e => by cases e), fun _ => ⟨fun e => ?_, fun _ => ?_⟩⟩⟩
  · exact absurd (of_decide_eq_true e) (by cases keepF f pt <;> decide)
  rw [x_sPass]
  simp only
  rw [x_sSeq, x_sAsg]
  simp only [x_eCall, x_lCons, x_lNil, x_eVar, wp_bind, wp_pure, var_0, var_s]
  refine (s_some_times (n + 6) j S hJ).mono ?_
  rintro v S1 ⟨⟨t, rfl, t0, tz⟩, fr1⟩
  rw [wp_gName]
  refine ⟨by simp, ?_⟩
  have tok : Ok t := tz.ok (by decide) (by decide)
  have k6 := fun S => s_scaled (n + 5) t f.row S (ha := tok) (hx := fw.fb.rok) (hl := by rw [fw.len]; omega)
  have k7 := fun S => s_times (n + 6) t f.b S (hx := tok) (hy := fw.fb.bok)
  have k8 := fun S => s_times_fence (n + 2) wi t f S (by omega) (by omega) (lenI fw) fw.fb t0 tok
  have mw : FW w (mulF t f) := ⟨⟨fun x hx => by
    obtain ⟨u, hu, rfl⟩ := List.mem_map.mp hx
    exact (tz.mul (hf.row u hu)).mono (by decide) (by decide), (tz.mul hf.b).mono (by decide) (by decide)⟩, by
    show (f.row.map _).length = w
    rw [List.length_map, fw.len]⟩
  rw [x_sSeq, x_sAsg]
  simp only [x_eTup, x_eCall, x_eIx, x_eCon, x_lCons, x_lNil, x_eVar, wp_bind, wp_pure, var_0, var_s, List.set_cons_succ, List.set_cons_zero, fx_0 rfl, fx_1 rfl, fx_2 rfl, k6, k7, wp_ok, wp_tupM, wp_gName]
  refine ⟨le_line (by simp), by simp, ?_⟩
  rw [show D.tup [rowd (f.row.map fun x => t * x), qd (t * f.b), D.bl f.s] = fend (mulF t f) from rfl]
  rw [x_sSeq, x_sIf]
  simp only [x_tCmp, x_eCall, x_lCons, x_lNil, x_eVar, wp_bind, wp_pure, var_0, var_s, List.set_cons_succ, List.set_cons_zero, k8, wp_ok, c_ne, eq_fen, sm1, Bool.not_true, wp_ite, x_sPass]
  refine ⟨(fun e => by cases e), fun _ => ?_⟩
  -- a rest row's fence
  have e4 := cond_rep w (by omega)
  rw [← hwi] at e4
  rw [x_sSeq, x_sAsg]
  simp only [x_eTup, x_eBin, x_eCmp, x_eLst, x_eNeg, x_eCall, x_eIx, x_eCon, x_lCons, x_lNil, x_eVar, wp_bind, wp_pure, var_0, var_s, List.set_cons_succ, List.set_cons_zero, wp_tupM, b_neg, wp_lstM, e4]
  refine ⟨len2l, le_line (by simp), len2l, len2l, len2l, le_line (by simp), ?_⟩
  refine (one_new (n + 6) j _ S1 fr1.jar (by simp) (by simp)).mono ?_
  rintro v S2 ⟨hv, fr2⟩
  obtain ⟨rb, rfl, rz⟩ : ∃ r, v = qd r ∧ Z 1 4 r := by
    simp only [List.mem_cons, List.not_mem_nil, or_false] at hv
    rcases hv with rfl | rfl | rfl
    · exact ⟨0, rfl, Z0 _ _⟩
    · exact Z_of 1 2 (by decide) (by decide) (by decide) (by decide)
    · exact Z_of (-1) 3 (by decide) (by decide) (by decide) (by decide)
  refine (s_dip (n + 7) j 2 S2 fr2.jar (by decide) (by decide)).mono ?_
  rintro v S3 ⟨⟨c, rfl, _, _⟩, fr3⟩
  simp only [c_eq, eq_int, wp_pure, wp_gName]
  refine ⟨le_line (by simp), by simp, ?_⟩
  obtain ⟨g, hg⟩ : ∃ g : Fen, g = ⟨List.replicate w 0, rb, decide (c = 0)⟩ := ⟨_, rfl⟩
  rw [show D.tup [rowd (List.replicate w 0), qd rb, D.bl (decide (c = 0))] = fend g by rw [hg]; rfl]
  have gw : FW w g := by
    rw [hg]
    exact ⟨⟨fun x hx => by rw [List.eq_of_mem_replicate hx]; exact Z0 _ _, rz.mono (by decide) (by decide)⟩, by simp⟩
  obtain ⟨q7, e7, z7⟩ := Z_of 1 7 (by decide) (by decide) (by decide) (by decide)
  have k9 := fun S => s_plus (n + 6) f.b q7 S (hx := fw.fb.bok) (hy := z7.ok (by decide) (by decide))
  have sl2 : slM (fend f) none (some 2) = pure (.tup [rowd f.row, qd f.b]) := by
    show pure (D.tup (cutD [rowd f.row, qd f.b, .bl f.s] none (some ((2 : Nat) : Int)))) = _
    rw [cut_to]; rfl
  have nw : FW w ⟨f.row, f.b, !f.s⟩ := ⟨⟨fw.fb.row, fw.fb.b⟩, fw.len⟩
  have pw : FW w ⟨f.row, f.b + q7, f.s⟩ := ⟨⟨fw.fb.row, ((hf.b.add (z7.mono (m := 2) (f := 7000) (by decide) (by decide)) LLpos LLlt).mono (by decide) (by decide))⟩, fw.len⟩
  rw [x_sSeq, x_sFor]
  simp only [x_iSeq, x_eTup, x_eBin, x_eSl, x_oNone, x_oSome, x_eNot, x_eIx, x_eCon, x_eCall, x_lCons, x_lNil, x_eVar, wp_bind, wp_pure, var_0, var_s, List.set_cons_succ, List.set_cons_zero, int_int, sl2, fx_0 rfl, fx_1 rfl, fx_2 rfl, t_bl, wp_tupM, b_addT, e7, k9, wp_ok, walk_tup]
  refine ⟨le_line (by simp), le_line (by simp), le_line (by simp), le_line (by simp), le_line (by simp), ?_⟩
  have fr3' := (fr1.trans fr2).trans fr3
  refine wp_for (fun ys ρ S' => ∃ (r : List Fen) (o1 o2 : Option D), ys = r.map fend ∧ ρ = [some (.ref j), some (.int wi), some (fend f), some (rowd pt), some (fend (oppF f)), some (qd t), some (fend (mulF t f)), some (fend g), o1, o2, none] ∧ (∀ h ∈ r, FW w h) ∧ Fr j S S') ?_ ?_ ?_ _ _ _
    ⟨[mulF t f, oppF f, f, g, ⟨f.row, f.b, !f.s⟩, ⟨f.row, f.b + q7, f.s⟩], none, none, rfl, rfl, ?_, fr3'⟩
  · intro ys ρ S' _; exact gd_nil
  · rintro ρ S4 ⟨r, o1, o2, _, rfl, _, fr⟩
    simp only [x_sRet, x_eCon, wp_bind, wp_pure, K0_rt]
    exact ⟨trivial, fr⟩
  · rintro y ys ρ S4 ⟨r, o1, o2, hr, rfl, hg', fr⟩ K' hn _ _ _
    cases r with
    | nil => simp at hr
    | cons h r =>
      simp only [List.map_cons, List.cons.injEq] at hr
      obtain ⟨rfl, rfl⟩ := hr
      have hw' := hg' h List.mem_cons_self
      have a1 := fun S => s_are_alike (n + 1) w f h S hw fw.fb hw'.fb fw.len hw'.len
      have a2 := fun S => s_lalike (n + 3) w f h S hw fw.fb hw'.fb fw.len hw'.len
      have a3 := fun S => s_are_alike (n + 1) w g h S hw gw.fb hw'.fb gw.len hw'.len
      have a4 := fun S => s_lalike (n + 3) w g h S hw gw.fb hw'.fb gw.len hw'.len
      have a5 := fun S => s_is_for_all (n + 1) wi h S (by omega) (by omega) (lenI hw')
      have a6 := fun S => s_is_for_none (n + 1) wi h S (by omega) (by omega) (lenI hw') hw'.fb
      have a7 := fun S => s_ltruth (n + 6) h S (hf := hw'.fb)
      rw [forAll_truth] at a5
      rw [none_is] at a6
      rw [← hwi] at a1 a3
      have key := fun (S : Store) => lcL_filter (gd := []) (g := Pin.gName 10) (t := Pin.tCmp .ne (eIx (eVar 10) (eCon (.int 0))) (eCon (.int 0))) (e := eVar 10) (c := callF P (n + 8)) (ρ := [some (.ref j), some (.int wi), some (fend f), some (rowd pt), some (fend (oppF f)), some (qd t), some (fend (mulF t f)), some (fend g), some (fend h), o2, none]) (S := S)
        qd (fun a => !decide (a = 0)) qd gd_nil h.row fun a _ => by
          simp [Rat.num_eq_zero]
      have wr : walkD (rowd h.row) = pure ⟨[], h.row.map qd⟩ := rfl
      have e3 : ((h.row.filter fun a => !decide (a = 0)).map qd).isEmpty = all0 h.row := by
        rw [List.isEmpty_map, filter_ne]
        unfold all0
        congr 1; funext a; simp
      have hle : ((h.row.filter fun a => !decide (a = 0)).map qd).length ≤ sizeLine := by
        rw [List.length_map]
        exact le_line (Nat.le_trans (List.length_filter_le _ _) (by rw [hw'.len]; omega))
      rw [wp_gName]
      refine ⟨by simp, ?_⟩
      rw [x_sSeq, x_sIf]
      simp only [x_tOr, x_tCmp, x_eCall, x_lCons, x_lNil, x_eVar, wp_bind, wp_pure, var_0, var_s, List.set_cons_succ, List.set_cons_zero, a1, a2, a3, a4, wp_ok, c_ne, eq_bl, decide_true, Bool.not_true, wp_ite, x_sPass]
      refine ⟨(fun e => by cases e), fun _ => ⟨(fun e => by cases e), fun _ => ?_⟩⟩
      rw [x_sSeq, x_sAsg]
      simp only [x_eCmp, x_eLc, x_cLc, x_iSeq, x_eIx, x_eCon, x_eLst, x_lNil, x_eVar, wp_bind, wp_pure, var_0, var_s, wipeE, List.set_cons_succ, List.set_cons_zero, fx_0 rfl, wr, key, wp_ok, wp_fits, wp_newO, wp_lstM, c_eq]
      refine ⟨hle, Nat.zero_le _, ?_⟩
      generalize hL : ((h.row.filter fun a => !decide (a = 0)).map qd) = L
      rw [hL] at e3
      rw [eq_nil (get_old get_end) (by simp), wp_ok, e3, wp_gName]
      refine ⟨by simp, ?_⟩
      have fr5 : Fr j S (S4 ++ [Ob.lst L] ++ [Ob.lst []]) := fr_end (fr_end fr _) _
      generalize S4 ++ [Ob.lst L] ++ [Ob.lst []] = S5 at fr5
      have fin : WP (K'.nx [some (.ref j), some (.int wi), some (fend f), some (rowd pt), some (fend (oppF f)), some (qd t), some (fend (mulF t f)), some (fend g), some (fend h), some (.bl (all0 h.row)), none] S5) fun v S' => v = D.bl true ∧ Fr j S S' :=
        hn _ _ ⟨r, _, _, rfl, rfl, fun q hq => hg' q (List.mem_cons_of_mem _ hq), fr5⟩
      rw [x_sSeq, x_sIf]
      simp only [x_tCmp, x_eCall, x_eAnd, x_eNot, x_lCons, x_lNil, x_eVar, wp_bind, wp_pure, var_0, var_s, List.set_cons_succ, List.set_cons_zero, a5, a6, a7, wp_ok, c_ne, t_bl, wp_ite, x_sPass, x_sIf]
      cases h0 : all0 h.row with
      | true =>
        rw [h0] at fin
        simp only [Bool.true_and, eq_bl, wp_pure, decide_true, Bool.not_true]
        exact ⟨fun _ => ⟨(fun e => by cases e), fun _ => ⟨fun _ => ⟨(fun e => by cases e), fun _ => fin⟩, fun e => absurd trivial e⟩⟩, fun e => absurd trivial e⟩
      | false =>
        rw [h0] at fin
        simp only [Bool.false_and, eq_bl, wp_pure, decide_true, Bool.not_true]
        exact ⟨(fun e => by cases e), fun _ => ⟨(fun e => by cases e), fun _ => ⟨(fun e => by cases e), fun _ => ⟨(fun e => by cases e), fun _ => fin⟩⟩⟩⟩
  · intro h hh
    simp only [List.mem_cons, List.not_mem_nil, or_false] at hh
    rcases hh with rfl | rfl | rfl | rfl | rfl | rfl
    · exact mw
    · exact ow
    · exact fw
    · exact gw
    · exact nw
    · exact pw
end K06

set_option Elab.async false
set_option linter.all false
set_option maxRecDepth 100000
set_option maxHeartbeats 400000
namespace K06
open PySem PySem.Spec Pin
/-! ### the whole -/
theorem rep_fence (q : Nat) (f : Fen) (h : q ≤ 1000) : binM .mul (D.tup [fend f]) (.int (q : Int)) = pure (roomd (List.replicate q f)) := by
  have c1 : (decide ((q : Int) ≤ 1000) && decide (-(2 ^ 62) ≤ (q : Int)) && decide ([fend f].length ≤ 1000)) = true := by
    rw [decide_eq_true (by omega), decide_eq_true (by omega)]; rfl
  have c2 : repD [fend f] (q : Int) = (List.replicate q f).map fend := by
    unfold repD
    rw [Int.toNat_natCast]
    clear c1 h
    induction q with
    | zero => rfl
    | succ q ih => rw [List.replicate_succ, List.replicate_succ, List.flatten_cons, List.map_cons, ih]; rfl
  rw [b_mulT, c1, Pin.cond_true, c2]; rfl
theorem isRoom_long {w : Int} {fs : List Fen} (h : 80 < fs.length) : isRoom w (roomd fs) = false := by
  show (decide ((fs.map fend).length ≤ 80) && (fs.map fend).all (isFen w)) = false
  rw [List.length_map, decide_eq_false (by omega)]; rfl
theorem s_right (n j : Nat) (S : Store) (hJ : JarOK S j) : WP (callF P (n + 10) f__law_right [.ref j] S) fun v S' => v = .bl true ∧ Fr j S S' := by
  refine call_jar P__law_right rfl hJ ?_
  rw [show startE 7 [D.ref j] = [some (D.ref j), none, none, none, none, none, none] from rfl]
  simp only [sm__law_right]
  rw [x_sSeq, x_sAsg]
  simp only [x_eCall, x_lCons, x_lNil, x_eVar, wp_bind, wp_pure, var_0, var_s]
  refine (s_size (n + 6) j S hJ).mono ?_
  rintro v S1 ⟨⟨w, rfl, hw⟩, fr1⟩
  obtain ⟨wi, hwi⟩ : ∃ wi : Int, wi = w := ⟨_, rfl⟩
  rw [← hwi, wp_gName]
  refine ⟨by simp, ?_⟩
  rw [x_sSeq, x_sAsg]
  simp only [x_eCall, x_lCons, x_lNil, x_eVar, x_eCon, wp_bind, wp_pure, var_0, var_s, List.set_cons_succ, List.set_cons_zero]
  refine (s_drawn_row (n + 5) j w wi 3 S1 fr1.jar (by omega) (by omega) (by omega)).mono ?_
  rintro v S2 ⟨⟨pt, rfl, ptl, ptb⟩, fr2⟩
  rw [wp_gName]
  refine ⟨by simp, ?_⟩
  rw [x_sSeq, x_sAsg]
  have hif : ∀ (r : List (Option D)) (S : Store) (Q : D → Store → Prop), (∀ k : Int, 0 ≤ k → k ≤ 80 → Q (.int k) S) → WP (eIf (Pin.tCmp .lt (eVar 1) (eCon (.int 9))) (eCon (.int 80)) (eCon (.int 12)) (callF P (n + 9)) (some (D.ref j) :: some (.int wi) :: r) S) Q := by
    intro r S Q h
    simp only [x_eIf, x_tCmp, x_eVar, x_eCon, wp_bind, wp_pure, var_0, var_s, c_lt, wp_ite]
    exact ⟨fun _ => h 80 (by decide) (by decide), fun _ => h 12 (by decide) (by decide)⟩
  simp only [x_eCall, x_lCons, x_lNil, x_eVar, x_eCon, x_eLst, wp_bind, wp_pure, var_0, var_s, List.set_cons_succ, List.set_cons_zero]
  refine hif _ _ _ fun k k0 k1 => ?_
  rw [wp_lstM]
  refine ⟨le_line (by simp), ?_⟩
  refine (one_new (n + 7) j _ S2 fr2.jar (by simp) (by simp)).mono ?_
  rintro v S3 ⟨hv, fr3⟩
  obtain ⟨mi, rfl, m0, m1⟩ : ∃ mi : Int, v = .int mi ∧ 0 ≤ mi ∧ mi ≤ 80 := by
    simp only [List.mem_cons, List.not_mem_nil, or_false] at hv
    rcases hv with rfl | rfl | rfl | rfl | rfl | rfl <;> refine ⟨_, rfl, ?_, ?_⟩ <;> omega
  refine (s_room_about (n + 4) j w mi.toNat wi mi pt S3 fr3.jar (by omega) (by omega) hw rfl m0 (by omega) ptb).mono ?_
  rintro v S4 ⟨⟨fs, rfl, fl, fa⟩, fr4⟩
  rw [wp_gName]
  refine ⟨by simp, ?_⟩
  rw [x_sSeq, x_sIf]
  simp only [x_tOr, x_tNot, x_tVal, x_eCall, x_lCons, x_lNil, x_eVar, wp_bind, wp_pure, var_0, var_s, List.set_cons_succ, List.set_cons_zero]
  refine (s_room_right n j w wi pt fs S4 fr4.jar hwi hw (by omega) ptl ptb fa).mono ?_
  rintro v S5 ⟨rfl, fr5⟩
  simp only [t_bl, wp_pure, Bool.not_true, wp_ite, wp_bind]
  refine ⟨(fun e => by cases e), fun _ => ?_⟩
  refine (s_bars_right n j w wi S5 fr5.jar hwi hw).mono ?_
  rintro v S6 ⟨rfl, fr6⟩
  simp only [t_bl, wp_pure, Bool.not_true, x_sPass]
  refine ⟨(fun e => by cases e), fun _ => ?_⟩
  rw [x_sSeq, x_sAsg]
  simp only [x_eIx, x_eCall, x_lCons, x_lNil, x_eVar, x_eCon, wp_bind, wp_pure, var_0, var_s]
  refine (s_room_about (n + 4) j w 1 wi 1 pt S6 fr6.jar (by omega) (by omega) hw rfl (by decide) (by decide) ptb).mono ?_
  rintro v S7 ⟨⟨gs, rfl, gl, ga⟩, fr7⟩
  obtain ⟨f, rfl⟩ := List.length_eq_one_iff.mp gl
  have hf := ga f List.mem_cons_self
  rw [show ixM (roomd [f]) (.int 0) = pure (fend f) from rfl, wp_pure, wp_gName]
  refine ⟨by simp, ?_⟩
  rw [x_sSeq, x_sIf]
  simp only [x_tNot, x_tVal, x_eCall, x_lCons, x_lNil, x_eVar, wp_bind, wp_pure, var_0, var_s, List.set_cons_succ, List.set_cons_zero]
  refine (s_fences_right n j w wi f pt S7 fr7.jar hwi hw hf ptl ptb).mono ?_
  rintro v S8 ⟨rfl, fr8⟩
  simp only [t_bl, wp_pure, Bool.not_true, wp_ite, x_sPass]
  refine ⟨(fun e => by cases e), fun _ => ?_⟩
  have r10 : rngOk 10 = true := by decide
  have frA := ((((((fr1.trans fr2).trans fr3).trans fr4).trans fr5).trans fr6).trans fr7).trans fr8
  have flen : (f.row.length : Int) = wi := by rw [hf.len, hwi]
  rw [x_sSeq, x_sFor]
  simp only [x_iRng1, x_eCon, wp_bind, wp_pure, int_int, r10, Pin.cond_true]
  refine wp_for (fun ys ρ S' => ∃ (o1 o2 : Option D), ρ = [some (.ref j), some (.int wi), some (rowd pt), some (roomd fs), some (fend f), o1, o2] ∧ Fr j S S') ?_ ?_ ?_ _ _ _
    ⟨none, none, rfl, frA⟩
  · intro ys ρ S' _; exact gd_nil
  · rintro ρ S9 ⟨o1, o2, rfl, fr⟩
    have e1 := rep_fence 80 f (by decide)
    have e2 := rep_fence 81 f (by decide)
    have k1 := fun S => s_is_room (n + 3) wi (roomd (List.replicate 80 f)) S (vok_room _ _) (by omega) (by omega)
    have k2 := fun S => s_is_room (n + 3) wi (roomd (List.replicate 81 f)) S (vok_room _ _) (by omega) (by omega)
    rw [isRoom_room (by simp) (fun g hg => by rw [List.eq_of_mem_replicate hg]; exact flen)] at k1
    rw [isRoom_long (by simp)] at k2
    rw [show ((80 : Nat) : Int) = 80 from rfl] at e1
    rw [show ((81 : Nat) : Int) = 81 from rfl] at e2
    simp only [x_sRet, x_eAnd, x_eCmp, x_eBin, x_eTup, x_eCall, x_lCons, x_lNil, x_eVar, x_eCon, wp_bind, wp_pure, var_0, var_s, wp_tupM, e1, e2, k1, k2, wp_ok, c_is, is_bl, t_bl, wp_ite, K0_rt]
    refine ⟨le_line (by simp), fun _ => ⟨le_line (by simp), by simp, fr⟩, fun e => absurd rfl e⟩
  · rintro y ys ρ S9 ⟨o1, o2, rfl, fr⟩ K' hn _ _ _
    rw [wp_gName]
    refine ⟨by simp, ?_⟩
    rw [x_sSeq, x_sAsg]
    simp only [x_eCall, x_lCons, x_lNil, x_eVar, wp_bind, wp_pure, var_0, var_s, List.set_cons_succ, List.set_cons_zero]
    refine (s_bent (n + 3) j 3 (fend f) S9 (by decide) (pl_fen (by rw [hf.len]; omega)) fr.jar).mono ?_
    rintro d S10 ⟨⟨hb, hvk⟩, fr10⟩
    have k1 := s_is_fence (n + 4) wi d S10 hvk (by omega) (by omega)
    have k2 := s_lis_fence (n + 5) wi d S10 hvk (by omega) (bt_fen hf.fb hb)
    have k3 := fun (h : wi > 0) => s_is_fence (n + 4) (wi - 1) (fend f) S10 (vok_fen _ _) (by omega) (by omega)
    rw [wp_gName]
    refine ⟨by simp, ?_⟩
    rw [x_sSeq, x_sIf]
    simp only [x_tOr, x_tAnd, x_tCmp, x_eBin, x_eCall, x_eCon, x_lCons, x_lNil, x_eVar, wp_bind, wp_pure, var_0, var_s, List.set_cons_succ, List.set_cons_zero, k1, k2, wp_ok, c_ne, eq_bl, decide_true, Bool.not_true, wp_ite, c_gt, b_sub, x_sPass]
    have fr11 := fr.trans fr10
    have rest : WP ((sSeq (sAsg (eCall f__law_bent (lCons (eVar 0) (lCons (eSl (eVar 3) oNone (oSome (eCon (.int 4)))) lNil))) (Pin.gName 6)) (sIf (Pin.tCmp .ne (eCall f_is_room (lCons (eVar 1) (lCons (eVar 6) lNil))) (eCall f__law_is_room (lCons (eVar 1) (lCons (eVar 6) (lCons (eCon (.int 80)) lNil))))) (sRet (eCon (.bl false))) sPass)) (callF P (n + 9))
        [some (.ref j), some (.int wi), some (rowd pt), some (roomd fs), some (fend f), some y, some d] K' S10) fun v S' => v = .bl true ∧ Fr j S S' := by
      have sl4 : slM (roomd fs) none (some 4) = pure (roomd (fs.take 4)) := by
        show pure (D.tup (cutD (fs.map fend) none (some ((4 : Nat) : Int)))) = _
        rw [cut_to, ← List.map_take]; rfl
      rw [x_sSeq, x_sAsg]
      simp only [x_eSl, x_oNone, x_oSome, x_eCon, x_eCall, x_lCons, x_lNil, x_eVar, wp_bind, wp_pure, var_0, var_s, int_int, sl4]
      refine (s_bent (n + 2) j 4 (roomd (fs.take 4)) S10 (by decide) (pl_room (by simp; omega) (fun g hg => by rw [(fa g (List.mem_of_mem_take hg)).len]; omega)) fr11.jar).mono ?_
      rintro d2 S11 ⟨⟨hb2, hvk2⟩, fr12⟩
      have k4 := s_is_room (n + 3) wi d2 S11 hvk2 (by omega) (by omega)
      have k5 := s_lis_room (n + 4) wi d2 S11 hvk2 (by omega) (bt_room (fun g hg => (fa g (List.mem_of_mem_take hg)).fb) hb2)
      rw [wp_gName]
      refine ⟨by simp, ?_⟩
      simp only [x_sIf, x_tCmp, x_eCon, x_eCall, x_lCons, x_lNil, x_eVar, wp_bind, wp_pure, var_0, var_s, List.set_cons_succ, List.set_cons_zero, k4, k5, wp_ok, c_ne, eq_bl, decide_true, Bool.not_true, wp_ite, x_sPass]
      exact ⟨(fun e => by cases e), fun _ => hn _ _ ⟨_, _, rfl, fr11.trans fr12⟩⟩
    refine ⟨(fun e => by cases e), fun _ => ⟨fun hp => ?_, fun _ => ⟨(fun e => by cases e), fun _ => rest⟩⟩⟩
    have hp' : wi > 0 := of_decide_eq_true hp
    have k3' := k3 hp'
    rw [isFen_fen, decide_eq_false (by omega)] at k3'
    simp only [k3', wp_ok, c_isnot, is_bl, wp_bind, wp_pure, decide_true, Bool.not_true]
    exact ⟨(fun e => by cases e), fun _ => rest⟩
theorem plain (ns : List Int) (h1 : ns.length ≤ 63) (h2 : ∀ k ∈ ns, Builtin.Int.intBits k ≤ 1048576) : ∃ S, callF (tabP T) 40 f_law [.fz (ns.map D.int)] [] = .ok (.bl true) S :=
  s_law 38 (fun j S hJ => s_right 29 j S hJ) ns h2
end K06

set_option Elab.async false
set_option linter.all false
set_option maxRecDepth 100000
set_option maxHeartbeats 0
namespace K06
open PySem PySem.Spec PyProof.Rows L2 Pin
abbrev RW : PySem.W.OpenLaw := PySem.Challenge.rw_sightroads_k06_whole_fences_and_rooms_to
abbrev Rr : PySem.W.OpenRow := PySem.W.OpenLaw.row RW
def loose : List Str :=
  "RunError" :: "InvalidFraction" :: "InvalidRow" :: "InvalidFence" :: "InvalidRoom" :: "InvalidCount" :: "Refused" :: "NOUGHT" ::
  "MAX_COUNT" :: "is_integer" :: "common_divisor" :: "is_number" :: "reduced" :: "require_number" :: "require_count" :: "added" ::
  "multiplied" :: "opposite" :: "opposite_numbers" :: "is_plain_row" :: "first_index" :: "rest_row" :: "is_rest" :: "sum_of_rows" ::
  "times_row" :: "product_of" :: "MAX_FENCES" :: "MAX_WIDTH" :: "NULL" :: "require_width" :: "is_plain_fence" :: "is_plain_room" ::
  "require_fence" :: "require_room" :: "require_row" :: "require_fenced" :: "require_roomed" :: "opposite_by" :: "keeps_by" :: "broken_by" ::
  "holds_by" :: "are_weights" :: "summed_by" :: "is_bar_by" :: "is_for_all_by" :: "is_for_none_by" :: "is_fence" :: "is_room" ::
  "opposite_rooms" :: "keeps" :: "does_hold" :: "first_broken" :: "summed" :: "is_bar" :: "is_for_all" :: "is_for_none" ::
  "scaled" :: "are_alike" :: "times_fence" :: "_law_jar" :: "_law_dip" :: "_law_one_of" :: "_law_is_whole" :: "_law_lowest" ::
  "_law_plus" :: "_law_times" :: "_law_minus" :: "_law_is_less" :: "_law_product" :: "_law_scaled" :: "_law_added" :: "_law_is_number" ::
  "_law_is_row" :: "_law_drawn_number" :: "_law_drawn_row" :: "_law_some_times" :: "_law_bent" :: "_law_weights" :: "_law_keeps" :: "_law_opposite" ::
  "_law_summed" :: "_law_is_fence" :: "_law_is_room" :: "_law_is_bar" :: "_law_room_about" :: "_law_barred_room" :: "_law_size" :: "_law_room_right" ::
  "_law_bars_right" :: "_law_truth_of" :: "_law_are_alike" :: "_law_fences_right" :: "_law_right" :: []
theorem run (w : World) : HandSHeadRun.RunEq Rr (PySem.W.view Rr.prog [99]) (hookP T gl) (obP T gl) 6000 loose w := by
  intro os
  kernel_rfl
end K06
open PySem PySem.W PySem.Calls PyProof.Rows
theorem PySem.Challenge.cw_sightroads_k06_whole_fences_and_rooms_to_holds : PySem.Challenge.rw_sightroads_k06_whole_fences_and_rooms_to.Holds := by
  w_on; o_law
  refine HandSHeadRun.head_any (r := K06.Rr) (q := view K06.Rr.prog [99]) (H := Pin.hookP K06.T K06.gl) (ob := Pin.obP K06.T K06.gl) (M := 6000) (loose := K06.loose) (d := HandSHeadRun.topDef K06.Rr.prog 99) (kwd := []) (Pin.obP_eq _ _)
    (by kernel_rfl) (fun s => by kernel_rfl) K06.run (by kernel_rfl) (by kernel_rfl) (by kernel_rfl) (by rfl) (by first | assumption | decide +kernel) (by decide +kernel) ⟨rfl, rfl, rfl, rfl, rfl, by decide +kernel⟩ ?hw ?hc
  case hw => w_witness2
  case hc => exact Pin.law_end (l := PySem.Challenge.rw_sightroads_k06_whole_fences_and_rooms_to) (m := 63) (kk := 40) (L := K06.f_law) (tL := K06.dt_law) (x := "script") rfl (by decide) (by kernel_rfl) ⟨rfl, by decide, by decide⟩ K06.tok rfl rfl rfl (by kernel_rfl) K06.plain

