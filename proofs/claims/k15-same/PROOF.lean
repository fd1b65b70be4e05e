import PyProof.Rows.All
import PySem.PyData
import PySem.Sem
import KE.KeyNested
import HandS.ForMost
import HandS.ForExc
import HandS.TupAny
import HandS.Lambda
import HandS.HeadHook1
import HandS.Deep
import HandS.IsInst
import HandS.SortInts
import HandS.Zip
import KE.GoesNew
import KE.GoesMore
import KE.GoesEnum
import HandS.NoneIn
import HandS.More
import HandS.HeadNt
import HandS.HeadHook4
import HandS.TupSets
import HandS.Conv
import KE.KDictZip
import HandS.SetFor
import HandS.Text
import HandS.Iter
import HandS.Steps
import KE.KDictDisplayH
import HandS.TupLen
import KE.KDictPairs
import HandS.Style
import HandS.TupMul
import HandS.ExcOwn
import HandS.ExcInit
import HandS.ExcField
import KE.KExcIs
import HandS.Words
import HandS.CallLocal
import HandS.Head0
import HandS.Head1
import HandS.Head2
import HandS.HeadEnd
import HandS.HeadWalk
import PySem.Challenge.RW_lateboxes_k15_whole_fitted_tells_the_sam
set_option Elab.async false
set_option linter.all false
set_option maxRecDepth 100000
/-! The pure part: data, a store of things that may change, the monad of runs, the functions that statements and expressions are read as. -/
namespace LB
open PySem

abbrev KeyS := Sum Int Str
inductive D where
  | non
  | bl (b : Bool)
  | int (i : Int)
  | str (s : Str)
  | tup (xs : List D)
  | lst (xs : List D)
  | loc (k : Nat)
  | ref (a : Nat)
  | scr (ns : List Int)
  deriving Inhabited
/-- what stands in a cell of the store -/
inductive MO where
  | lst (xs : List D)
  | dct (kvs : List (KeyS × D))
  | dcn (kvs : List (NestedKey × D))
  | obj (c : Nat) (fs : List (Str × D))
structure Mem where
  get : Nat → Option MO
  n : Nat
def Mem.put (m : Mem) (k : Nat) (o : MO) : Mem := ⟨fun j => if j = k then some o else m.get j, m.n⟩
def Mem.new (m : Mem) (o : MO) : Mem := ⟨fun j => if j = m.n then some o else m.get j, m.n + 1⟩
def Mem.kill (m : Mem) (k : Nat) : Mem := ⟨fun j => if j = k then none else m.get j, m.n⟩
/-- an error: which class, its field -/
structure Er where
  cls : Nat
  fld : Option D
inductive Rs (α : Type) where
  | bad
  | ok (x : α) (m : Mem)
  | ex (e : Er) (m : Mem)
abbrev M (α : Type) := Mem → Rs α
def M.pure {α : Type} (x : α) : M α := fun m => .ok x m
def M.bind {α β : Type} (a : M α) (f : α → M β) : M β := fun m => match a m with
  | .bad => .bad
  | .ok x m1 => f x m1
  | .ex e m1 => .ex e m1
abbrev Ev := List (Option D)
inductive Fl where
  | nx | bk | ct | rt (d : D)
abbrev SE := Ev → M D
abbrev SB := Ev → M Bool
abbrev SA := Ev → M (List D)
abbrev SS := Ev → M (Fl × Ev)

/-! ### what a run tells -/
def Rs.wp {α : Type} (r : Rs α) (q : α → Mem → Prop) (e : Er → Mem → Prop) : Prop := match r with
  | .bad => False
  | .ok x m => q x m
  | .ex x m => e x m
theorem Rs.wp_mono {α : Type} {r : Rs α} {q q' : α → Mem → Prop} {e e' : Er → Mem → Prop} (h : r.wp q e) (hq : ∀ x m, q x m → q' x m) (he : ∀ x m, e x m → e' x m) : r.wp q' e' := by
  cases r with
  | bad => exact h
  | ok x m => exact hq x m h
  | ex x m => exact he x m h
/-! ### expressions -/
def vr (i : Nat) : SE := fun ρ m => match ρ[i]? with
  | some (some d) => .ok d m
  | _ => .bad
def cn (d : D) : SE := fun _ m => .ok d m
/-- a two-place operation without a change of the store -/
abbrev O2 := D → D → Mem → Option D
abbrev O1 := D → Mem → Option D
def lift {α : Type} (o : Option α) : M α := fun m => match o with
  | some x => .ok x m
  | none => .bad
def op2 (g : O2) (a b : SE) : SE := fun ρ => M.bind (a ρ) fun x => M.bind (b ρ) fun y => fun m => lift (g x y m) m
def op1 (g : O1) (a : SE) : SE := fun ρ => M.bind (a ρ) fun x => fun m => lift (g x m) m
def argN : SA := fun _ m => .ok [] m
def argC (a : SE) (r : SA) : SA := fun ρ => M.bind (a ρ) fun x => M.bind (r ρ) fun xs => M.pure (x :: xs)
abbrev ON := List D → Mem → Option D
def opN (g : ON) (a : SA) : SE := fun ρ => M.bind (a ρ) fun xs => fun m => lift (g xs m) m
/-- the call of a function of one's own -/
abbrev Fn := List D → M D
def call (f : Fn) (a : SA) : SE := fun ρ => M.bind (a ρ) f
/-- a list that may change -/
def alloc (o : MO) : M D := fun m => .ok (.loc m.n) (m.new o)
/-- what may change no more -/
def frzD (d : D) : M D := fun m => match d with
  | .loc k => match m.get k with
    | some (.lst xs) => if k < m.n then .ok (.lst xs) (m.kill k) else .bad
    | _ => .bad
  | d => .ok d m
def frz (a : SE) : SE := fun ρ => M.bind (a ρ) frzD
/-- a list that was handed back as one that changes no more, or: the other way round where it is new (asked by the call) -/
def ifE (t : SB) (a b : SE) : SE := fun ρ => M.bind (t ρ) fun c => if c = true then a ρ else b ρ
/-! tests -/
def tV (a : SE) : SB := fun ρ => M.bind (a ρ) fun x => match x with
  | .bl b => M.pure b
  | _ => fun _ => .bad
def tAnd (a b : SB) : SB := fun ρ => M.bind (a ρ) fun c => if c = true then b ρ else M.pure false
def tOr (a b : SB) : SB := fun ρ => M.bind (a ρ) fun c => if c = true then M.pure true else b ρ
def tNot (a : SB) : SB := fun ρ => M.bind (a ρ) fun c => M.pure (!c)
/-- and, or, not as values, of truth values -/
def asB (d : D) : M Bool := fun m => match d with
  | .bl b => .ok b m
  | _ => .bad
def vAnd (a b : SE) : SE := fun ρ => M.bind (a ρ) fun x => M.bind (asB x) fun c => if c = true then b ρ else M.pure (.bl false)
def vOr (a b : SE) : SE := fun ρ => M.bind (a ρ) fun x => M.bind (asB x) fun c => if c = true then M.pure (.bl true) else b ρ
def vNot (a : SE) : SE := fun ρ => M.bind (a ρ) fun x => M.bind (asB x) fun c => M.pure (.bl (!c))

/-! ### statements -/
def sNext : SS := fun ρ => M.pure (.nx, ρ)
def sSeq (a b : SS) : SS := fun ρ => M.bind (a ρ) fun r => match r with
  | (.nx, ρ1) => b ρ1
  | r => M.pure r
def sRet (a : SE) : SS := fun ρ => M.bind (a ρ) fun d => M.pure (.rt d, ρ)
def sRetN : SS := fun ρ => M.pure (.rt .non, ρ)
def sExp (a : SE) : SS := fun ρ => M.bind (a ρ) fun _ => M.pure (.nx, ρ)
def sIf (t : SB) (a b : SS) : SS := fun ρ => M.bind (t ρ) fun c => if c = true then a ρ else b ρ
abbrev SG := D → Ev → Option Ev
def gNm (i : Nat) : SG := fun d ρ => some (ρ.set i (some d))
def gNms (is : List Nat) (ds : List D) (ρ : Ev) : Option Ev := match is, ds with
  | [], [] => some ρ
  | i :: is, d :: ds => gNms is ds (ρ.set i (some d))
  | _, _ => none
def gTp (is : List Nat) : SG := fun d ρ => match d with
  | .tup ds => gNms is ds ρ
  | _ => none
def sAsg (a : SE) (g : SG) : SS := fun ρ => M.bind (a ρ) fun d => match g d ρ with
  | some ρ1 => M.pure (.nx, ρ1)
  | none => fun _ => .bad
/-- what is walked: the i-th item, as the store is then; none: the end -/
abbrev Wk := Nat → Mem → Option (Option D)
abbrev SI := Ev → M (Wk × Nat)
def forG (w : Wk) (g : SG) (body : SS) : Nat → Nat → SS
  | fuel, i, ρ => fun m => match w i m with
    | none => .bad
    | some none => .ok (.nx, ρ) m
    | some (some x) => match fuel with
      | 0 => .bad
      | fuel + 1 => match g x ρ with
        | none => .bad
        | some ρ1 => M.bind (body ρ1) (fun r => match r with
          | (.nx, ρ2) => forG w g body fuel (i + 1) ρ2
          | (.ct, ρ2) => forG w g body fuel (i + 1) ρ2
          | (.bk, ρ2) => M.pure (.nx, ρ2)
          | (.rt d, ρ2) => M.pure (.rt d, ρ2)) m
def sFor (it : SI) (g : SG) (body : SS) : SS := fun ρ => M.bind (it ρ) fun w => forG w.1 g body w.2 0 ρ
def whileG (t : SB) (body : SS) : Nat → SS
  | fuel, ρ => M.bind (t ρ) fun c => if c = true then (match fuel with
      | 0 => fun _ => .bad
      | fuel + 1 => M.bind (body ρ) fun r => match r with
        | (.nx, ρ2) => whileG t body fuel ρ2
        | (.ct, ρ2) => whileG t body fuel ρ2
        | (.bk, ρ2) => M.pure (.nx, ρ2)
        | (.rt d, ρ2) => M.pure (.rt d, ρ2)) else M.pure (.nx, ρ)
def sWhile (fuel : Ev → Mem → Nat) (t : SB) (body : SS) : SS := fun ρ m => whileG t body (fuel ρ m) ρ m
/-! comprehensions -/
def wipeE (ρ : Ev) : List Nat → Ev
  | [] => ρ
  | v :: vs => (wipeE ρ vs).set v none
/-- no error leaves -/
def noex {α : Type} (a : M α) : M α := fun m => match a m with
  | .ex _ _ => .bad
  | r => r
def compG (w : Wk) (g : SG) (t : SB) (e : SE) (ρ0 : Ev) : Nat → Nat → List D → M (List D)
  | fuel, i, acc => fun m => match w i m with
    | none => .bad
    | some none => .ok acc m
    | some (some x) => match fuel with
      | 0 => .bad
      | fuel + 1 => match g x ρ0 with
        | none => .bad
        | some ρ1 => M.bind (noex (t ρ1)) (fun c => if c = true then M.bind (noex (e ρ1)) (fun y m => if acc.length < sizeLine then compG w g t e ρ0 fuel (i + 1) (acc ++ [y]) m else .bad) else compG w g t e ρ0 fuel (i + 1) acc) m
def compL (it : SI) (g : SG) (t : SB) (e : SE) (own : List Nat) : Ev → M (List D) := fun ρ => M.bind (it ρ) fun w => compG w.1 g t e (wipeE ρ own) w.2 0 []
def comp (it : SI) (g : SG) (t : SB) (e : SE) (own : List Nat) : SE := fun ρ => M.bind (compL it g t e own ρ) fun ys => M.pure (.lst ys)
def compM (it : SI) (g : SG) (t : SB) (e : SE) (own : List Nat) : SE := fun ρ => M.bind (compL it g t e own ρ) fun ys => alloc (.lst ys)
def tYes : SB := fun _ => M.pure true

/-! ### a def's run -/
def start (n : Nat) (ds : List D) : Ev := ds.map some ++ List.replicate (n - ds.length) none
def run (n : Nat) (f : SS) : Fn := fun ds => M.bind (f (start n ds)) fun r => match r with
  | (.rt d, _) => M.pure d
  | (.nx, _) => M.pure .non
  | _ => fun _ => .bad

/-! ### which cells are spoken of -/
mutual
def D.blw (n : Nat) : D → Bool
  | .tup xs => blws n xs
  | .lst xs => blws n xs
  | .loc k => decide (k < n)
  | .non => true
  | .bl _ => true
  | .int _ => true
  | .str _ => true
  | .ref _ => true
  | .scr _ => true
def blws (n : Nat) : List D → Bool
  | [] => true
  | x :: xs => x.blw n && blws n xs
end
def MO.blw (n : Nat) : MO → Bool
  | .lst xs => blws n xs
  | .dct kvs => kvs.all fun p => p.2.blw n
  | .dcn kvs => kvs.all fun p => p.2.blw n
  | .obj _ fs => fs.all fun p => p.2.blw n
/-- m1 is what is told of m2 behind a run from m0: what was made on the way is forgotten -/
def Tr (m0 m1 m2 : Mem) : Prop := m0.n ≤ m1.n ∧ m1.n ≤ m2.n ∧ ∀ k, k < m1.n → m1.get k = none ∨ (m1.get k = m2.get k ∧ ((k < m0.n ∧ m1.get k = m0.get k) ∨ ∀ o, m1.get k = some o → o.blw m1.n = true))
inductive LeR (m0 : Mem) : Rs D → Rs D → Prop
  | bad (r : Rs D) : LeR m0 .bad r
  | same (r : Rs D) : LeR m0 r r
  | ok (d : D) (m1 m2 : Mem) : Tr m0 m1 m2 → d.blw m1.n = true → LeR m0 (.ok d m1) (.ok d m2)
  | ex (e : Er) (m1 m2 : Mem) : Tr m0 m1 m2 → (∀ d, e.fld = some d → d.blw m1.n = true) → LeR m0 (.ex e m1) (.ex e m2)

/-! ### equality -/
mutual
def D.plain : D → Bool
  | .non => true
  | .bl _ => true
  | .int _ => true
  | .str x => x.cps.all (· < 0x110000)
  | .tup xs => plains xs
  | .lst xs => plains xs
  | .loc _ => false
  | .ref _ => false
  | .scr _ => false
def plains : List D → Bool
  | [] => true
  | x :: xs => x.plain && plains xs
end
mutual
def D.dep : D → Nat
  | .tup xs => deps xs + 1
  | .lst xs => deps xs + 1
  | .non => 0
  | .bl _ => 0
  | .int _ => 0
  | .str _ => 0
  | .loc _ => 0
  | .ref _ => 0
  | .scr _ => 0
def deps : List D → Nat
  | [] => 0
  | x :: xs => max x.dep (deps xs)
end
mutual
def D.eqv : D → D → Bool
  | .non, .non => true
  | .bl a, .bl b => a == b
  | .bl a, .int j => (if a then 1 else 0) == j
  | .int i, .bl b => i == (if b then 1 else 0)
  | .int i, .int j => i == j
  | .str x, .str y => x == y
  | .lst xs, .lst ys => eqvs xs ys
  | .tup xs, .tup ys => eqvs xs ys
  | _, _ => false
def eqvs : List D → List D → Bool
  | [], [] => true
  | x :: xs, y :: ys => D.eqv x y && eqvs xs ys
  | [], _ :: _ => false
  | _ :: _, [] => false
end
/-! ### operations -/
def lstOf (m : Mem) : D → Option (List D)
  | .lst xs => some xs
  | .loc k => if k < m.n then (match m.get k with
    | some (.lst xs) => some xs
    | _ => none) else none
  | _ => none
def sqOf (m : Mem) : D → Option (List D)
  | .tup xs => some xs
  | .scr ns => some (ns.map D.int)
  | d => lstOf m d
def gAdd : O2 := fun x y m => match x, y with
  | .int i, .int j => some (.int (i + j))
  | .str i, .str j => if i.length + j.length ≤ sizeLine then some (.str (i ++ j)) else none
  | .tup xs, .tup ys => if xs.length + ys.length ≤ sizeLine then some (.tup (xs ++ ys)) else none
  | x, y => match lstOf m x, lstOf m y with
    | some xs, some ys => if xs.length + ys.length ≤ sizeLine then some (.lst (xs ++ ys)) else none
    | _, _ => none
def g2I (f : Int → Int → D) : O2 := fun x y _ => match x, y with
  | .int i, .int j => some (f i j)
  | _, _ => none
def g2IC (c : Int → Int → Bool) (f : Int → Int → D) : O2 := fun x y _ => match x, y with
  | .int i, .int j => if c i j = true then some (f i j) else none
  | _, _ => none
def gSub : O2 := g2I fun i j => .int (i - j)
def small64 (i : Int) : Bool := decide (-(2 ^ 64) < i) && decide (i < 2 ^ 64)
def gMul : O2 := g2IC (fun i j => small64 i || small64 j) fun i j => .int (i * j)
def gMod : O2 := g2IC (fun _ j => decide (j ≠ 0)) fun i j => .int (i.fmod j)
def gFdiv : O2 := g2IC (fun _ j => decide (j ≠ 0) && decide (j.natAbs < 1073741824)) fun i j => .int (i.fdiv j)
def gLt : O2 := g2I fun i j => .bl (decide (i < j))
def gLe : O2 := g2I fun i j => .bl (decide (i ≤ j))
def gGt : O2 := g2I fun i j => .bl (decide (j < i))
def gGe : O2 := g2I fun i j => .bl (decide (j ≤ i))
/-- a list of the store as it stands -/
def res (m : Mem) (d : D) : D := match lstOf m d with
  | some xs => .lst xs
  | none => d
/-- a tuple's lists of the store, too -/
def resT (m : Mem) : D → D
  | .tup xs => .tup (xs.map (res m))
  | d => res m d
/-- tuples of such ones, too -/
def resU (m : Mem) : D → D
  | .tup xs => .tup (xs.map (resT m))
  | d => res m d
def eqDeep (m : Mem) (x y : D) : Option Bool :=
  if (res m x).plain = true ∧ (res m y).plain = true ∧ (res m x).dep ≤ 60 ∧ (res m y).dep ≤ 60 then some ((res m x).eqv (res m y))
  else if (resT m x).plain = true ∧ (resT m y).plain = true ∧ (resT m x).dep ≤ 60 ∧ (resT m y).dep ≤ 60 then some ((resT m x).eqv (resT m y))
  else if (resU m x).plain = true ∧ (resU m y).plain = true ∧ (resU m x).dep ≤ 60 ∧ (resU m y).dep ≤ 60 then some ((resU m x).eqv (resU m y)) else none
def eqOf (m : Mem) : D → D → Option Bool
  | .non, .non => some true
  | .int i, .int j => some (decide (i = j))
  | .bl a, .bl b => some (decide (a = b))
  | .str x, .str y => some (decide (x = y))
  | x, y => eqDeep m x y
def gEq : O2 := fun x y m => (eqOf m x y).map fun b => .bl b
def gNe : O2 := fun x y m => (eqOf m x y).map fun b => .bl (!b)
def gIsN : O2 := fun x y _ => match y with
  | .non => some (.bl (match x with
    | .non => true
    | _ => false))
  | _ => none
def gNotN : O2 := fun x y _ => match y with
  | .non => some (.bl (match x with
    | .non => false
    | _ => true))
  | _ => none
def D.isFlat : D → Bool
  | .non => true
  | .bl _ => true
  | .int _ => true
  | .str _ => true
  | _ => false
def inD (x : D) (xs : List D) : Bool := xs.any fun y => y.eqv x
def inOf (x : D) (xs : List D) : Option Bool :=
  if x.isFlat = true ∧ xs.all D.isFlat = true then some (inD x xs)
  else if x.plain = true ∧ x.dep ≤ 50 ∧ plains xs = true ∧ deps xs ≤ 50 then some (inD x xs) else none
def gIn : O2 := fun x y m => (sqOf m y).bind fun xs => (inOf x xs).map .bl
def gNotIn : O2 := fun x y m => (sqOf m y).bind fun xs => (inOf x xs).map fun b => .bl (!b)
def ixD (n : Nat) (i : Int) : Option Nat := if 0 ≤ i then (if i < n then some i.toNat else none) else if -(n : Int) ≤ i then some (i + n).toNat else none
def atD {α : Type} (xs : List α) (i : Int) : Option α := (ixD xs.length i).bind fun j => xs[j]?
def gIx : O2 := fun x y m => match y with
  | .int i => match x with
    | .str z => if z.length ≤ sizeLine then (atD z.cps.toList i).map fun c => .str ⟨#[c]⟩ else none
    | x => (sqOf m x).bind fun xs => atD xs i
  | _ => none
def sIxD (n d : Nat) : Option Int → Nat
  | none => d
  | some v => if v < 0 then (v + (n : Int)).toNat else min v.toNat n
def cutD {α : Type} (xs : List α) (lo hi : Option Int) : List α := (xs.drop (sIxD xs.length 0 lo)).take (sIxD xs.length xs.length hi - sIxD xs.length 0 lo)
abbrev SO := Ev → M (Option Int)
def soN : SO := fun _ => M.pure none
def soS (a : SE) : SO := fun ρ => M.bind (a ρ) fun d => match d with
  | .int i => M.pure (some i)
  | _ => fun _ => .bad
def gSl (x : D) (lo hi : Option Int) (m : Mem) : Option D := match x with
  | .tup xs => some (.tup (cutD xs lo hi))
  | x => (lstOf m x).map fun xs => .lst (cutD xs lo hi)
def slc (a : SE) (lo hi : SO) : SE := fun ρ => M.bind (a ρ) fun x => M.bind (lo ρ) fun l => M.bind (hi ρ) fun h => fun m => lift (gSl x l h m) m
/-! what is walked -/
def wkSeq (d : D) : Wk := fun i m => (sqOf m d).map fun xs => xs[i]?
def itSeq (a : SE) : SI := fun ρ => M.bind (a ρ) fun d m => match sqOf m d with
  | some xs => .ok (wkSeq d, xs.length) m
  | none => .bad
def wkRng (lo : Int) (n : Nat) : Wk := fun i _ => some (if i < n then some (.int (lo + (i : Nat))) else none)
def small62 (i : Int) : Bool := decide (-(2 ^ 62) ≤ i) && decide (i < 2 ^ 62)
def itRng1 (a : SA) : SI := fun ρ => M.bind (a ρ) fun ds m => match ds with
  | [.int hi] => if small62 hi = true then .ok (wkRng 0 hi.toNat, hi.toNat) m else .bad
  | _ => .bad
def itRng2 (a : SA) : SI := fun ρ => M.bind (a ρ) fun ds m => match ds with
  | [.int lo, .int hi] => if small62 lo = true ∧ small62 hi = true then .ok (wkRng lo (hi - lo).toNat, (hi - lo).toNat) m else .bad
  | _ => .bad

/-! ### built-ins -/
def gLen : ON := fun ds m => match ds with
  | [.str z] => if z.length ≤ sizeLine then some (.int z.length) else none
  | [.loc k] => if k < m.n then (match m.get k with
    | some (.lst xs) => some (.int xs.length)
    | some (.dct kvs) => some (.int kvs.length)
    | _ => none) else none
  | [d] => (sqOf m d).map fun xs => .int xs.length
  | _ => none
def gMax2 : ON := fun ds _ => match ds with
  | [.int i, .int j] => some (.int (if j > i then j else i))
  | _ => none
def gMin2 : ON := fun ds _ => match ds with
  | [.int i, .int j] => some (.int (if j < i then j else i))
  | _ => none
def gInt : ON := fun ds _ => match ds with
  | [.int i] => some (.int i)
  | [.bl k] => some (.int (if k then 1 else 0))
  | _ => none
/-- list(xs), as one that changes no more -/
def gSq (f : List D → D) : ON := fun ds m => match ds with
  | [d] => (sqOf m d).map f
  | _ => none
def gList : ON := gSq .lst
def gTuple : ON := fun ds m => match ds with
  | [.tup xs] => some (.tup xs)
  | [d] => (lstOf m d).map .tup
  | _ => none
/-- the same, with a place in the store -/
def opNM (g : ON) (a : SA) : SE := fun ρ => M.bind (a ρ) fun xs => M.bind (fun m => lift (g xs m) m) fun d => match d with
  | .lst ys => alloc (.lst ys)
  | _ => fun _ => .bad
def intsOf : List D → Option (List Int)
  | [] => some []
  | .int i :: r => (intsOf r).map (i :: ·)
  | _ :: _ => none
def gSum : ON := fun ds m => match ds with
  | [d] => (lstOf m d).bind fun xs => (intsOf xs).map fun ns => .int ns.sum
  | _ => none
def maxL : List Int → Option Int
  | [] => none
  | i :: r => match maxL r with
    | none => some i
    | some j => some (if j > i then j else i)
def minL : List Int → Option Int
  | [] => none
  | i :: r => match minL r with
    | none => some i
    | some j => some (if j < i then j else i)
def gMax : ON := fun ds m => match ds with
  | [d] => (lstOf m d).bind fun xs => (intsOf xs).bind fun ns => (maxL ns).map .int
  | _ => none
def gMin : ON := fun ds m => match ds with
  | [d] => (lstOf m d).bind fun xs => (intsOf xs).bind fun ns => (minL ns).map .int
  | _ => none
/-- isinstance -/
def isTy (m : Mem) (T : String) : D → Option Bool
  | .non => some false
  | .bl _ => some (T == "bool" || T == "int")
  | .int _ => some (T == "int")
  | .str _ => some (T == "str")
  | .tup _ => some (T == "tuple")
  | .lst _ => some (T == "list")
  | .loc k => if k < m.n then (match m.get k with
    | some (.lst _) => some (T == "list")
    | _ => none) else none
  | _ => none
def gIsi (T : String) : O1 := fun d m => (isTy m T d).map .bl
/-! dicts of the store, keys ints and texts -/
def keyOf : D → Option KeyS
  | .int i => some (.inl i)
  | .str x => some (.inr x)
  | _ => none
def valK {α : Type} (kvs : List (KeyS × α)) (k : KeyS) : Option α := (kvs.find? fun kv => decide (kv.1 = k)).map (·.2)
def putKD (kvs : List (KeyS × D)) (k : KeyS) (v : D) : List (KeyS × D) :=
  if (kvs.any fun kv => decide (kv.1 = k)) = true then kvs.map (fun kv => if kv.1 = k then (kv.1, v) else kv) else kvs ++ [(k, v)]
def dctOf (m : Mem) : D → Option (List (KeyS × D))
  | .loc k => if k < m.n then (match m.get k with
    | some (.dct kvs) => some kvs
    | _ => none) else none
  | _ => none
def gDget : O2 := fun d k m => (dctOf m d).bind fun kvs => (keyOf k).bind fun k => valK kvs k
def gDin : O2 := fun k d m => (dctOf m d).bind fun kvs => (keyOf k).map fun k => .bl (valK kvs k).isSome
/-- d.get(k, x) -/
def isDct (m : Mem) (d : D) : Bool := (dctOf m d).isSome
def dget2 (d k x : SE) : SE := fun ρ => M.bind (d ρ) fun dd => M.bind (fun m => if isDct m dd = true then .ok () m else .bad) fun _ => M.bind (k ρ) fun kk => M.bind (x ρ) fun xx => fun m => lift ((dctOf m dd).bind fun kvs => (keyOf kk).map fun k => (valK kvs k).getD xx) m
def prE (ps : List (SE × SE)) : Ev → M (List (D × D)) := match ps with
  | [] => fun _ => M.pure []
  | (k, v) :: r => fun ρ => M.bind (k ρ) fun kd => M.bind (v ρ) fun vd => M.bind (prE r ρ) fun xs => M.pure ((kd, vd) :: xs)
def keysOf : List (D × D) → Option (List (KeyS × D))
  | [] => some []
  | (k, v) :: r => match keyOf k, keysOf r with
    | some k, some r => some ((k, v) :: r)
    | _, _ => none
def mergeD (kvs more : List (KeyS × D)) : List (KeyS × D) := more.foldl (fun acc kv => putKD acc kv.1 kv.2) kvs
/-- a dict's display -/
def dspK (xs : List (D × D)) : M D := fun m => match keysOf xs with
  | some kvs => if kvs.length ≤ 15 then alloc (.dct (mergeD [] kvs)) m else .bad
  | none => .bad
def dspE (ps : List (SE × SE)) : SE := fun ρ => M.bind (prE ps ρ) dspK
/-- d[k] = v: the value first -/
def sDput (d k v : SE) : SS := fun ρ => M.bind (v ρ) fun vd => M.bind (d ρ) fun dd => M.bind (k ρ) fun kd => fun m => match dd, keyOf kd with
  | .loc j, some k => if j < m.n then (match m.get j with
    | some (.dct kvs) => if kvs.length < sizeLine then .ok (.nx, ρ) (m.put j (.dct (putKD kvs k vd))) else .bad
    | _ => .bad) else .bad
  | _, _ => .bad
/-! lists of the store -/
def updL (d : D) (f : List D → Option (List D)) : M Unit := fun m => match d with
  | .loc j => if j < m.n then (match m.get j with
    | some (.lst xs) => match f xs with
      | some ys => .ok () (m.put j (.lst ys))
      | none => .bad
    | _ => .bad) else .bad
  | _ => .bad
/-- xs.append(e), the value None -/
def chkL (d : D) : M Unit := fun m => if (lstOf m d).isSome = true then .ok () m else .bad
def appE (l e : SE) : SE := fun ρ => M.bind (l ρ) fun ld => M.bind (chkL ld) fun _ => M.bind (e ρ) fun ed => M.bind (updL ld fun xs => if xs.length < sizeLine then some (xs ++ [ed]) else none) fun _ => M.pure .non
def extK (ld ed : D) : M D := fun m => match lstOf m ed with
  | some ys => M.bind (updL ld fun xs => if xs.length + ys.length ≤ sizeLine then some (xs ++ ys) else none) (fun _ => M.pure .non) m
  | none => .bad
def extE (l e : SE) : SE := fun ρ => M.bind (l ρ) fun ld => M.bind (chkL ld) fun _ => M.bind (e ρ) fun ed => extK ld ed
/-- xs[i] = e -/
def lputK (ld id ed : D) : M Unit := match id with
  | .int i => updL ld fun xs => (ixD xs.length i).map fun j => xs.set j ed
  | _ => fun _ => .bad
def sLput (l i e : SE) : SS := fun ρ => M.bind (e ρ) fun ed => M.bind (l ρ) fun ld => M.bind (i ρ) fun id => M.bind (lputK ld id ed) fun _ => M.pure (.nx, ρ)
/-- methods without arguments that change a list: pop, clear, reverse; what they hand back -/
def mt0E (g : List D → Option (List D × D)) (l : SE) : SE := fun ρ => M.bind (l ρ) fun ld => fun m => match (lstOf m ld).bind g with
  | some (_, d) => M.bind (updL ld fun xs => (g xs).map (·.1)) (fun _ => M.pure d) m
  | none => .bad
def gClear (_ : List D) : Option (List D × D) := some ([], .non)
def gReverse (xs : List D) : Option (List D × D) := some (xs.reverse, .non)
/-! constants of the module that are dicts of texts -/
def gGetK (tbl : List (Str × D)) : O1 := fun d _ => match d with
  | .str z => tbl.lookup z
  | _ => none
/-! more that is walked -/
def strOf (z : Str) : List D := z.cps.toList.map fun c => .str ⟨#[c]⟩
def wlkOf (m : Mem) : D → Option (List D)
  | .str z => some (strOf z)
  | d => sqOf m d
/-- the i-th of n, then the end -/
def upTo (n i : Nat) (x : Option D) : Option (Option D) := if i < n then x.map some else if i = n then some none else none
/-- enumerate(xs) -/
def wkEn (d : D) : Wk := fun i m => (wlkOf m d).bind fun xs => upTo xs.length i ((xs[i]?).map fun x => .tup [.int (i : Nat), x])
def itEn (a : SE) : SI := fun ρ => M.bind (a ρ) fun d m => match wlkOf m d with
  | some xs => .ok (wkEn d, xs.length) m
  | none => .bad
def wkZp (d e : D) : Wk := fun i m => (wlkOf m d).bind fun xs => (wlkOf m e).bind fun ys => upTo (min xs.length ys.length) i ((xs[i]?).bind fun x => (ys[i]?).map fun y => .tup [x, y])
def itZp (a b : SE) : SI := fun ρ => M.bind (a ρ) fun d => M.bind (b ρ) fun e m => match wlkOf m d, wlkOf m e with
  | some xs, some ys => .ok (wkZp d e, min xs.length ys.length) m
  | _, _ => .bad
/-- slices of texts -/
def cutZ (z : Str) (lo hi : Option Int) : Str := ⟨(cutD z.cps.toList lo hi).toArray⟩
def gSlS (x : D) (lo hi : Option Int) : Option D := match x with
  | .str z => if z.length ≤ sizeLine then some (.str (cutZ z lo hi)) else none
  | _ => none
def slcS (a : SE) (lo hi : SO) : SE := fun ρ => M.bind (a ρ) fun x => M.bind (lo ρ) fun l => M.bind (hi ρ) fun h => fun m => lift (gSlS x l h) m
def chn (g g' : O2) (a b c : SE) : SE := fun ρ => M.bind (a ρ) fun x => M.bind (b ρ) fun y => M.bind (fun m => lift (g x y m) m) fun k => M.bind (asB k) fun t => if t = true then M.bind (c ρ) fun z => fun m => lift (g' y z m) m else M.pure (.bl false)
def capE (a : SA) (k : List D → M D) : SE := fun ρ => M.bind (a ρ) fun xs m => if xs.length ≤ 1000 then k xs m else .bad
def tpl (a : SA) : SE := capE a fun xs => M.pure (.tup xs)
def lsl (a : SA) : SE := capE a fun xs => M.pure (.lst xs)
def lsm (a : SA) : SE := capE a fun xs => alloc (.lst xs)
def callN (np : Nat) (f : Fn) (a : SA) : SE := fun ρ => M.bind (a ρ) fun ds m => if ds.length = np then f ds m else .bad
def dctE : SE := fun _ => alloc (.dct [])
def sPar (i j : Nat) (a b : SE) : SS := fun ρ => M.bind (a ρ) fun x => M.bind (b ρ) fun y => M.pure (.nx, (ρ.set i (some x)).set j (some y))
def gNeg : O1 := fun d _ => match d with
  | .int i => some (.int (-i))
  | _ => none
def gRep : O2 := fun x y m => match y with
  | .int k => (lstOf m x).bind fun xs => if -(2 ^ 63) ≤ k ∧ k < 2 ^ 63 ∧ xs.length * k.toNat ≤ sizeLine then some (.lst (List.replicate k.toNat xs).flatten) else none
  | _ => none
def op2M (g : O2) (a b : SE) : SE := fun ρ => M.bind (a ρ) fun x => M.bind (b ρ) fun y => M.bind (fun m => lift (g x y m) m) fun d => match d with
  | .lst ys => alloc (.lst ys)
  | _ => fun _ => .bad
/-! len(set(xs)) of ints, list(range(n)) -/
/-! objects of one's own classes -/
def objOf (m : Mem) (c : Nat) : D → Option (List (Str × D))
  | .loc k => if k < m.n then (match m.get k with
    | some (.obj c2 fs) => if c2 = c then some fs else none
    | _ => none) else none
  | _ => none
def gFld (c : Nat) (f : Str) : O1 := fun d m => (objOf m c d).bind fun fs => fs.lookup f
def putFD (f : Str) (v : D) : List (Str × D) → List (Str × D)
  | [] => [(f, v)]
  | (g, x) :: r => if g = f then (g, v) :: r else (g, x) :: putFD f v r
def fputK (c : Nat) (f : Str) (v d : D) : M Unit := fun m => match d with
  | .loc k => (match objOf m c (.loc k) with
    | some fs => if fs.length < 1000 then .ok () (m.put k (.obj c (putFD f v fs))) else .bad
    | none => .bad)
  | _ => .bad
def sFput (c : Nat) (f : Str) (o e : SE) : SS := fun ρ => M.bind (e ρ) fun v => M.bind (o ρ) fun d => M.bind (fputK c f v d) fun _ => M.pure (.nx, ρ)
def chkO (c : Nat) (mt : Str) (d : D) : M Unit := fun m => match objOf m c d with
  | some fs => if (fs.lookup mt).isNone = true then .ok () m else .bad
  | none => .bad
def callM (c np : Nat) (mt : Str) (f : Fn) (o : SE) (a : SA) : SE := fun ρ => M.bind (o ρ) fun d => M.bind (chkO c mt d) fun _ => M.bind (a ρ) fun ds m => if ds.length + 1 = np then f (d :: ds) m else .bad
def mkK (k : Nat) (d : D) : M D := match d with
  | .non => M.pure (.loc k)
  | _ => fun _ => .bad
def mkE (c np : Nat) (f : Fn) (a : SA) : SE := fun ρ => M.bind (a ρ) fun ds m => if ds.length + 1 = np then M.bind (f (.loc m.n :: ds)) (mkK m.n) (m.new (.obj c [])) else .bad
/-! errors raised -/
end LB

set_option Elab.async false
set_option linter.all false
set_option autoImplicit false
set_option maxRecDepth 100000
set_option maxHeartbeats 2000000
/-! What the pure part says of the heap (Rep, SR), and the readings of pure functions (tX, tXT, tXA, tXS). -/
namespace LB
open PySem PySem.Spec PyProof.Rows L2

/-- what is fixed of the text: the written part, the classes' addresses by number, the names of errors' fields -/
structure Pm where
  K : PySem.W.Frag
  CA : Nat → Addr
  XN : Nat → Str
  NH : NestedKey → Int
  T : List (Addr × Str) := []
  XD : Option (Addr × Str × Int) := none

/-- functions as values, by number; the rest: an address -/
def fnAd (K : PySem.W.Frag) : Nat → Addr
  | 0 => He.ga K "in_turn"
  | 1 => He.ga K "fewest_starts"
  | n + 2 => n
mutual
inductive Rep (K : PySem.W.Frag) (B : Hp) (A : Nat → Addr) (n : Nat) : V → D → Prop
  | non : Rep K B A n .non .non
  | bl (b : Bool) : Rep K B A n (.bl b) (.bl b)
  | int (i : Int) : Rep K B A n (.int i) (.int i)
  | str (x : Str) : Rep K B A n (.str x) (.str x)
  | tup {a : Addr} {vs : List V} {ds : List D} : SqT K B a vs → Reps K B A n vs ds → Rep K B A n (.ref a) (.tup ds)
  | lst {a : Addr} {vs : List V} {ds : List D} : B a = some (.lst vs) → Reps K B A n vs ds → Rep K B A n (.ref a) (.lst ds)
  | loc {k : Nat} {a : Addr} : k < n → A k = a → Rep K B A n (.ref a) (.loc k)
  | ref {k : Nat} : Rep K B A n (.ref (fnAd K k)) (.ref k)
  | scr {a : Addr} {ns : List Int} : SqL K B a (ns.map V.int) → Rep K B A n (.ref a) (.scr ns)
inductive Reps (K : PySem.W.Frag) (B : Hp) (A : Nat → Addr) (n : Nat) : List V → List D → Prop
  | nil : Reps K B A n [] []
  | cons {v : V} {vs : List V} {d : D} {ds : List D} : Rep K B A n v d → Reps K B A n vs ds → Reps K B A n (v :: vs) (d :: ds)
end
def Ex (H H' : Hp) : Prop := ∀ a o, H a = some o → H' a = some o
theorem Ex.refl (H : Hp) : Ex H H := fun _ _ h => h
theorem Ex.trans {H H1 H2 : Hp} (a : Ex H H1) (b : Ex H1 H2) : Ex H H2 := fun x o h => b x o (a x o h)
theorem Ex.new {H : Hp} {p : Addr} {o : HO} (h : H p = none) : Ex H (upd H p o) := fun a u e => by
  rw [upd_ne (ne_of_none e h)]
  exact e
theorem Ex.mut {H H' : Hp} {p : Addr} {o : HO} (e : Ex H H') (h : H p = none) : Ex H (upd H' p o) := fun a u ha => by
  rw [upd_ne (ne_of_none ha h)]
  exact e a u ha
theorem Ex.t {K : PySem.W.Frag} {H H' : Hp} {a : Addr} {xs : List V} (e : Ex H H') (h : SqT K H a xs) : SqT K H' a xs := by
  rcases h with (h | ⟨o, h⟩) | h
  · exact Or.inl (Or.inl (e a _ h))
  · exact Or.inl (Or.inr ⟨o, e a _ h⟩)
  · exact Or.inr h
theorem Ex.l {K : PySem.W.Frag} {H H' : Hp} {a : Addr} {xs : List V} (e : Ex H H') (h : SqL K H a xs) : SqL K H' a xs := by
  rcases h with (h | ⟨o, h⟩) | h
  · exact Or.inl (Or.inl (e a _ h))
  · exact Or.inl (Or.inr ⟨o, e a _ h⟩)
  · exact Or.inr h
theorem Ex.back {H H' : Hp} {p : Addr} (e : Ex H H') (h : H' p = none) : H p = none := by
  cases h1 : H p with
  | none => rfl
  | some o =>
    rw [e p o h1] at h
    cases h
/-- the worlds grow -/
structure Le (B : Hp) (A : Nat → Addr) (n : Nat) (B' : Hp) (A' : Nat → Addr) (n' : Nat) : Prop where
  ex : Ex B B'
  nn : n ≤ n'
  aa : ∀ k, k < n → A' k = A k
theorem Le.refl {B : Hp} {A : Nat → Addr} {n : Nat} : Le B A n B A n := ⟨Ex.refl B, Nat.le_refl _, fun _ _ => rfl⟩
theorem Le.trans {B B1 B2 : Hp} {A A1 A2 : Nat → Addr} {n n1 n2 : Nat} (a : Le B A n B1 A1 n1) (b : Le B1 A1 n1 B2 A2 n2) : Le B A n B2 A2 n2 :=
  ⟨a.ex.trans b.ex, Nat.le_trans a.nn b.nn, fun k h => (b.aa k (Nat.lt_of_lt_of_le h a.nn)).trans (a.aa k h)⟩
theorem Le.base {B B' : Hp} {A : Nat → Addr} {n : Nat} (e : Ex B B') : Le B A n B' A n := ⟨e, Nat.le_refl _, fun _ _ => rfl⟩
section
variable {K : PySem.W.Frag} {B B' : Hp} {A A' : Nat → Addr} {n n' : Nat}
mutual
theorem Rep.mono (l : Le B A n B' A' n') : ∀ {v : V} {d : D}, Rep K B A n v d → Rep K B' A' n' v d
  | _, _, .non => .non
  | _, _, .bl b => .bl b
  | _, _, .int i => .int i
  | _, _, .str x => .str x
  | _, _, .tup h r => .tup (l.ex.t h) (Reps.mono l r)
  | _, _, .lst h r => .lst (l.ex _ _ h) (Reps.mono l r)
  | _, _, .loc h e => .loc (Nat.lt_of_lt_of_le h l.nn) ((l.aa _ h).trans e)
  | _, _, .ref => .ref
  | _, _, .scr h => .scr (l.ex.l h)
theorem Reps.mono (l : Le B A n B' A' n') : ∀ {vs : List V} {ds : List D}, Reps K B A n vs ds → Reps K B' A' n' vs ds
  | _, _, .nil => .nil
  | _, _, .cons r t => .cons (Rep.mono l r) (Reps.mono l t)
end
theorem Reps.length : ∀ {vs : List V} {ds : List D}, Reps K B A n vs ds → vs.length = ds.length
  | _, _, .nil => rfl
  | _, _, .cons _ t => by rw [List.length_cons, List.length_cons, Reps.length t]
theorem Reps.append : ∀ {vs ws : List V} {ds es : List D}, Reps K B A n vs ds → Reps K B A n ws es → Reps K B A n (vs ++ ws) (ds ++ es)
  | _, _, _, _, .nil, s => s
  | _, _, _, _, .cons r t, s => .cons r (Reps.append t s)
theorem Reps.take : ∀ {vs : List V} {ds : List D} (i : Nat), Reps K B A n vs ds → Reps K B A n (vs.take i) (ds.take i)
  | _, _, 0, _ => .nil
  | _, _, _ + 1, .nil => .nil
  | _, _, i + 1, .cons r t => .cons r (Reps.take i t)
theorem Reps.drop : ∀ {vs : List V} {ds : List D} (i : Nat), Reps K B A n vs ds → Reps K B A n (vs.drop i) (ds.drop i)
  | _, _, 0, r => r
  | _, _, _ + 1, .nil => .nil
  | _, _, i + 1, .cons _ t => Reps.drop i t
theorem Reps.get : ∀ {vs : List V} {ds : List D} {i : Nat} {d : D}, Reps K B A n vs ds → ds[i]? = some d → ∃ v, vs[i]? = some v ∧ Rep K B A n v d
  | _, _, _, _, .nil, h => by simp at h
  | _, _, 0, _, .cons (v := v) r _, h => by
    simp only [List.getElem?_cons_zero, Option.some.injEq] at h
    subst h
    exact ⟨v, rfl, r⟩
  | _, _, i + 1, _, .cons _ t, h => by
    obtain ⟨v, e, r⟩ := Reps.get (i := i) t (by simpa using h)
    exact ⟨v, by simpa using e, r⟩
theorem Reps.set {v : V} {d : D} (r : Rep K B A n v d) : ∀ {vs : List V} {ds : List D} (i : Nat), Reps K B A n vs ds → Reps K B A n (vs.set i v) (ds.set i d)
  | _, _, _, .nil => .nil
  | _, _, 0, .cons _ t => .cons r t
  | _, _, i + 1, .cons q t => .cons q (Reps.set r i t)
theorem Reps.reverse {vs : List V} {ds : List D} (r : Reps K B A n vs ds) : Reps K B A n vs.reverse ds.reverse := by
  induction r using Reps.rec (motive_1 := fun _ _ _ => True) with
  | non => trivial
  | bl => trivial
  | int => trivial
  | str => trivial
  | tup => trivial
  | lst => trivial
  | loc => trivial
  | ref => trivial
  | scr => trivial
  | nil => exact .nil
  | cons r t _ ih =>
    rw [List.reverse_cons, List.reverse_cons]
    exact Reps.append ih (.cons r .nil)
theorem Reps.none_of {vs : List V} {ds : List D} {i : Nat} (r : Reps K B A n vs ds) (h : ds[i]? = none) : vs[i]? = none := by
  have h1 := r.length
  have h2 := List.getElem?_eq_none_iff.mp h
  exact List.getElem?_eq_none_iff.mpr (by omega)
end

/-! ### dicts whose keys are tuples, of any depth -/
mutual
/-- what is the key k -/
inductive NRep (K : PySem.W.Frag) (B : Hp) : V → NestedKey → Prop
  | none : NRep K B .non .none
  | num (i : Int) : NRep K B (.int i) (.num i)
  | text (x : Str) : NRep K B (.str x) (.text x)
  | tup {a : Addr} {vs : List V} {ks : List NestedKey} : SqT K B a vs → NReps K B vs ks → NRep K B (.ref a) (.tup ks)
inductive NReps (K : PySem.W.Frag) (B : Hp) : List V → List NestedKey → Prop
  | nil : NReps K B [] []
  | cons {v : V} {vs : List V} {k : NestedKey} {ks : List NestedKey} : NRep K B v k → NReps K B vs ks → NReps K B (v :: vs) (k :: ks)
end
mutual
theorem NRep.mono {K : PySem.W.Frag} {B B' : Hp} (e : Ex B B') : ∀ {v : V} {k : NestedKey}, NRep K B v k → NRep K B' v k
  | _, _, .none => .none
  | _, _, .num i => .num i
  | _, _, .text x => .text x
  | _, _, .tup h r => .tup (e.t h) (NReps.mono e r)
theorem NReps.mono {K : PySem.W.Frag} {B B' : Hp} (e : Ex B B') : ∀ {vs : List V} {ks : List NestedKey}, NReps K B vs ks → NReps K B' vs ks
  | _, _, .nil => .nil
  | _, _, .cons r t => .cons (NRep.mono e r) (NReps.mono e t)
end
abbrev NEs := List (NestedKey × Addr × Value)
/-- such a dict's object: its entries -/
def NDct (hash : NestedKey → Int) (a : Addr) (xs : NEs) : Heap → Prop := fun h => xs.length ≤ sizeLine ∧ (a == sysModules) = false ∧ (∀ x ∈ xs, x.1.depth ≤ 8) ∧ (xs.map (·.1)).Nodup ∧
  ∃ o es ep, h.get? a = some o ∧ o.ExactDict ∧ o.data = .dict es ep ∧ es.toList = xs.map fun x => (⟨hash x.1, .ref x.2.1, x.2.2⟩ : DictEntry)
/-! ### the store, the slots -/
inductive RepO (P : Pm) (B : Hp) (A : Nat → Addr) (n : Nat) (H : Hp) (a : Addr) : MO → Prop
  | lst {vs : List V} {ds : List D} : H a = some (.lst vs) → Reps P.K B A n vs ds → RepO P B A n H a (.lst ds)
  | dct {kvs : List (Key × V)} {kds : List (Key × D)} : H a = some (.dK kvs) → Paired (fun (p : Key × V) (q : Key × D) => p.1 = q.1 ∧ Rep P.K B A n p.2 q.2) kvs kds → RepO P B A n H a (.dct kds)
  | dcn {xs : NEs} {kds : List (NestedKey × D)} : H a = some (.ext (NDct P.NH a xs)) → (∀ x ∈ xs, NRep P.K B (.ref x.2.1) x.1) →
      Paired (fun (p : NestedKey × Addr × Value) (q : NestedKey × D) => p.1 = q.1 ∧ ∃ v, RelV v p.2.2 ∧ Rep P.K B A n v q.2) xs kds → RepO P B A n H a (.dcn kds)
  | obj {c : Nat} {dx : Addr} {fs : List (Str × V)} {fds : List (Str × D)} : H a = some (.ins (P.CA c) dx fs) → Paired (fun (p : Str × V) (q : Str × D) => p.1 = q.1 ∧ Rep P.K B A n p.2 q.2) fs fds → RepO P B A n H a (.obj c fds)
theorem RepO.at {P : Pm} {B : Hp} {A : Nat → Addr} {n : Nat} {H : Hp} {a : Addr} {o : MO} (r : RepO P B A n H a o) : ∃ u, H a = some u := by
  cases r with
  | lst h _ => exact ⟨_, h⟩
  | dct h _ => exact ⟨_, h⟩
  | dcn h _ _ => exact ⟨_, h⟩
  | obj h _ => exact ⟨_, h⟩
theorem RepO.mono {P : Pm} {B B' : Hp} {A A' : Nat → Addr} {n n' : Nat} {H H' : Hp} {a : Addr} {o : MO} (l : Le B A n B' A' n') (e : ∀ u, H a = some u → H' a = some u) (r : RepO P B A n H a o) : RepO P B' A' n' H' a o := by
  cases r with
  | lst h r => exact .lst (e _ h) (r.mono l)
  | dct h r => exact .dct (e _ h) (L2.Paired.mapP r fun _ _ q => ⟨q.1, q.2.mono l⟩)
  | dcn h k r => exact .dcn (e _ h) (fun x hx => (k x hx).mono l.ex) (L2.Paired.mapP r fun _ _ ⟨q1, v, q2, q3⟩ => ⟨q1, v, q2, q3.mono l⟩)
  | obj h r => exact .obj (e _ h) (L2.Paired.mapP r fun _ _ q => ⟨q.1, q.2.mono l⟩)
/-- what tells no table -/
def NoT (o : HO) : Prop := ∀ ps, o ≠ .tbl ps
theorem codeO_dct {c a : Addr} {q : Str} {hash : NestedKey → Int} {xs : NEs} : LamX.CodeO c q ≠ .ext (NDct hash a xs) := fun e => by
  unfold LamX.CodeO at e
  injection e with e
  have e1 := congrFun e ⟨Array.replicate (c + 1) { cls := .none, data := .fields #[.none, .str q 0] }, {}⟩
  have hg : ∀ b o, (⟨Array.replicate (c + 1) { cls := .none, data := .fields #[.none, .str q 0] }, {}⟩ : Heap).get? b = some o → o = { cls := .none, data := .fields #[.none, .str q 0] } := fun b o hb => by
    obtain ⟨h1, _⟩ := Heap.get?_some_iff.mp hb
    have h2 := Array.getElem?_eq_some_iff.mp h1
    obtain ⟨h3, h4⟩ := h2
    rw [← h4]
    simp
  have hc : (⟨Array.replicate (c + 1) { cls := .none, data := .fields #[.none, .str q 0] }, {}⟩ : Heap).get? c = some { cls := .none, data := .fields #[.none, .str q 0] } := Heap.get?_some_iff.mpr ⟨by simp, rfl⟩
  have h1 : ∃ (oc : Obj) (vs : Array Value) (t : Tok), (⟨Array.replicate (c + 1) { cls := .none, data := .fields #[.none, .str q 0] }, {}⟩ : Heap).get? c = some oc ∧ oc.data = .fields vs ∧ vs[1]? = some (.str q t) := ⟨_, _, 0, hc, rfl, rfl⟩
  have h2 : NDct hash a xs (⟨Array.replicate (c + 1) { cls := .none, data := .fields #[.none, .str q 0] }, {}⟩ : Heap) := (eq_iff_iff.mp e1).mp h1
  obtain ⟨_, _, _, _, o, es, ep, h3, _, h4, _⟩ := h2
  rw [hg a o h3] at h4
  cases h4
structure SR (P : Pm) (F B : Hp) (A : Nat → Addr) (m : Mem) (H : Hp) : Prop where
  ex : Ex B H
  fr : ∀ a o, F a = some o → H a = some o ∧ B a = none ∧ ∀ k u, k < m.n → m.get k = some u → A k ≠ a
  at_ : ∀ k o, k < m.n → m.get k = some o → B (A k) = none ∧ RepO P B A m.n H (A k) o
  inj : ∀ j k o u, j < m.n → k < m.n → m.get j = some o → m.get k = some u → A j = A k → j = k
  tb : LamX.Tabs P.T H
  nb : ∀ a ps, B a ≠ some (.tbl ps)
  nf : ∀ a ps, F a ≠ some (.tbl ps)
  xd : ∀ p, P.XD = some p → H p.1 = some (.xd [(p.2.1, .int p.2.2)])
/-- a cell is no table, no code object -/
theorem RepO.noT {P : Pm} {B : Hp} {A : Nat → Addr} {n : Nat} {H : Hp} {a : Addr} {o : MO} (r : RepO P B A n H a o) : (∀ ps, H a ≠ some (.tbl ps)) ∧ (∀ c q, H a ≠ some (LamX.CodeO c q)) ∧ ∀ fs, H a ≠ some (.xd fs) := by
  cases r with
  | lst h _ => exact ⟨fun ps e => (by rw [h] at e; cases e), fun c q e => (by rw [h] at e; unfold LamX.CodeO at e; cases e), fun fs e => (by rw [h] at e; cases e)⟩
  | dct h _ => exact ⟨fun ps e => (by rw [h] at e; cases e), fun c q e => (by rw [h] at e; unfold LamX.CodeO at e; cases e), fun fs e => (by rw [h] at e; cases e)⟩
  | dcn h _ _ => exact ⟨fun ps e => (by rw [h] at e; cases e), fun c q e => (by rw [h] at e; exact codeO_dct (Option.some.inj e).symm), fun fs e => (by rw [h] at e; cases e)⟩
  | obj h _ => exact ⟨fun ps e => (by rw [h] at e; cases e), fun c q e => (by rw [h] at e; unfold LamX.CodeO at e; cases e), fun fs e => (by rw [h] at e; cases e)⟩
/-- a thing that is no table and no code object is changed -/
theorem tabs_upd {T : List (Addr × Str)} {H : Hp} {p : Addr} {u : HO} (t : LamX.Tabs T H) (h1 : ∀ ps, H p ≠ some (.tbl ps)) (h2 : ∀ c q, H p ≠ some (LamX.CodeO c q)) : LamX.Tabs T (upd H p u) := fun x hx => by
  obtain ⟨ps, e1, e2, e3⟩ := t x hx
  refine ⟨ps, ?_, e2, fun pos cv hc => ?_⟩
  · rw [upd_ne (fun z => h1 ps (by rw [← z]; exact e1))]
    exact e1
  · obtain ⟨c, e4, e5⟩ := e3 pos cv hc
    refine ⟨c, e4, ?_⟩
    rw [upd_ne (fun z => h2 c x.2 (by rw [← z]; exact e5))]
    exact e5
theorem xd_upd {o : Option (Addr × Str × Int)} {H : Hp} {p : Addr} {u : HO} (t : ∀ p, o = some p → H p.1 = some (.xd [(p.2.1, .int p.2.2)])) (h1 : ∀ fs, H p ≠ some (.xd fs)) : ∀ p', o = some p' → upd H p u p'.1 = some (.xd [(p'.2.1, .int p'.2.2)]) := fun q hq => by
  rw [upd_ne (fun z => h1 _ (by rw [← z]; exact t q hq))]
  exact t q hq
theorem nb_upd {B : Hp} {p : Addr} {o : HO} (h : ∀ a ps, B a ≠ some (.tbl ps)) (ho : NoT o) : ∀ a ps, upd B p o a ≠ some (.tbl ps) := fun a ps e => by
  by_cases ha : a = p
  · rw [ha, upd_same] at e
    exact ho ps (Option.some.inj e)
  · rw [upd_ne ha] at e
    exact h a ps e
section
variable {P : Pm} {F B B' : Hp} {A A' : Nat → Addr} {m m' : Mem} {H H' : Hp}
/-- the heap grows -/
theorem SR.grow (s : SR P F B A m H) (e : Ex H H') : SR P F B A m H' := ⟨s.ex.trans e, fun a o h => ⟨e _ _ (s.fr a o h).1, (s.fr a o h).2⟩, fun k o hk ho => ⟨(s.at_ k o hk ho).1, (s.at_ k o hk ho).2.mono Le.refl fun u hu => e _ _ hu⟩, s.inj, s.tb.ext e, s.nb, s.nf, fun p h => e _ _ (s.xd p h)⟩
/-- a new thing that will not change -/
theorem SR.frozen {p : Addr} {o : HO} (s : SR P F B A m H) (h : H p = none) (ho : NoT o := by intro ps e; cases e) : SR P F (upd B p o) A m (upd H p o) := by
  have hb : B p = none := s.ex.back h
  refine ⟨fun a u e => ?_, fun a u e => ?_, fun k u hk hu => ?_, s.inj, s.tb.ext (Ex.new h), nb_upd s.nb ho, s.nf, fun p q => Ex.new h _ _ (s.xd p q)⟩
  · by_cases ha : a = p
    · rw [ha, upd_same] at e ⊢
      exact e
    · rw [upd_ne ha] at e ⊢
      exact s.ex a u e
  · obtain ⟨h1, h2, h3⟩ := s.fr a u e
    have ne : a ≠ p := ne_of_none h1 h
    exact ⟨by rw [upd_ne ne]; exact h1, by rw [upd_ne ne]; exact h2, h3⟩
  · obtain ⟨h1, h2⟩ := s.at_ k u hk hu
    obtain ⟨w, hw⟩ := h2.at
    have ne : A k ≠ p := ne_of_none hw h
    exact ⟨by rw [upd_ne ne]; exact h1, h2.mono (Le.base (Ex.new hb)) fun x hx => by rw [upd_ne ne]; exact hx⟩
/-- A with one more -/
def cons1 (A : Nat → Addr) (n : Nat) (p : Addr) : Nat → Addr := fun k => if k = n then p else A k
theorem cons1_at {A : Nat → Addr} {n : Nat} {p : Addr} : cons1 A n p n = p := by unfold cons1; rw [if_pos rfl]
theorem cons1_ne {A : Nat → Addr} {n k : Nat} {p : Addr} (h : k < n) : cons1 A n p k = A k := by unfold cons1; rw [if_neg (Nat.ne_of_lt h)]
theorem SR.leNew (s : SR P F B A m H) (p : Addr) (o : MO) : Le B A m.n B (cons1 A m.n p) (m.new o).n := ⟨Ex.refl B, Nat.le_succ _, fun _ h => cons1_ne h⟩
/-- a new thing that may change -/
theorem SR.new {p : Addr} {o : MO} {u : HO} (s : SR P F B A m H) (h : H p = none) (r : RepO P B (cons1 A m.n p) (m.n + 1) (upd H p u) p o) : SR P F B (cons1 A m.n p) (m.new o) (upd H p u) := by
  have hb : B p = none := s.ex.back h
  have live : ∀ k w, k < m.n → m.get k = some w → A k ≠ p := fun k w hk hw => by
    obtain ⟨x, hx⟩ := (s.at_ k w hk hw).2.at
    exact ne_of_none hx h
  refine ⟨s.ex.mut hb, fun a w e => ?_, fun k w hk hw => ?_, fun j k w x hj hk hw hx e => ?_, s.tb.ext (Ex.new h), s.nb, s.nf, fun p q => Ex.new h _ _ (s.xd p q)⟩
  · obtain ⟨h1, h2, h3⟩ := s.fr a w e
    have ne : a ≠ p := ne_of_none h1 h
    refine ⟨by rw [upd_ne ne]; exact h1, h2, fun k x hk hx => ?_⟩
    by_cases ek : k = m.n
    · rw [ek, cons1_at]
      exact Ne.symm ne
    · have hk' : k < m.n := by
        have : k < m.n + 1 := hk
        omega
      have q : (m.new o).get k = m.get k := by
        show (if k = m.n then some o else m.get k) = m.get k
        rw [if_neg ek]
      rw [q] at hx
      rw [cons1_ne hk']
      exact h3 k x hk' hx
  · by_cases e : k = m.n
    · have q : (m.new o).get k = some o := by
        show (if k = m.n then some o else m.get k) = some o
        rw [if_pos e]
      rw [q] at hw
      cases hw
      rw [e, cons1_at]
      exact ⟨hb, r⟩
    · have hk' : k < m.n := by
        have : k < m.n + 1 := hk
        omega
      have q : (m.new o).get k = m.get k := by
        show (if k = m.n then some o else m.get k) = m.get k
        rw [if_neg e]
      rw [q] at hw
      rw [cons1_ne hk']
      obtain ⟨h1, h2⟩ := s.at_ k w hk' hw
      exact ⟨h1, h2.mono (s.leNew p o) fun x hx => by rw [upd_ne (live k w hk' hw)]; exact hx⟩
  · have get : ∀ i, i ≠ m.n → (m.new o).get i = m.get i := fun i hi => by
      show (if i = m.n then some o else m.get i) = m.get i
      rw [if_neg hi]
    have hj' : j < m.n + 1 := hj
    have hk' : k < m.n + 1 := hk
    by_cases ej : j = m.n
    · by_cases ek : k = m.n
      · rw [ej, ek]
      · rw [get k ek] at hx
        rw [ej, cons1_at, cons1_ne (by omega)] at e
        exact absurd e.symm (live k x (by omega) hx)
    · rw [get j ej] at hw
      by_cases ek : k = m.n
      · rw [ek, cons1_at, cons1_ne (by omega)] at e
        exact absurd e (live j w (by omega) hw)
      · rw [get k ek] at hx
        rw [cons1_ne (by omega), cons1_ne (by omega)] at e
        exact s.inj j k w x (by omega) (by omega) hw hx e
/-- a thing is changed -/
theorem SR.put {k : Nat} {o o' : MO} {u : HO} (s : SR P F B A m H) (hk : k < m.n) (h : m.get k = some o) (r : RepO P B A m.n (upd H (A k) u) (A k) o') : SR P F B A (m.put k o') (upd H (A k) u) := by
  have hb := (s.at_ k o hk h).1
  have hz := (s.at_ k o hk h).2.noT
  refine ⟨s.ex.mut hb, fun a w e => ?_, fun j w hj hw => ?_, fun i j w x hi hj hw hx e => ?_, tabs_upd s.tb hz.1 hz.2.1, s.nb, s.nf, xd_upd s.xd hz.2.2⟩
  · obtain ⟨h1, h2, h3⟩ := s.fr a w e
    have ne : a ≠ A k := Ne.symm (h3 k o hk h)
    refine ⟨by rw [upd_ne ne]; exact h1, h2, fun j x hj hx => ?_⟩
    by_cases ej : j = k
    · rw [ej]
      exact Ne.symm ne
    · have q : (m.put k o').get j = m.get j := by
        show (if j = k then some o' else m.get j) = m.get j
        rw [if_neg ej]
      rw [q] at hx
      exact h3 j x hj hx
  · by_cases e : j = k
    · have q : (m.put k o').get j = some o' := by
        show (if j = k then some o' else m.get j) = some o'
        rw [if_pos e]
      rw [q] at hw
      cases hw
      rw [e]
      exact ⟨hb, r⟩
    · have q : (m.put k o').get j = m.get j := by
        show (if j = k then some o' else m.get j) = m.get j
        rw [if_neg e]
      rw [q] at hw
      obtain ⟨h1, h2⟩ := s.at_ j w hj hw
      have ne : A j ≠ A k := fun z => e (s.inj j k w o hj hk hw h z)
      exact ⟨h1, h2.mono Le.refl fun x hx => by rw [upd_ne ne]; exact hx⟩
  · have some_of : ∀ i w, (m.put k o').get i = some w → ∃ w', m.get i = some w' := fun i w hw => by
      by_cases e : i = k
      · rw [e]
        exact ⟨o, h⟩
      · have q : (m.put k o').get i = m.get i := by
          show (if i = k then some o' else m.get i) = m.get i
          rw [if_neg e]
        rw [q] at hw
        exact ⟨w, hw⟩
    obtain ⟨w', hw'⟩ := some_of i w hw
    obtain ⟨x', hx'⟩ := some_of j x hx
    exact s.inj i j w' x' hi hj hw' hx' e
end
/-- the slots -/
structure EnvR (K : PySem.W.Frag) (B : Hp) (A : Nat → Addr) (n : Nat) (σ : L2.St) (ρ : Ev) : Prop where
  len : σ.length = ρ.length
  at_ : ∀ (i : Nat) (d : D), ρ[i]? = some (some d) → ∃ v, σ[i]? = some (some v) ∧ Rep K B A n v d
section
variable {K : PySem.W.Frag} {B B' : Hp} {A A' : Nat → Addr} {n n' : Nat} {σ : L2.St} {ρ : Ev}
theorem EnvR.mono (l : Le B A n B' A' n') (e : EnvR K B A n σ ρ) : EnvR K B' A' n' σ ρ := ⟨e.len, fun i d h => let ⟨v, h1, h2⟩ := e.at_ i d h; ⟨v, h1, h2.mono l⟩⟩
theorem EnvR.set {v : V} {d : D} (e : EnvR K B A n σ ρ) (r : Rep K B A n v d) (i : Nat) : EnvR K B A n (σ.set i (some v)) (ρ.set i (some d)) := by
  refine ⟨by rw [List.length_set, List.length_set, e.len], fun j x h => ?_⟩
  by_cases hj : j = i
  · subst hj
    have hl : j < ρ.length := by
      have := (List.getElem?_eq_some_iff.mp h).1
      rw [List.length_set] at this
      exact this
    rw [List.getElem?_set_self hl] at h
    cases h
    exact ⟨v, by rw [List.getElem?_set_self (by rw [e.len]; exact hl)], r⟩
  · rw [List.getElem?_set_ne (Ne.symm hj)] at h ⊢
    exact e.at_ j x h
theorem EnvR.start {vs : List V} {ds : List D} {N : List Str} (r : Reps K B A n vs ds) : EnvR K B A n (L2.start N vs) (LB.start N.length ds) := by
  have hl := r.length
  refine ⟨by simp [L2.start, LB.start, hl], fun i d h => ?_⟩
  unfold LB.start at h
  unfold L2.start
  rw [List.getElem?_append] at h ⊢
  rw [List.length_map] at h ⊢
  by_cases hi : i < ds.length
  · rw [if_pos hi, List.getElem?_map] at h
    rw [if_pos (by rw [hl]; exact hi), List.getElem?_map]
    cases hd : ds[i]? with
    | none => rw [hd] at h; cases h
    | some d' =>
      rw [hd] at h
      simp only [Option.map_some, Option.some.injEq] at h
      subst h
      obtain ⟨v, hv, rv⟩ := r.get hd
      exact ⟨v, by rw [hv]; rfl, rv⟩
  · rw [if_neg hi] at h
    have := List.mem_of_getElem? h
    rw [List.mem_replicate] at this
    exact absurd this.2 (by simp)
end

/-! ### the readings -/
def RepX (P : Pm) (B : Hp) (A : Nat → Addr) (n : Nat) (H : Hp) (e : Er) (c : Value) (dd : Option Addr) : Prop :=
  c = .ref (P.CA e.cls) ∧ match e.fld with
    | none => dd = none
    | some d => ∃ a v, dd = some a ∧ H a = some (.xd [(P.XN e.cls, v)]) ∧ Rep P.K B A n v d
section
variable (P : Pm) (E : XK)
def exV (F B : Hp) (A : Nat → Addr) (n : Nat) : Er → Mem → Prop := fun e m' => ∀ B' A' H' c dd, Le B A n B' A' m'.n → SR P F B' A' m' H' → RepX P B' A' m'.n H' e c dd → E c dd H'
def okD (F B : Hp) (A : Nat → Addr) (n : Nat) (Q : VK) : D → Mem → Prop := fun d m' => ∀ B' A' H' v, Le B A n B' A' m'.n → SR P F B' A' m' H' → Rep P.K B' A' m'.n v d → Q v H'
def okT (F B : Hp) (A : Nat → Addr) (n : Nat) (Q : Bool → Hp → Prop) : Bool → Mem → Prop := fun b m' => ∀ B' A' H', Le B A n B' A' m'.n → SR P F B' A' m' H' → Q b H'
def okA (F B : Hp) (A : Nat → Addr) (n : Nat) (Q : List V → Hp → Prop) : List D → Mem → Prop := fun ds m' => ∀ B' A' H' vs, Le B A n B' A' m'.n → SR P F B' A' m' H' → Reps P.K B' A' m'.n vs ds → Q vs H'
def okS (F B : Hp) (A : Nat → Addr) (n : Nat) (D : Ends) : Fl × Ev → Mem → Prop := fun r m' => ∀ B' A' H' σ', Le B A n B' A' m'.n → SR P F B' A' m' H' → EnvR P.K B' A' m'.n σ' r.2 →
  match r.1 with
    | .nx => D.nx σ' H'
    | .bk => D.bk σ' H'
    | .ct => D.ct σ' H'
    | .rt d => ∀ v, Rep P.K B' A' m'.n v d → D.rt v H'
def tX (f : SE) : TE := fun σ H Q => ∃ F B A ρ m, SR P F B A m H ∧ EnvR P.K B A m.n σ ρ ∧ (f ρ m).wp (okD P F B A m.n Q) (exV P E F B A m.n)
def tXT (f : SB) : TT := fun σ H Q => ∃ F B A ρ m, SR P F B A m H ∧ EnvR P.K B A m.n σ ρ ∧ (f ρ m).wp (okT P F B A m.n Q) (exV P E F B A m.n)
def tXA (f : SA) : TA := fun σ H Q => ∃ F B A ρ m, SR P F B A m H ∧ EnvR P.K B A m.n σ ρ ∧ (f ρ m).wp (okA P F B A m.n Q) (exV P E F B A m.n)
def tXS (f : SS) : TS := fun D σ H => ∃ F B A ρ m, SR P F B A m H ∧ EnvR P.K B A m.n σ ρ ∧ (f ρ m).wp (okS P F B A m.n D) (exV P E F B A m.n)
end
section
variable {P : Pm} {E : XK} {F B B' : Hp} {A A' : Nat → Addr} {n n' : Nat}
theorem exV.le {e : Er} {m : Mem} (l : Le B A n B' A' n') (h : exV P E F B A n e m) : exV P E F B' A' n' e m := fun B2 A2 H2 c dd l2 => h B2 A2 H2 c dd (l.trans l2)
theorem okD.le {Q : VK} {d : D} {m : Mem} (l : Le B A n B' A' n') (h : okD P F B A n Q d m) : okD P F B' A' n' Q d m := fun B2 A2 H2 v l2 => h B2 A2 H2 v (l.trans l2)
theorem okT.le {Q : Bool → Hp → Prop} {d : Bool} {m : Mem} (l : Le B A n B' A' n') (h : okT P F B A n Q d m) : okT P F B' A' n' Q d m := fun B2 A2 H2 l2 => h B2 A2 H2 (l.trans l2)
theorem okA.le {Q : List V → Hp → Prop} {d : List D} {m : Mem} (l : Le B A n B' A' n') (h : okA P F B A n Q d m) : okA P F B' A' n' Q d m := fun B2 A2 H2 v l2 => h B2 A2 H2 v (l.trans l2)
theorem okS.le {Q : Ends} {r : Fl × Ev} {m : Mem} (l : Le B A n B' A' n') (h : okS P F B A n Q r m) : okS P F B' A' n' Q r m := fun B2 A2 H2 v l2 => h B2 A2 H2 v (l.trans l2)
end

/-! ### weakening the judgements -/
end LB

set_option Elab.async false
set_option linter.all false
set_option autoImplicit false
set_option maxRecDepth 100000
set_option maxHeartbeats 2000000
/-! Readings of pure functions, construct by construct: expressions, tests, arguments, statements, loops, comprehensions. -/
namespace LB
open PySem PySem.Spec PyProof.Rows L2

section
variable {P : Pm} {E : XK} {F B : Hp} {A : Nat → Addr} {n : Nat}
end

section
variable {X : Cx} {P : Pm} {E : XK} {pos : Pos}
/-! ### expressions -/
variable {a b : Expr} {fa fb : SE} {es : List Expr} {fas : SA}
variable {c : Expr} {fc : SE}
/-! one-place -/
/-! arguments -/
/-! displays -/
/-! tests -/
variable {ta tb : SB} {rest : List Expr}
/-! ### statements -/
variable {st : Stmt} {sts : List Stmt} {f1 f2 : SS} {f : SE}
/-! targets -/
end
end LB

set_option Elab.async false
set_option linter.all false
set_option autoImplicit false
set_option maxRecDepth 100000
set_option maxHeartbeats 2000000
/-! Loops, comprehensions, calls, a def's promise. -/
namespace LB
open PySem PySem.Spec PyProof.Rows L2

/-! ### what is walked -/
/-- the iterator J tells w -/
def JOk (P : Pm) (F B : Hp) (A : Nat → Addr) (n : Nat) (J : It) (w : Wk) : Prop := ∀ i F' B' A' m' H', (∀ a o, F a = some o → F' a = some o ∨ True) → Le B A n B' A' m'.n → SR P F' B' A' m' H' →
  (w i m' = some none → J.stop i H') ∧ ∀ d, w i m' = some (some d) → J.go i H' ∧ ∀ x H'', J.yld i H' x H'' → ∃ B'', Ex B' B'' ∧ SR P F' B'' A' m' H'' ∧ Rep P.K B'' A' m'.n x d
theorem JOk.le {P : Pm} {F B : Hp} {A : Nat → Addr} {n : Nat} {J : It} {w : Wk} {F' B' : Hp} {A' : Nat → Addr} {n' : Nat} (j : JOk P F B A n J w) (l : Le B A n B' A' n') : JOk P F' B' A' n' J w := fun i F2 B2 A2 m2 H2 _ l2 s2 => j i F2 B2 A2 m2 H2 (fun _ _ _ => Or.inr trivial) (l.trans l2) s2

section
variable {X : Cx} {P : Pm} {E : XK} {pos : Pos}
/-! ### comprehensions -/
/-- the frame with the list that is being made -/
theorem SR.frame {P : Pm} {F B : Hp} {A : Nat → Addr} {m : Mem} {H : Hp} {p : Addr} {o : HO} (s : SR P F B A m H) (h : H p = none) (ho : NoT o := by intro ps e; cases e) : SR P (upd F p o) B A m (upd H p o) := by
  have hb : B p = none := s.ex.back h
  have live : ∀ k w, k < m.n → m.get k = some w → A k ≠ p := fun k w hk hw => by
    obtain ⟨x, hx⟩ := (s.at_ k w hk hw).2.at
    exact ne_of_none hx h
  refine ⟨s.ex.mut hb, fun a u e => ?_, fun k u hk hu => ?_, s.inj, s.tb.ext (Ex.new h), s.nb, nb_upd s.nf ho, fun p q => Ex.new h _ _ (s.xd p q)⟩
  · by_cases ha : a = p
    · rw [ha, upd_same] at e ⊢
      exact ⟨e, hb, live⟩
    · rw [upd_ne ha] at e ⊢
      exact s.fr a u e
  · obtain ⟨h1, h2⟩ := s.at_ k u hk hu
    exact ⟨h1, h2.mono Le.refl fun x hx => by rw [upd_ne (live k u hk hu)]; exact hx⟩
end

/-! ### calls, promises -/
section
variable {X : Cx} {P : Pm} {E : XK} {pos : Pos} {k : Nat} {f : Addr} {fd : FuncData} {ps : List Str} {mf : Fn} {x : Str} {fas : SA}
end
end LB

set_option Elab.async false
set_option linter.all false
set_option autoImplicit false
set_option maxRecDepth 100000
set_option maxHeartbeats 2000000
/-! The operations on data, and a def's promise from its body. -/
namespace LB
open PySem PySem.Spec PyProof.Rows L2

/-! ### a def's promise -/
section
variable {K : PySem.W.Frag} {B : Hp} {A : Nat → Addr} {n n' : Nat}
mutual
theorem Rep.blw : ∀ {v : V} {d : D}, Rep K B A n v d → d.blw n = true
  | _, _, .non => rfl
  | _, _, .bl b => rfl
  | _, _, .int i => rfl
  | _, _, .str x => rfl
  | _, _, .tup _ r => Reps.blw r
  | _, _, .lst _ r => Reps.blw r
  | _, _, .loc h _ => decide_eq_true h
  | _, _, .ref => rfl
  | _, _, .scr _ => rfl
theorem Reps.blw : ∀ {vs : List V} {ds : List D}, Reps K B A n vs ds → blws n ds = true
  | _, _, .nil => rfl
  | _, _, .cons r t => by
    show (_ && _) = true
    rw [Rep.blw r, Reps.blw t]
    rfl
end
mutual
theorem Rep.cut : ∀ {v : V} {d : D}, Rep K B A n v d → d.blw n' = true → Rep K B A n' v d
  | _, _, .non, _ => .non
  | _, _, .bl b, _ => .bl b
  | _, _, .int i, _ => .int i
  | _, _, .str x, _ => .str x
  | _, _, .tup h r, q => .tup h (Reps.cut r q)
  | _, _, .lst h r, q => .lst h (Reps.cut r q)
  | _, _, .loc _ e, q => .loc (of_decide_eq_true q) e
  | _, _, .ref, _ => .ref
  | _, _, .scr h, _ => .scr h
theorem Reps.cut : ∀ {vs : List V} {ds : List D}, Reps K B A n vs ds → blws n' ds = true → Reps K B A n' vs ds
  | _, _, .nil, _ => .nil
  | _, _, .cons (d := d) (ds := ds) r t, q => by
    have z : (d.blw n' && blws n' ds) = true := q
    rw [Bool.and_eq_true] at z
    exact .cons (Rep.cut r z.1) (Reps.cut t z.2)
end
mutual
theorem D.blw_mono (h : n ≤ n') : ∀ d : D, d.blw n = true → d.blw n' = true
  | .non, _ => rfl
  | .bl _, _ => rfl
  | .int _, _ => rfl
  | .str _, _ => rfl
  | .ref _, _ => rfl
  | .scr _, _ => rfl
  | .loc k, q => decide_eq_true (Nat.lt_of_lt_of_le (of_decide_eq_true q) h)
  | .tup xs, q => blws_mono h xs q
  | .lst xs, q => blws_mono h xs q
theorem blws_mono (h : n ≤ n') : ∀ ds : List D, blws n ds = true → blws n' ds = true
  | [], _ => rfl
  | d :: ds, q => by
    have z : (d.blw n && blws n ds) = true := q
    rw [Bool.and_eq_true] at z
    show (_ && _) = true
    rw [D.blw_mono h d z.1, blws_mono h ds z.2]
    rfl
end
end
theorem MO.blw_mono {n n' : Nat} (h : n ≤ n') (o : MO) (q : o.blw n = true) : o.blw n' = true := by
  cases o with
  | lst xs => exact blws_mono h xs q
  | dct kvs =>
    have z : kvs.all (fun p => p.2.blw n) = true := q
    rw [List.all_eq_true] at z
    show kvs.all (fun p => p.2.blw n') = true
    rw [List.all_eq_true]
    exact fun p hp => D.blw_mono h _ (z p hp)
  | dcn kvs =>
    have z : kvs.all (fun p => p.2.blw n) = true := q
    rw [List.all_eq_true] at z
    show kvs.all (fun p => p.2.blw n') = true
    rw [List.all_eq_true]
    exact fun p hp => D.blw_mono h _ (z p hp)
  | obj c fs =>
    have z : fs.all (fun p => p.2.blw n) = true := q
    rw [List.all_eq_true] at z
    show fs.all (fun p => p.2.blw n') = true
    rw [List.all_eq_true]
    exact fun p hp => D.blw_mono h _ (z p hp)
theorem paired_blw {κ : Type} {K : PySem.W.Frag} {B : Hp} {A : Nat → Addr} {n : Nat} : ∀ {kvs : List (κ × V)} {kds : List (κ × D)}, Paired (fun (p : κ × V) (q : κ × D) => p.1 = q.1 ∧ Rep K B A n p.2 q.2) kvs kds → ∀ p ∈ kds, p.2.blw n = true
  | _, _, .nil, p, hp => nomatch hp
  | _, _, .cons r t, p, hp => by
    rcases List.mem_cons.mp hp with rfl | hp
    · exact r.2.blw
    · exact paired_blw t p hp
theorem paired_cut {κ : Type} {K : PySem.W.Frag} {B : Hp} {A : Nat → Addr} {n n' : Nat} : ∀ {kvs : List (κ × V)} {kds : List (κ × D)}, Paired (fun (p : κ × V) (q : κ × D) => p.1 = q.1 ∧ Rep K B A n p.2 q.2) kvs kds → (∀ p ∈ kds, p.2.blw n' = true) →
    Paired (fun (p : κ × V) (q : κ × D) => p.1 = q.1 ∧ Rep K B A n' p.2 q.2) kvs kds
  | _, _, .nil, _ => .nil
  | _, _, .cons r t, h => .cons ⟨r.1, r.2.cut (h _ List.mem_cons_self)⟩ (paired_cut t fun p hp => h p (List.mem_cons_of_mem _ hp))
theorem pairedN_blw {K : PySem.W.Frag} {B : Hp} {A : Nat → Addr} {n : Nat} : ∀ {xs : NEs} {kds : List (NestedKey × D)}, Paired (fun (p : NestedKey × Addr × Value) (q : NestedKey × D) => p.1 = q.1 ∧ ∃ v, RelV v p.2.2 ∧ Rep K B A n v q.2) xs kds → ∀ p ∈ kds, p.2.blw n = true
  | _, _, .nil, p, hp => nomatch hp
  | _, _, .cons ⟨_, _, _, r⟩ t, p, hp => by
    rcases List.mem_cons.mp hp with rfl | hp
    · exact r.blw
    · exact pairedN_blw t p hp
theorem pairedN_cut {K : PySem.W.Frag} {B : Hp} {A : Nat → Addr} {n n' : Nat} : ∀ {xs : NEs} {kds : List (NestedKey × D)}, Paired (fun (p : NestedKey × Addr × Value) (q : NestedKey × D) => p.1 = q.1 ∧ ∃ v, RelV v p.2.2 ∧ Rep K B A n v q.2) xs kds → (∀ p ∈ kds, p.2.blw n' = true) →
    Paired (fun (p : NestedKey × Addr × Value) (q : NestedKey × D) => p.1 = q.1 ∧ ∃ v, RelV v p.2.2 ∧ Rep K B A n' v q.2) xs kds
  | _, _, .nil, _ => .nil
  | _, _, .cons ⟨e, v, rv, r⟩ t, h => .cons ⟨e, v, rv, r.cut (h _ List.mem_cons_self)⟩ (pairedN_cut t fun p hp => h p (List.mem_cons_of_mem _ hp))
section
variable {P : Pm} {F B B' : Hp} {A A' : Nat → Addr} {n n' : Nat} {H : Hp} {a : Addr} {o : MO}
theorem RepO.blw (r : RepO P B A n H a o) : o.blw n = true := by
  cases r with
  | lst _ r => exact r.blw
  | dct _ r => exact List.all_eq_true.mpr (paired_blw r)
  | dcn _ _ r => exact List.all_eq_true.mpr (pairedN_blw r)
  | obj _ r => exact List.all_eq_true.mpr (paired_blw r)
theorem RepO.cut (r : RepO P B A n H a o) (h : o.blw n' = true) : RepO P B A n' H a o := by
  cases r with
  | lst e r => exact .lst e (r.cut h)
  | dct e r => exact .dct e (paired_cut r (List.all_eq_true.mp h))
  | dcn e k r => exact .dcn e k (pairedN_cut r (List.all_eq_true.mp h))
  | obj e r => exact .obj e (paired_cut r (List.all_eq_true.mp h))
theorem SR.cut {m0 m1 m2 : Mem} {H0 H2 : Hp} {F0 : Hp} (s0 : SR P F0 B A m0 H0) (s2 : SR P F B' A' m2 H2) (t : Tr m0 m1 m2) : SR P F B' A' m1 H2 := by
  obtain ⟨h0, h1, h⟩ := t
  have old : ∀ k u, k < m1.n → m1.get k = some u → m2.get k = some u := fun k u hk hu => by
    rcases h k hk with e | e
    · rw [e] at hu
      cases hu
    · rw [← e.1]
      exact hu
  refine ⟨s2.ex, fun a o e => ⟨(s2.fr a o e).1, (s2.fr a o e).2.1, fun k u hk hu => (s2.fr a o e).2.2 k u (Nat.lt_of_lt_of_le hk h1) (old k u hk hu)⟩, fun k o hk ho => ?_,
    fun j k o u hj hk ho hu e => s2.inj j k o u (Nat.lt_of_lt_of_le hj h1) (Nat.lt_of_lt_of_le hk h1) (old j o hj ho) (old k u hk hu) e, s2.tb, s2.nb, s2.nf, s2.xd⟩
  obtain ⟨k1, k2⟩ := s2.at_ k o (Nat.lt_of_lt_of_le hk h1) (old k o hk ho)
  refine ⟨k1, k2.cut ?_⟩
  rcases h k hk with e | ⟨_, e⟩
  · rw [e] at ho
    cases ho
  · rcases e with ⟨e1, e2⟩ | e
    · rw [e2] at ho
      exact MO.blw_mono h0 o (s0.at_ k o e1 ho).2.blw
    · exact e o ho
end
section
variable {Pg : Program} {w : World} {K : PySem.W.Frag} {mg : Str → Option Value} {base : Heap} {P : Pm}
end

/-! ### operations -/
section
variable {P : Pm} {F B : Hp} {A : Nat → Addr} {m : Mem} {H : Hp} {v : V} {d : D}
/-! subscripts -/
/-! equality -/
mutual
theorem isFlat_V : ∀ {v : V} {d : D} {n : Nat}, Rep P.K B A n v d → L2.flatV v = d.isFlat
  | _, _, _, .non => rfl
  | _, _, _, .bl _ => rfl
  | _, _, _, .int _ => rfl
  | _, _, _, .str _ => rfl
  | _, _, _, .tup _ _ => rfl
  | _, _, _, .lst _ _ => rfl
  | _, _, _, .loc _ _ => rfl
  | _, _, _, .ref => rfl
  | _, _, _, .scr _ => rfl
end
/-! deep equality -/
mutual
def toPy : D → PyData
  | .non => .none
  | .bl b => .bool b
  | .int i => .int i
  | .str x => .str x
  | .tup xs => .tuple (toPys xs)
  | .lst xs => .list (toPys xs)
  | .loc _ => .none
  | .ref _ => .none
  | .scr _ => .none
def toPys : List D → List PyData
  | [] => []
  | x :: xs => toPy x :: toPys xs
end
mutual
theorem toPy_lay : ∀ d : D, d.plain = true → (toPy d).canLay0 = true
  | .non, _ => by simp [toPy, PyData.canLay0]
  | .bl _, _ => by simp [toPy, PyData.canLay0]
  | .int _, _ => by simp [toPy, PyData.canLay0]
  | .str x, h => by
    have h' : x.cps.all (· < 0x110000) = true := h
    simp only [toPy, PyData.canLay0, PyData.strOk]
    exact h'
  | .tup xs, h => by simp only [toPy, PyData.canLay0]; exact toPys_lay xs h
  | .lst xs, h => by simp only [toPy, PyData.canLay0]; exact toPys_lay xs h
theorem toPys_lay : ∀ ds : List D, plains ds = true → PyData.canLayAll0 (toPys ds) = true
  | [], _ => by simp [toPys, PyData.canLayAll0]
  | d :: ds, h => by
    have z : (d.plain && plains ds) = true := h
    rw [Bool.and_eq_true] at z
    simp only [toPys, PyData.canLayAll0, toPy_lay d z.1, toPys_lay ds z.2, Bool.and_self]
end
mutual
theorem toPy_dep : ∀ d : D, (toPy d).depth = d.dep
  | .non => by simp [toPy, PyData.depth, D.dep]
  | .bl _ => by simp [toPy, PyData.depth, D.dep]
  | .int _ => by simp [toPy, PyData.depth, D.dep]
  | .str _ => by simp [toPy, PyData.depth, D.dep]
  | .loc _ => by simp [toPy, PyData.depth, D.dep]
  | .ref _ => by simp [toPy, PyData.depth, D.dep]
  | .scr _ => by simp [toPy, PyData.depth, D.dep]
  | .tup xs => by simp only [toPy, PyData.depth, D.dep, toPys_dep xs]
  | .lst xs => by simp only [toPy, PyData.depth, D.dep, toPys_dep xs]
theorem toPys_dep : ∀ ds : List D, PyData.depthAll (toPys ds) = deps ds
  | [] => by simp [toPys, PyData.depthAll, deps]
  | d :: ds => by simp only [toPys, PyData.depthAll, deps, toPy_dep d, toPys_dep ds]
end
mutual
theorem toPy_eqv : ∀ d e : D, d.plain = true → e.plain = true → PyData.eqv (toPy d) (toPy e) = d.eqv e
  | .tup xs, .tup ys, h1, h2 => by simp only [toPy, PyData.eqv, D.eqv]; exact toPys_eqv xs ys h1 h2
  | .lst xs, .lst ys, h1, h2 => by simp only [toPy, PyData.eqv, D.eqv]; exact toPys_eqv xs ys h1 h2
  | .non, e, _, h2 => by cases e <;> first | (simp [D.plain] at h2; done) | simp [toPy, PyData.eqv, D.eqv]
  | .bl _, e, _, h2 => by cases e <;> first | (simp [D.plain] at h2; done) | simp [toPy, PyData.eqv, D.eqv]
  | .int _, e, _, h2 => by cases e <;> first | (simp [D.plain] at h2; done) | simp [toPy, PyData.eqv, D.eqv]
  | .str _, e, _, h2 => by cases e <;> first | simp [toPy, PyData.eqv, D.eqv]; done | (simp [D.plain] at h2; done)
  | .tup xs, .non, _, _ => by simp [toPy, PyData.eqv, D.eqv]
  | .tup xs, .bl _, _, _ => by simp [toPy, PyData.eqv, D.eqv]
  | .tup xs, .int _, _, _ => by simp [toPy, PyData.eqv, D.eqv]
  | .tup xs, .str _, _, _ => by simp [toPy, PyData.eqv, D.eqv]
  | .tup xs, .lst _, _, _ => by simp [toPy, PyData.eqv, D.eqv]
  | .lst xs, .non, _, _ => by simp [toPy, PyData.eqv, D.eqv]
  | .lst xs, .bl _, _, _ => by simp [toPy, PyData.eqv, D.eqv]
  | .lst xs, .int _, _, _ => by simp [toPy, PyData.eqv, D.eqv]
  | .lst xs, .str _, _, _ => by simp [toPy, PyData.eqv, D.eqv]
  | .lst xs, .tup _, _, _ => by simp [toPy, PyData.eqv, D.eqv]
theorem toPys_eqv : ∀ xs ys : List D, plains xs = true → plains ys = true → PyData.eqvAll (toPys xs) (toPys ys) = eqvs xs ys
  | [], [], _, _ => by simp [toPys, PyData.eqvAll, eqvs]
  | [], y :: ys, _, _ => by simp [toPys, PyData.eqvAll, eqvs]
  | x :: xs, [], _, _ => by simp [toPys, PyData.eqvAll, eqvs]
  | x :: xs, y :: ys, h1, h2 => by
    have z1 : (x.plain && plains xs) = true := h1
    have z2 : (y.plain && plains ys) = true := h2
    rw [Bool.and_eq_true] at z1 z2
    simp only [toPys, PyData.eqvAll, eqvs, toPy_eqv x y z1.1 z2.1, toPys_eqv xs ys z1.2 z2.2]
end
mutual
theorem dp_of (ex : Ex B H) {n : Nat} : ∀ {v : V} {d : D}, Rep P.K B A n v d → d.plain = true → Dp P.K H v (toPy d)
  | _, _, .non, _ => by simp only [toPy]; exact .non
  | _, _, .bl _, _ => by simp only [toPy]; exact .bl _
  | _, _, .int _, _ => by simp only [toPy]; exact .int _
  | _, _, .str _, _ => by simp only [toPy]; exact .str _
  | _, _, .tup hq r, h => by simp only [toPy]; exact .tup (ex.t hq) (dps_of ex r h)
  | _, _, .lst hb r, h => by simp only [toPy]; exact .lst (SqL.of (ex _ _ hb)) (dps_of ex r h)
  | _, _, .loc _ _, h => by simp [D.plain] at h
  | _, _, .ref, h => by simp [D.plain] at h
  | _, _, .scr _, h => by simp [D.plain] at h
theorem dps_of (ex : Ex B H) {n : Nat} : ∀ {vs : List V} {ds : List D}, Reps P.K B A n vs ds → plains ds = true → DpAll P.K H vs (toPys ds)
  | _, _, .nil, _ => by simp only [toPys]; exact .nil
  | _, _, .cons (d := d) (ds := ds) r t, h => by
    have z : (d.plain && plains ds) = true := h
    rw [Bool.and_eq_true] at z
    simp only [toPys]
    exact .cons (dp_of ex r z.1) (dps_of ex t z.2)
end
end
/-! x in xs -/
section
variable {P : Pm} {F B : Hp} {A : Nat → Addr} {m : Mem} {H : Hp}
end
end LB

set_option Elab.async false
set_option linter.all false
set_option autoImplicit false
set_option maxRecDepth 100000
set_option maxHeartbeats 2000000
/-! Built-ins, dicts and lists of the store. -/
namespace LB
open PySem PySem.Spec PyProof.Rows L2

section
variable {X : Cx} {P : Pm} {E : XK} {pos : Pos} {e : Expr} {es : List Expr} {fas : SA} {r : List V → Hp → VK → Prop} {g : ON} {id T : String} {x : Str} {p : Pos}
end
section
variable {P : Pm}
theorem Reps.one {K : PySem.W.Frag} {B : Hp} {A : Nat → Addr} {n : Nat} {vs : List V} {d : D} (r : Reps K B A n vs [d]) : ∃ v, vs = [v] ∧ Rep K B A n v d := by
  cases r with
  | cons r t =>
    cases t
    exact ⟨_, rfl, r⟩
theorem Reps.two {K : PySem.W.Frag} {B : Hp} {A : Nat → Addr} {n : Nat} {vs : List V} {d e : D} (r : Reps K B A n vs [d, e]) : ∃ v u, vs = [v, u] ∧ Rep K B A n v d ∧ Rep K B A n u e := by
  cases r with
  | cons r t =>
    cases t with
    | cons q t =>
      cases t
      exact ⟨_, _, rfl, r, q⟩
end
end LB

set_option Elab.async false
set_option linter.all false
set_option autoImplicit false
set_option maxRecDepth 100000
set_option maxHeartbeats 2000000
/-! Slices, isinstance, dicts and lists of the store. -/
namespace LB
open PySem PySem.Spec PyProof.Rows L2

/-! ### slices -/
section
variable {X : Cx} {P : Pm} {E : XK} {pos : Pos}
/-! ### isinstance -/
variable {e : Expr} {f : SE} {p p1 p2 p3 : Pos}
/-! ### dicts of the store -/
variable {a b c : Expr} {fa fb fc : SE}
/-! a display -/
/-! ### lists of the store -/
/-! constants of the module -/
end
end LB

set_option Elab.async false
set_option linter.all false
set_option autoImplicit false
set_option maxRecDepth 100000
set_option maxHeartbeats 2000000
/-! What is walked: lists, tuples, ranges, enumerate, zip of any. -/
namespace LB
open PySem PySem.Spec PyProof.Rows L2

section
variable {X : Cx} {P : Pm} {E : XK} {pos : Pos} {tg : Expr}
def isL : D → Bool
  | .tup _ => false
  | _ => true
/-! ranges -/
end
end LB

set_option Elab.async false
set_option linter.all false
set_option autoImplicit false
set_option maxRecDepth 100000
set_option maxHeartbeats 2000000
/-! zip and enumerate over lists, tuples, texts in any mix. -/
namespace LB
open PySem PySem.Spec PyProof.Rows L2

/-- what an iterator is made of -/
inductive Src where
  | lst (a : Addr)
  | tup (a : Addr)
  | txt (x : Str) (t : Tok)
namespace Src
def val : Src → Value
  | .lst a => .ref a
  | .tup a => .ref a
  | .txt x t => .str x t
def obj : Src → Obj
  | .lst a => { cls := .type "list_iterator", data := .fields #[.ref a, .int 0 0] }
  | .tup a => { cls := .type "tuple_iterator", data := .fields #[.ref a, .int 0 0] }
  | .txt x t => { cls := .type (strIterType x), data := .fields #[.str x t, .int 0 0] }
def fp : Src → List Addr
  | .lst a => [a]
  | .tup a => [a]
  | .txt _ _ => []
def signs (x : Str) : List V := x.cps.toList.map fun c => .str ⟨#[c]⟩
def has (K : PySem.W.Frag) (H : Hp) : Src → List V → Prop
  | .lst a, xs => SqL K H a xs
  | .tup a, xs => SqT K H a xs
  | .txt x _, xs => xs = signs x
def it (e : Addr) (i : Nat) (h : Heap) : Src → Prop
  | .lst a => h.IsListIter e a i
  | .tup a => h.IsTupleIter e a i
  | .txt x t => h.IsStrIter e (strIterType x) x t i
def live (h : Heap) (its : Array Value) : Src → Prop
  | .lst a => h.IsList a its
  | .tup a => h.IsTuple a its
  | .txt _ _ => True
def len (its : Array Value) : Src → Nat
  | .lst _ => its.size
  | .tup _ => its.size
  | .txt x _ => x.cps.size
def gives (its : Array Value) : Src → Nat → Value → Prop
  | .lst _, i, v => its[i]? = some v
  | .tup _, i, v => its[i]? = some v
  | .txt x _, i, v => ∃ c u, x.cps[i]? = some c ∧ v = .str ⟨#[c]⟩ u
theorem begins (its : Array Value) : ∀ k : Src, Begins k.val k.obj fun h => k.live h its
  | .lst a => begins_list a its
  | .tup a => begins_tuple a its
  | .txt x t => begins_text x t
theorem draws {prog : Program} {w : World} {A : Around} (hh : A.handled = none) (its : Array Value) (e : Addr) : ∀ k : Src, e ∉ k.fp → Draws prog w A e (e :: k.fp) (k.len its) (k.gives its) fun i h => k.it e i h ∧ k.live h its
  | .lst a, hn => Draws.list hh e a (fun q => hn (by rw [q]; exact List.mem_singleton.mpr rfl)) its
  | .tup a, hn => Draws.tuple hh e a (fun q => hn (by rw [q]; exact List.mem_singleton.mpr rfl)) its
  | .txt x t, _ => by
    have D := Draws.text (prog := prog) (w := w) hh e x t
    exact ⟨fun i h st => D.live i h st.1, fun i h h' st hk => ⟨D.frame i h h' st.1 hk, trivial⟩, fun i s Q E hi st hQ => D.item i s Q E hi st.1 fun x' h' tk hP st' hb => hQ x' h' tk hP ⟨st', trivial⟩ hb, fun s Q E st hE => D.done s Q E st.1 hE⟩
section
variable {X : Cx} {pins : List (Addr × Obj)} {σ : L2.St} {H : Hp} {s : Shared}
/-- what the heap says of it -/
theorem seen (I : Inv X pins σ H s) : ∀ {k : Src} {xs : List V}, k.has X.K H xs → ∃ its : Array Value, k.live s.heap its ∧ k.len its = xs.length ∧ (∀ i v, k.gives its i v → ∃ x, xs[i]? = some x ∧ RelV x v) ∧ ∀ b ∈ k.fp, b < s.heap.objs.size
  | .lst a, xs, h => by
    obtain ⟨its, rv, p, _⟩ := I.list h
    obtain ⟨o, n, ho, hc, hd, hs⟩ := id p
    refine ⟨its.toArray, p.isList, by show its.toArray.size = _; rw [List.size_toArray]; exact rv.length.symm, fun i v hv => ?_, fun b hb => ?_⟩
    · have hv' : its[i]? = some v := by simpa using (show its.toArray[i]? = some v from hv)
      cases hx : xs[i]? with
      | none => rw [Vals.none_of rv hx] at hv'; cases hv'
      | some x =>
        obtain ⟨u, hu, ru⟩ := rv.get hx
        rw [hu] at hv'
        cases hv'
        exact ⟨x, rfl, ru⟩
    · rw [List.mem_singleton.mp hb]
      exact p.lt
  | .tup a, xs, h => by
    obtain ⟨its, rv, p, _⟩ := I.tuple h
    obtain ⟨o, ho, _⟩ := id p
    refine ⟨its.toArray, p, by show its.toArray.size = _; rw [List.size_toArray]; exact rv.length.symm, fun i v hv => ?_, fun b hb => ?_⟩
    · have hv' : its[i]? = some v := by simpa using (show its.toArray[i]? = some v from hv)
      cases hx : xs[i]? with
      | none => rw [Vals.none_of rv hx] at hv'; cases hv'
      | some x =>
        obtain ⟨u, hu, ru⟩ := rv.get hx
        rw [hu] at hv'
        cases hv'
        exact ⟨x, rfl, ru⟩
    · rw [List.mem_singleton.mp hb]
      exact Heap.lt_size ho
  | .txt x t, xs, h => by
    have h' : xs = signs x := h
    subst h'
    refine ⟨#[], trivial, by show x.cps.size = _; simp [signs], fun i v hv => ?_, fun b hb => nomatch hb⟩
    obtain ⟨c, u, hc, rfl⟩ := hv
    refine ⟨.str ⟨#[c]⟩, ?_, ⟨u, rfl⟩⟩
    unfold signs
    rw [List.getElem?_map]
    have : x.cps.toList[i]? = some c := by simpa using hc
    rw [this]
    rfl
end
end Src

/-! ### zip -/
/-! ### what a value is a source of -/
/-- a source that stands for data -/
def srcOf (K : PySem.W.Frag) (B : Hp) (A : Nat → Addr) (n : Nat) (k : Src) (x : V) (d : D) : Prop := match k with
  | .lst a => x = .ref a ∧ Rep K B A n x d ∧ isL d = true ∧ ∀ z, d ≠ .str z
  | .tup a => x = .ref a ∧ Rep K B A n x d ∧ isL d = false
  | .txt z _ => x = .str z ∧ d = .str z
theorem srcOf.mono {K : PySem.W.Frag} {B B' : Hp} {A A' : Nat → Addr} {n n' : Nat} {k : Src} {x : V} {d : D} (l : Le B A n B' A' n') (h : srcOf K B A n k x d) : srcOf K B' A' n' k x d := by
  cases k with
  | lst a => exact ⟨h.1, h.2.1.mono l, h.2.2⟩
  | tup a => exact ⟨h.1, h.2.1.mono l, h.2.2⟩
  | txt z t => exact h
section
variable {X : Cx} {P : Pm} {E : XK} {pos : Pos}
end
/-! ### enumerate -/
set_option maxHeartbeats 1000000 in
section
variable {X : Cx} {P : Pm} {E : XK} {pos : Pos}
end
end LB

set_option Elab.async false
set_option linter.all false
set_option autoImplicit false
set_option maxRecDepth 100000
set_option maxHeartbeats 2000000
/-! Slices of texts, unpacking of lists, constants of the module. -/
namespace LB
open PySem PySem.Spec PyProof.Rows L2
section
variable {X : Cx} {P : Pm} {E : XK} {pos : Pos}
end
end LB

set_option Elab.async false
set_option linter.all false
set_option autoImplicit false
set_option maxRecDepth 100000
set_option maxHeartbeats 2000000
/-! The text's defs by their names: what the top has written, promises by names. -/
namespace LB
open PySem PySem.Spec PyProof.Rows L2

structure Ctx (fa : List He.Fa) (fn : List He.DefD) (ts : List He.Tab) (ex : PySem.W.Frag → Bool) (w : World) (K : PySem.W.Frag) (mg : Str → Option Value) : Prop where
  at_ : ∃ (h : Heap) (tf : List He.Defn), K.In h ∧ h.Ns mainGlobals mg ∧ He.SaysX fa fn ts tf ex w h K
section
variable {fa : List He.Fa} {fn : List He.DefD} {ts : List He.Tab} {ex : PySem.W.Frag → Bool} {w : World} {K : PySem.W.Frag} {mg : Str → Option Value}
theorem Ctx.glo (c : Ctx fa fn ts ex w K mg) (i : Nat) {x : Str} (h : fa[i]? = some (.glo x) := by rfl) : mg x = some (.ref (He.ga K x)) := let ⟨_, _, X, G, S⟩ := c.at_; He.glo_ok X G (S.t.d.fact i h)
theorem Ctx.free (c : Ctx fa fn ts ex w K mg) (i : Nat) {x : Str} (h : fa[i]? = some (.free x) := by rfl) : mg x = none := let ⟨_, _, X, G, S⟩ := c.at_; He.free_ok X G (S.t.d.fact i h)
theorem Ctx.int (c : Ctx fa fn ts ex w K mg) (i : Nat) {x : Str} {n : Int} (h : fa[i]? = some (.int x n) := by rfl) : ∃ t, mg x = some (.int n t) := let ⟨_, _, X, G, S⟩ := c.at_; He.int_ok X G (S.t.d.fact i h)
theorem Ctx.cls (c : Ctx fa fn ts ex w K mg) (i : Nat) {x : Str} (h : fa[i]? = some (.cls x) := by rfl) : Cls K (He.ga K x) := let ⟨_, _, _, _, S⟩ := c.at_; He.cls_ok (S.t.d.fact i h)
theorem Ctx.noat (c : Ctx fa fn ts ex w K mg) (i : Nat) {x f : Str} (h : fa[i]? = some (.noat x f) := by rfl) : NoAttr K (He.ga K x) f := let ⟨_, _, _, _, S⟩ := c.at_; He.noat_ok (S.t.d.fact i h)
theorem Ctx.meth (c : Ctx fa fn ts ex w K mg) (i : Nat) {x f : Str} (h : fa[i]? = some (.meth x f) := by rfl) : Meth K (He.ga K x) f (He.ma K (He.ga K x) f) := let ⟨_, _, _, _, S⟩ := c.at_; He.meth_ok (S.t.d.fact i h)
theorem Ctx.mkr (c : Ctx fa fn ts ex w K mg) (i : Nat) {x : Str} (h : fa[i]? = some (.mkr x) := by rfl) : Mk K (He.ga K x) (He.ma K (He.ga K x) "__init__") := let ⟨_, _, _, _, S⟩ := c.at_; He.mkr_ok (S.t.d.fact i h)
theorem Ctx.more (c : Ctx fa fn ts ex w K mg) : ex K = true := let ⟨_, _, _, _, S⟩ := c.at_; S.more
end

section
variable {X : Cx} {P : Pm} {E : XK} {pos : Pos} {k np : Nat} {mf : Fn} {x : Str} {fas : SA}
variable {tbl : List (Str × D)} {a : Expr} {fa : SE} {p : Pos}
end
section
variable {fa : List He.Fa} {fn : List He.DefD} {ts : List He.Tab} {ex : PySem.W.Frag → Bool} {Pg : Program} {w : World} {K : PySem.W.Frag} {mg : Str → Option Value} {base : Heap} {P : Pm}
end
end LB

set_option Elab.async false
set_option linter.all false
set_option autoImplicit false
set_option maxRecDepth 100000
set_option maxHeartbeats 2000000
/-! A name given a comprehension, two names at once, signs, list * int. -/
namespace LB
open PySem PySem.Spec PyProof.Rows L2
section
variable {X : Cx} {P : Pm} {E : XK} {pos : Pos}
end
/-! list * int -/
section
variable {X : Cx} {P : Pm} {E : XK} {pos : Pos} {a b : Expr} {fa fb : SE}
end
end LB

set_option Elab.async false
set_option linter.all false
set_option autoImplicit false
set_option maxRecDepth 100000
set_option maxHeartbeats 2000000
/-! Constants of the module by a Boolean look; the law's own def. -/
namespace LB
open PySem PySem.Spec PyProof.Rows L2
/-- a value without a place -/
def relD : D → Value → Bool
  | .non, .none => true
  | .bl b, .bool c => b == c
  | .int i, .int j _ => decide (i = j)
  | .str x, .str y _ => decide (x = y)
  | _, _ => false
def vOfD : D → V
  | .bl b => .bl b
  | .int i => .int i
  | .str x => .str x
  | _ => .non
theorem relD_ok {d : D} {u : Value} (h : relD d u = true) : RelV (vOfD d) u ∧ ∀ K B A n, Rep K B A n (vOfD d) d := by
  unfold relD at h
  split at h
  · exact ⟨rfl, fun _ _ _ _ => .non⟩
  · rename_i b c
    cases beq_iff_eq.mp h
    exact ⟨rfl, fun _ _ _ _ => .bl _⟩
  · rename_i i j t
    cases of_decide_eq_true h
    exact ⟨⟨t, rfl⟩, fun _ _ _ _ => .int _⟩
  · rename_i i j t
    cases of_decide_eq_true h
    exact ⟨⟨t, rfl⟩, fun _ _ _ _ => .str _⟩
  · cases h
def relDs : List D → List Value → Bool
  | [], [] => true
  | d :: ds, u :: us => relD d u && relDs ds us
  | _, _ => false
/-- a flat tuple that the module names -/
def tupB (K : PySem.W.Frag) (a : Addr) (ds : List D) : Bool := match K.lookup a with
  | some ⟨.type c, _, .seq its _, _⟩ => decide (c = "tuple") && (decide (its.size ≤ sizeLine) && relDs ds its.toList)
  | _ => false
/-- a dict of texts -/
def entB : List (Str × D) → List DictEntry → Bool
  | [], [] => true
  | p :: t, e :: l => (match e.key with
    | .str x _ => decide (x = p.1)
    | _ => false) && (relD p.2 e.val && entB t l)
  | _, _ => false
def tabB (K : PySem.W.Frag) (a : Addr) (tbl : List (Str × D)) : Bool := match K.lookup a with
  | some ⟨_, _, .dict es _, _⟩ => entB tbl es.toList
  | _ => false
section
variable {fa : List He.Fa} {fn : List He.DefD} {ts : List He.Tab} {ex : PySem.W.Frag → Bool} {Pg : Program} {w : World} {K : PySem.W.Frag} {mg : Str → Option Value} {P : Pm}
end
end LB

set_option Elab.async false
set_option linter.all false
set_option autoImplicit false
set_option maxRecDepth 100000
set_option maxHeartbeats 2000000
/-! len(set(xs)), list(range(n)). -/
namespace LB
open PySem PySem.Spec PyProof.Rows L2
section
variable {X : Cx} {P : Pm} {E : XK}
end
end LB

set_option Elab.async false
set_option linter.all false
set_option autoImplicit false
set_option maxRecDepth 100000
set_option maxHeartbeats 2000000
/-! Objects: fields, methods, making. -/
namespace LB
open PySem PySem.Spec PyProof.Rows L2
section
variable {P : Pm} {F B : Hp} {A : Nat → Addr} {m : Mem} {H : Hp}
end
section
variable {X : Cx} {P : Pm} {E : XK} {pos : Pos} {k np : Nat} {mf : Fn} {fo fe : SE} {fas : SA} {o e : Expr} {f : Str} {c : Nat}
end
/-! from the head's facts -/
section
variable {fa : List He.Fa} {fn : List He.DefD} {ts : List He.Tab} {ex : PySem.W.Frag → Bool} {Pg : Program} {w : World} {K : PySem.W.Frag} {mg : Str → Option Value} {base : Heap} {P : Pm}
end
end LB

set_option Elab.async false
set_option linter.all false
set_option autoImplicit false
set_option maxRecDepth 100000
set_option maxHeartbeats 2000000
/-! Methods of lists that want no argument. -/
namespace LB
open PySem PySem.Spec PyProof.Rows L2
section
variable {X : Cx} {P : Pm} {E : XK} {pos : Pos} {fo : SE} {o : Expr} {name : Str} {id : String} {apos : Pos} {r : V → List V → Hp → VK → Prop} {g : List D → Option (List D × D)}
end
end LB

set_option Elab.async false
set_option linter.all false
set_option autoImplicit false
set_option maxRecDepth 100000
set_option maxHeartbeats 2000000
/-! Methods of built-in kinds with one argument that change nothing. -/
namespace LB
open PySem PySem.Spec PyProof.Rows L2
/-- which kind a method's owner must be of -/
def chkD (chk : D → Mem → Bool) (d : D) : M Unit := fun m => if chk d m = true then .ok () m else .bad
def mt1E (chk : D → Mem → Bool) (g : O2) (o e : SE) : SE := fun ρ => M.bind (o ρ) fun d => M.bind (chkD chk d) fun _ => M.bind (e ρ) fun y => fun m => lift (g d y m) m
def isLst (d : D) (m : Mem) : Bool := (lstOf m d).isSome
def isStr (d : D) (_ : Mem) : Bool := match d with
  | .str _ => true
  | _ => false
section
variable {X : Cx} {P : Pm} {E : XK} {pos : Pos} {fo fe : SE} {o ee : Expr} {name : Str} {T id : String} {apos : Pos} {r : V → List V → Hp → VK → Prop} {g : O2} {chk : D → Mem → Bool}
end
end LB

set_option Elab.async false
set_option linter.all false
set_option autoImplicit false
set_option maxRecDepth 100000
set_option maxHeartbeats 2000000
/-! list(zip(a, b)) of two lists; sorted of a dict's keys, of a set of a list. -/
namespace LB
open PySem PySem.Spec PyProof.Rows L2
abbrev prObj (x y : Value) : Obj := { cls := .type "tuple", data := .seq #[x, y] }
/-- where a walk over two lists stands while S is filled -/
structure ZSt (h : Heap) (z TI TO i1 i2 l1 l2 S : Addr) (xs ys : Array Value) (i : Nat) : Prop where
  ti : IsPair h TI (.ref i1) (.ref i2)
  ia : h.IsListIter i1 l1 i
  ib : h.IsListIter i2 l2 i
  la : h.IsList l1 xs
  lb : h.IsList l2 ys
  zz : (IsZip h z TI TO .none ∧ ∃ a b, IsPair h TO a b) ∨ ∃ T f oT, PySem.IsZipHeld h z TI TO T f ∧ h.get? T = some oT ∧ T ≠ z ∧ T ≠ i1 ∧ T ≠ i2 ∧ T ≠ S
/-- the pairs that were made so far -/
structure ZMd (xs ys : Array Value) (lo : Addr) (h : Heap) (as : List Addr) : Prop where
  rise : as.Pairwise (· < ·)
  above : ∀ a ∈ as, lo ≤ a
  at_ : ∀ (j : Nat) (a : Addr), as[j]? = some a → ∃ x y, xs[j]? = some x ∧ ys[j]? = some y ∧ h.get? a = some (prObj x y)
theorem ZMd.low {xs ys : Array Value} {lo : Addr} {h : Heap} {as : List Addr} (g : ZMd xs ys lo h as) {a : Addr} (ha : a ∈ as) : a < h.objs.size := by
  obtain ⟨j, hj⟩ := List.mem_iff_getElem?.mp ha
  obtain ⟨_, _, _, _, e⟩ := g.at_ j a hj
  exact Heap.lt_size e
theorem ZMd.up {xs ys : Array Value} {lo : Addr} {h h' : Heap} {as : List Addr} (g : ZMd xs ys lo h as) (k : ∀ b o, lo ≤ b → h.get? b = some o → h'.get? b = some o) : ZMd xs ys lo h' as :=
  ⟨g.rise, g.above, fun j a hj => let ⟨x, y, e1, e2, e3⟩ := g.at_ j a hj; ⟨x, y, e1, e2, k a _ (g.above a (List.mem_of_getElem? hj)) e3⟩⟩
section
variable {prog : Program} {w : World} {A : Around} {s : Shared} {z TI TO i1 i2 l1 l2 S : Addr} {xs ys : Array Value}
theorem ZSt.keep {h h' : Heap} {i : Nat} (t : ZSt h z TI TO i1 i2 l1 l2 S xs ys i) (n : ∀ c ∈ [z, TI, TO, i1, i2, l1, l2], c ≠ S) (k : ∀ b o, b ≠ S → h.get? b = some o → h'.get? b = some o) : ZSt h' z TI TO i1 i2 l1 l2 S xs ys i := by
  obtain ⟨t1, t2, t3, t4, t5, t6⟩ := t
  simp only [List.mem_cons, List.not_mem_nil, or_false, forall_eq_or_imp, forall_eq] at n
  obtain ⟨n1, n2, n3, n4, n5, n6, n7⟩ := n
  refine ⟨k _ _ n2 t1, t2.at fun o e => k _ o n4 e, t3.at fun o e => k _ o n5 e, t4.at fun o e => k _ o n6 e, t5.at fun o e => k _ o n7 e, ?_⟩
  rcases t6 with ⟨hz, a, b, hTO⟩ | ⟨T, f, oT, hz, hT, r1, r2, r3, r4⟩
  · exact .inl ⟨k _ _ n1 hz, a, b, k _ _ n3 hTO⟩
  · exact .inr ⟨T, f, oT, k _ _ n1 hz, k _ _ r4 hT, r1, r2, r3, r4⟩
variable {R : Result → Shared → Prop}
end
section
variable {X : Cx} {pins : List (Addr × Obj)} {σ : L2.St} {H : Hp} {s : Shared}
end
end LB

set_option Elab.async false
set_option linter.all false
set_option autoImplicit false
set_option maxRecDepth 100000
set_option maxHeartbeats 3200000
/-! sorted of a set of a list of ints, of a dict's keys. -/
namespace LB
open PySem PySem.Spec PyProof.Rows L2
section
variable {P : Program} {w : World} {A : Around} {E : Value → Shared → Prop} {s : Shared}
end
end LB

set_option Elab.async false
set_option linter.all false
set_option autoImplicit false
set_option maxRecDepth 100000
set_option maxHeartbeats 2000000
/-! The rules: list(zip(a, b)), sorted(d), sorted(set(xs)). -/
namespace LB
open PySem PySem.Spec PyProof.Rows L2
section
variable {P : Pm} {A : Nat → Addr} {m : Mem}
end
section
variable {X : Cx} {P : Pm} {E : XK}
end
end LB

set_option Elab.async false
set_option linter.all false
set_option autoImplicit false
set_option maxRecDepth 100000
set_option maxHeartbeats 2000000
/-! Texts: split, join, str(i), int(z), walks over texts. -/
namespace LB
open PySem PySem.Spec PyProof.Rows L2
theorem Ctx.str {fa : List He.Fa} {fn : List He.DefD} {ts : List He.Tab} {ex : PySem.W.Frag → Bool} {w : World} {K : PySem.W.Frag} {mg : Str → Option Value} (c : Ctx fa fn ts ex w K mg) (i : Nat) {x z : Str} (h : fa[i]? = some (.str x z) := by rfl) : ∃ t, mg x = some (.str z t) :=
  let ⟨_, _, X, G, S⟩ := c.at_
  He.str_ok X G (S.t.d.fact i h)
section
variable {X : Cx} {P : Pm} {E : XK} {pos apos : Pos} {fo fe : SE} {o ee : Expr}
end
end LB

set_option Elab.async false
set_option linter.all false
set_option autoImplicit false
set_option maxRecDepth 100000
set_option maxHeartbeats 2000000
/-! Dicts whose keys are tuples of any depth. -/
namespace LB
open PySem PySem.Spec PyProof.Rows L2

/-! ### data -/
mutual
def nkOf : D → Option NestedKey
  | .non => some .none
  | .int i => some (.num i)
  | .str x => some (.text x)
  | .tup xs => (nksOf xs).map .tup
  | .bl _ => none
  | .lst _ => none
  | .loc _ => none
  | .ref _ => none
  | .scr _ => none
def nksOf : List D → Option (List NestedKey)
  | [] => some []
  | x :: xs => match nkOf x, nksOf xs with
    | some k, some ks => some (k :: ks)
    | _, _ => none
end
/-- a tuple that is a key -/
def tkOf (d : D) : Option NestedKey := match d with
  | .tup xs => match nksOf xs with
    | some ks => if (NestedKey.tup ks).depth ≤ 8 then some (.tup ks) else none
    | none => none
  | _ => none
def valN {α : Type} (kvs : List (NestedKey × α)) (k : NestedKey) : Option α := (kvs.find? fun kv => decide (kv.1 = k)).map (·.2)
def putN (kvs : List (NestedKey × D)) (k : NestedKey) (v : D) : List (NestedKey × D) :=
  if (valN kvs k).isSome = true then kvs.map (fun kv => if kv.1 = k then (kv.1, v) else kv) else kvs ++ [(k, v)]
def dcnOf (m : Mem) : D → Option (List (NestedKey × D))
  | .loc k => if k < m.n then (match m.get k with
    | some (.dcn kvs) => some kvs
    | _ => none) else none
  | _ => none
def gNin : O2 := fun k d m => (dcnOf m d).bind fun kvs => (tkOf k).map fun k => .bl (valN kvs k).isSome
def gNnotin : O2 := fun k d m => (dcnOf m d).bind fun kvs => (tkOf k).map fun k => .bl (!(valN kvs k).isSome)
def isDcn (m : Mem) (d : D) : Bool := (dcnOf m d).isSome
def nget2 (d k x : SE) : SE := fun ρ => M.bind (d ρ) fun dd => M.bind (fun m => if isDcn m dd = true then .ok () m else .bad) fun _ => M.bind (k ρ) fun kk => M.bind (x ρ) fun xx => fun m => lift ((dcnOf m dd).bind fun kvs => (tkOf kk).map fun k => (valN kvs k).getD xx) m
def sNput (d k v : SE) : SS := fun ρ => M.bind (v ρ) fun vd => M.bind (d ρ) fun dd => M.bind (k ρ) fun kd => fun m => match dd, tkOf kd with
  | .loc j, some k => if j < m.n then (match m.get j with
    | some (.dcn kvs) => if kvs.length < sizeLine then .ok (.nx, ρ) (m.put j (.dcn (putN kvs k vd))) else .bad
    | _ => .bad) else .bad
  | _, _ => .bad
def mergeN (kvs more : List (NestedKey × D)) : List (NestedKey × D) := more.foldl (fun acc kv => putN acc kv.1 kv.2) kvs
/-- a display of one pair -/
def nk1 (k v : D) : M D := fun m => match tkOf k with
  | some k => alloc (.dcn [(k, v)]) m
  | none => .bad
def ndsp1 (k v : SE) : SE := fun ρ => M.bind (k ρ) fun kd => M.bind (v ρ) fun vd => nk1 kd vd
/-- pairs in a list: (key, value) each -/
def prsOf : List D → Option (List (NestedKey × D))
  | [] => some []
  | .tup [k, v] :: r => match tkOf k, prsOf r with
    | some k, some r => some ((k, v) :: r)
    | _, _ => none
  | _ :: _ => none
def ndctK (d : D) : M D := fun m => match (lstOf m d).bind prsOf with
  | some kvs => alloc (.dcn (mergeN [] kvs)) m
  | none => .bad
def ndctE (a : SE) : SE := fun ρ => M.bind (a ρ) ndctK

/-! ### what they say -/
theorem NDct.stay {hash : NestedKey → Int} {a : Addr} {xs : NEs} {h1 h2 : Heap} (x : NDct hash a xs h1) (k : ∀ o, h1.get? a = some o → h2.get? a = some o) : NDct hash a xs h2 := by
  obtain ⟨z, y, dp, nd, o, es, ep, ho, q⟩ := x
  exact ⟨z, y, dp, nd, o, es, ep, k o ho, q⟩
theorem NDct.ok {Pg : Program} {w : World} {H : Hp} {h : Heap} {hash : NestedKey → Int} {a : Addr} {xs : NEs} (x : NDct hash a xs h) : ObjOk Pg w H h a (.ext (NDct hash a xs)) := by
  obtain ⟨_, _, _, _, o, _, _, ho, _⟩ := id x
  exact ⟨x, ⟨o, ho⟩, fun h1 h2 p k => p.stay k⟩
section
variable {X : Cx} {pins : List (Addr × Obj)} {σ : L2.St} {H : Hp} {s : Shared}
mutual
theorem NRep.is (I : Inv X pins σ H s) : ∀ {v : V} {k : NestedKey} {u : Value}, NRep X.K H v k → RelV v u → NestedIs s.heap k u
  | _, _, u, .none, r => by
    obtain rfl : u = Value.none := r
    exact .none
  | _, _, u, .num i, r => by
    obtain ⟨t, rfl⟩ := (show ∃ t, u = Value.int i t from r)
    exact .int i t
  | _, _, u, .text x, r => by
    obtain ⟨t, rfl⟩ := (show ∃ t, u = Value.str x t from r)
    exact .text x t
  | _, _, u, .tup (a := a) h q, r => by
    obtain rfl : u = Value.ref a := r
    obtain ⟨its, rv, ⟨o, ho, hc, n, hd⟩, _⟩ := I.tuple h
    exact .tup ho hc hd (by simpa using NReps.are I q rv)
theorem NReps.are (I : Inv X pins σ H s) : ∀ {vs : List V} {ks : List NestedKey} {us : List Value}, NReps X.K H vs ks → Vals vs us → NestedAll s.heap ks us
  | _, _, _, .nil, r => by
    cases r
    exact .nil
  | _, _, _, .cons q t, r => by
    cases r with
    | cons h1 h2 => exact .cons (NRep.is I q h1) (NReps.are I t h2)
end
end
section
variable {P : Pm}
mutual
theorem nk_rep {B : Hp} {A : Nat → Addr} {n : Nat} : ∀ {v : V} {d : D} {k : NestedKey}, Rep P.K B A n v d → nkOf d = some k → NRep P.K B v k
  | _, _, _, .non, h => by
    cases h
    exact .none
  | _, _, _, .int i, h => by
    cases h
    exact .num i
  | _, _, _, .str x, h => by
    cases h
    exact .text x
  | _, _, _, .tup (ds := ds) hq rs, h => by
    unfold nkOf at h
    cases hk : nksOf ds with
    | none => rw [hk] at h; cases h
    | some ks =>
      rw [hk] at h
      cases h
      exact .tup hq (nks_rep rs hk)
  | _, _, _, .bl _, h => by cases h
  | _, _, _, .lst _ _, h => by cases h
  | _, _, _, .loc _ _, h => by cases h
  | _, _, _, .ref, h => by cases h
  | _, _, _, .scr _, h => by cases h
theorem nks_rep {B : Hp} {A : Nat → Addr} {n : Nat} : ∀ {vs : List V} {ds : List D} {ks : List NestedKey}, Reps P.K B A n vs ds → nksOf ds = some ks → NReps P.K B vs ks
  | _, _, _, .nil, h => by
    cases h
    exact .nil
  | _, _, _, .cons (d := d) (ds := ds) r t, h => by
    unfold nksOf at h
    cases h1 : nkOf d with
    | none => simp only [h1] at h; cases h
    | some k =>
      cases h2 : nksOf ds with
      | none => simp only [h1, h2] at h; cases h
      | some ks =>
        simp only [h1, h2] at h
        cases h
        exact .cons (nk_rep r h1) (nks_rep t h2)
end
end
/-! ### rules -/
/-- such a dict stands at a -/
def NAt (P : Pm) (H : Hp) (a : Addr) (xs : NEs) : Prop := H a = some (.ext (NDct P.NH a xs)) ∧ ∀ x ∈ xs, NRep P.K H (.ref x.2.1) x.1
section
variable {X : Cx} {P : Pm} {o i e value : Expr} {pos pos' : Pos} {td ty tv tx : TE} {apos cpos : Pos} {f : Expr}
end
section
variable {X : Cx} {P : Pm} {E : XK} {pos : Pos} {a b c : Expr} {fa fb fc : SE}
theorem SR.nat {F B : Hp} {A : Nat → Addr} {m : Mem} {H : Hp} (s : SR P F B A m H) {a : Addr} {xs : NEs} (h1 : H a = some (.ext (NDct P.NH a xs))) (h2 : ∀ x ∈ xs, NRep P.K B (.ref x.2.1) x.1) : NAt P H a xs := ⟨h1, fun x hx => (h2 x hx).mono s.ex⟩
/-! len -/
def gNlenN : ON := fun ds m => match ds with
  | [d] => (dcnOf m d).map fun kvs => .int kvs.length
  | _ => none
end
end LB

set_option Elab.async false
set_option linter.all false
set_option autoImplicit false
set_option maxRecDepth 100000
set_option maxHeartbeats 2000000
/-! Such dicts made: a display of one pair, dict(pairs), d.update(pairs). -/
namespace LB
open PySem PySem.Spec PyProof.Rows L2

/-! ### a display -/
section
variable {X : Cx} {P : Pm} {E : XK} {pos : Pos} {k v : Expr} {tk tv : TE} {fk fv : SE}
end

/-! ### pairs -/
section
variable {X : Cx} {P : Pm}
end
section
variable {X : Cx} {P : Pm} {E : XK} {pos : Pos}
end
end LB

set_option Elab.async false
set_option linter.all false
set_option autoImplicit false
set_option maxRecDepth 100000
set_option maxHeartbeats 2000000
/-! xs[::-1] of lists and tuples; is, is not of truth values. -/
namespace LB
open PySem PySem.Spec PyProof.Rows L2
/-- backwards -/
def gRev : O1 := fun d m => match d with
  | .tup xs => some (.tup xs.reverse)
  | d => (lstOf m d).map fun xs => .lst xs.reverse
def gIsB : O2 := fun x y _ => match x, y with
  | .bl a, .bl b => some (.bl (decide (a = b)))
  | _, _ => none
def gNotB : O2 := fun x y _ => match x, y with
  | .bl a, .bl b => some (.bl (!decide (a = b)))
  | _, _ => none
section
variable {P : Pm}
end
section
variable {prog : Program} {w : World} {A : Around} {E : Value → Shared → Prop} {s : Shared}
end
section
variable {X : Cx} {P : Pm} {E : XK} {pos : Pos}
end
end LB

set_option Elab.async false
set_option linter.all false
set_option autoImplicit false
set_option maxRecDepth 100000
set_option maxHeartbeats 2000000
/-! Tuples of tuples that the module names. -/
namespace LB
open PySem PySem.Spec PyProof.Rows L2
mutual
def relK (K : PySem.W.Frag) : D → Value → Bool
  | .tup ds, u => (match u with
    | .ref a => (match K.lookup a with
      | some ⟨.type c, _, .seq its _, _⟩ => decide (c = "tuple") && (decide (its.size ≤ sizeLine) && relKs K ds its.toList)
      | _ => false)
    | _ => false)
  | .non, u => relD .non u
  | .bl b, u => relD (.bl b) u
  | .int i, u => relD (.int i) u
  | .str x, u => relD (.str x) u
  | .lst _, _ => false
  | .loc _, _ => false
  | .ref _, _ => false
  | .scr _, _ => false
def relKs (K : PySem.W.Frag) : List D → List Value → Bool
  | [], [] => true
  | d :: ds, u :: us => relK K d u && relKs K ds us
  | [], _ :: _ => false
  | _ :: _, [] => false
end
mutual
theorem relK_ok {K : PySem.W.Frag} : ∀ {d : D} {u : Value}, relK K d u = true → ∃ v, RelV v u ∧ ∀ B A n, Rep K B A n v d
  | .tup ds, u, h => by
    unfold relK at h
    split at h
    · rename_i a
      split at h
      · rename_i c od its n sl hl
        obtain ⟨h1, h2⟩ := Bool.and_eq_true_iff.mp h
        obtain ⟨h3, h4⟩ := Bool.and_eq_true_iff.mp h2
        have hc := of_decide_eq_true h1
        subst hc
        obtain ⟨vs, hv, hr⟩ := relKs_ok h4
        exact ⟨.ref a, rfl, fun B A m => .tup (.inr ⟨_, its, n, hl, rfl, rfl, of_decide_eq_true h3, hv⟩) (hr B A m)⟩
      · cases h
    · cases h
  | .non, u, h => by
    unfold relK at h
    exact ⟨_, (relD_ok h).1, (relD_ok h).2 K⟩
  | .bl b, u, h => by
    unfold relK at h
    exact ⟨_, (relD_ok h).1, (relD_ok h).2 K⟩
  | .int i, u, h => by
    unfold relK at h
    exact ⟨_, (relD_ok h).1, (relD_ok h).2 K⟩
  | .str x, u, h => by
    unfold relK at h
    exact ⟨_, (relD_ok h).1, (relD_ok h).2 K⟩
  | .lst _, _, h => by simp [relK] at h
  | .loc _, _, h => by simp [relK] at h
  | .ref _, _, h => by simp [relK] at h
  | .scr _, _, h => by simp [relK] at h
theorem relKs_ok {K : PySem.W.Frag} : ∀ {ds : List D} {us : List Value}, relKs K ds us = true → ∃ vs, Vals vs us ∧ ∀ B A n, Reps K B A n vs ds
  | [], [], _ => ⟨[], .nil, fun _ _ _ => .nil⟩
  | d :: ds, u :: us, h => by
    obtain ⟨h1, h2⟩ := Bool.and_eq_true_iff.mp (show (relK K d u && relKs K ds us) = true from h)
    obtain ⟨v, a, b⟩ := relK_ok h1
    obtain ⟨vs, x, y⟩ := relKs_ok h2
    exact ⟨v :: vs, .cons a x, fun B A n => .cons (b B A n) (y B A n)⟩
  | [], _ :: _, h => by simp [relKs] at h
  | _ :: _, [], h => by simp [relKs] at h
end
/-! xs + ys as a list that may change -/
section
variable {X : Cx} {P : Pm} {E : XK} {fa fb : SE} {a b : Expr} {pos : Pos}
end
end LB

set_option Elab.async false
set_option linter.all false
set_option autoImplicit false
set_option maxRecDepth 100000
set_option maxHeartbeats 2000000
/-! Dicts keyed by tuples: list(d), d.update(pairs), {}. -/
namespace LB
open PySem PySem.Spec PyProof.Rows L2
/-! ### list(d) -/
mutual
def keyD : NestedKey → D
  | .none => .non
  | .num i => .int i
  | .text x => .str x
  | .tup ks => .tup (keyDs ks)
def keyDs : List NestedKey → List D
  | [] => []
  | k :: ks => keyD k :: keyDs ks
end
mutual
theorem keyD_rep {K : PySem.W.Frag} {B : Hp} {A : Nat → Addr} {n : Nat} : ∀ {v : V} {k : NestedKey}, NRep K B v k → Rep K B A n v (keyD k)
  | _, _, .none => by simp only [keyD]; exact .non
  | _, _, .num i => by simp only [keyD]; exact .int i
  | _, _, .text x => by simp only [keyD]; exact .str x
  | _, _, .tup h r => by simp only [keyD]; exact .tup h (keyDs_rep r)
theorem keyDs_rep {K : PySem.W.Frag} {B : Hp} {A : Nat → Addr} {n : Nat} : ∀ {vs : List V} {ks : List NestedKey}, NReps K B vs ks → Reps K B A n vs (keyDs ks)
  | _, _, .nil => by simp only [keyDs]; exact .nil
  | _, _, .cons r t => by simp only [keyDs]; exact .cons (keyD_rep r) (keyDs_rep t)
end
section
variable {X : Cx} {P : Pm}
/-! ### d.update(pairs) -/
end
section
variable {X : Cx} {P : Pm} {E : XK} {pos : Pos} {o e : Expr} {td te : TE} {fo fe : SE}
/-! {} of keys that are tuples -/
end
end LB

set_option Elab.async false
set_option linter.all false
set_option autoImplicit false
set_option maxRecDepth 100000
set_option maxHeartbeats 2000000
/-! Errors raised: own classes without and with their own __init__. -/
namespace LB
open PySem PySem.Spec PyProof.Rows L2
/-! ### raise X('..') -/
section
variable {X : Cx} {P : Pm} {E : XK} {C : Addr} {c : Nat}
/-! ### raise X(e), X's __init__: Base.__init__(self, f); self.f = f -/
/-- the written part's words on a class of errors over ValueError -/
def oexB (K : PySem.W.Frag) (C : Addr) : Bool := (match K.lookup C with
  | some ⟨.type "type", _, .cls cd, sl⟩ => (match cd.mro, sl.toList with
    | .ref C' :: bm, [_, _, _, _, some (.builtin n), _] => C' == C && (n == "ValueError.__new__" && (!cd.hasDel && (cd.hasDict && PySem.HandSPX.refsVE bm)))
    | _, _ => false)
  | _ => false) && (decide (PySem.W.findIn K (.ref C) "__setattr__" = some (some (.builtin "object.__setattr__"))) && (decide (PySem.W.subIn K (.ref C) (.type "BaseException") = some true) && (decide (PySem.W.typeIn K (.ref C) = some (.type "type")) && PySem.W.keepIn K (.ref C))))
end
end LB

set_option Elab.async false
set_option linter.all false
set_option autoImplicit false
set_option maxRecDepth 100000
set_option maxHeartbeats 2000000
/-! Errors with a field: raise X(e). -/
namespace LB
open PySem PySem.Spec PyProof.Rows L2
section
variable {Pg : Program} {w : World} {K : PySem.W.Frag} {mg : Str → Option Value} {base : Heap}
end
section
variable {X : Cx} {P : Pm} {E : XK} {C : Addr} {c : Nat}
end
end LB

set_option Elab.async false
set_option linter.all false
set_option autoImplicit false
set_option maxRecDepth 100000
set_option maxHeartbeats 2000000
/-! In an except suite: isinstance of the error, its field; list.count. -/
namespace LB
open PySem PySem.Spec PyProof.Rows L2
/-! ### the error at hand -/
/-- what is asked of a class of errors -/
def xkB (K : PySem.W.Frag) (D : Addr) : Bool := (PySem.W.clsIn K D).isSome && (decide (PySem.W.findIn K (.ref D) "__getattribute__" = some (some (.builtin "BaseException.__getattribute__"))) && (decide (PySem.W.findIn K (.ref D) "__getattr__" = some none) &&
  (decide (PySem.W.subIn K (.ref D) (.type "BaseException") = some true) && (decide (PySem.W.findIn K (.ref D) "__class__" = some (some (.builtin "object.__class__"))) && (decide (PySem.W.specialIn K (.builtin "object.__class__") "__get__" = some (some (.builtin "getset_descriptor.__get__"))) &&
  (decide (PySem.W.takesIn K (.builtin "object.__class__") = some true) && (decide (PySem.W.mroIn K D (.type "object") = some true) && PySem.W.hasDictIn K D)))))))
structure XkC (K : PySem.W.Frag) (D : Addr) : Prop where
  cl : (PySem.W.clsIn K D).isSome = true
  hg : PySem.W.findIn K (.ref D) "__getattribute__" = some (some (.builtin "BaseException.__getattribute__"))
  hk : PySem.W.findIn K (.ref D) "__getattr__" = some none
  hs : PySem.W.subIn K (.ref D) (.type "BaseException") = some true
  ha : PySem.W.findIn K (.ref D) "__class__" = some (some (.builtin "object.__class__"))
  hn : PySem.W.specialIn K (.builtin "object.__class__") "__get__" = some (some (.builtin "getset_descriptor.__get__"))
  ht : PySem.W.takesIn K (.builtin "object.__class__") = some true
  hm : PySem.W.mroIn K D (.type "object") = some true
  hd : PySem.W.hasDictIn K D = true
theorem xkB_ok {K : PySem.W.Frag} {D : Addr} (h : xkB K D = true) : XkC K D := by
  unfold xkB at h
  simp only [Bool.and_eq_true, decide_eq_true_eq] at h
  obtain ⟨h1, h2, h3, h4, h5, h6, h7, h8, h9⟩ := h
  exact ⟨h1, h2, h3, h4, h5, h6, h7, h8, h9⟩
section
variable {X : Cx} {P : Pm} {E : XK}
/-! ### list.count, flat items -/
end
end LB

set_option Elab.async false
set_option linter.all false
set_option autoImplicit false
set_option maxRecDepth 100000
set_option maxHeartbeats 2000000
/-! The word of a refusal: try: work() except .. as e: .., work a lambda. -/
namespace LB
open PySem PySem.Spec PyProof.Rows L2
/-- the word of an error: classes by number 5 to 11 -/
def kindW (er : Er) : Option D := match er.cls, er.fld with
  | 5, some (.int n) => some (.tup [.str (Str.ofString "BadProgram"), .int n])
  | 6, none => some (.str (Str.ofString "BadMill"))
  | 7, none => some (.str (Str.ofString "BadCells"))
  | 8, none => some (.str (Str.ofString "BadFuel"))
  | 9, none => some (.str (Str.ofString "BadPiece"))
  | 10, none => some (.str (Str.ofString "TooMany"))
  | 11, some (.int n) => some (.tup [.str (Str.ofString "BadText"), .int n])
  | _, _ => none
/-- the number that an error carries -/
def erI (er : Er) : Option Int := match er.fld with
  | some (.int n) => some n
  | _ => none
/-! ### the error's dict told of -/
def Pm.xd (P : Pm) (x : Option (Addr × Str × Int)) : Pm := { P with XD := x }
section
variable {P : Pm} {F B : Hp} {A : Nat → Addr} {m : Mem} {H H1 : Hp} {x : Option (Addr × Str × Int)}
end
/-! ### what _law_kind makes of the lambda's reading -/
/-- which dict the error has -/
def xdOf (P : Pm) (er : Er) (d : Option Addr) : Option (Addr × Str × Int) := match d, erI er with
  | some a, some n => some (a, P.XN er.cls, n)
  | _, _ => none
/-- the error's dict stands just where it has a number -/
def DOk (er : Er) (d : Option Addr) : Prop := (d = none ∧ erI er = none) ∨ ∃ a n, d = some a ∧ erI er = some n
theorem DOk.at {P : Pm} {er : Er} {d : Option Addr} (h : DOk er d) : ∀ b, d = some b → ∃ q, xdOf P er d = some (b, q) := fun b hb => by
  rcases h with ⟨h, _⟩ | ⟨a, n, h1, h2⟩
  · rw [h] at hb
    cases hb
  · rw [h1] at hb
    cases hb
    exact ⟨(P.XN er.cls, n), by unfold xdOf; rw [h1, h2]⟩
theorem DOk.fld {P : Pm} {er : Er} {d : Option Addr} (h : DOk er d) {n : Int} (hn : erI er = some n) : ∃ b, d = some b ∧ xdOf P er d = some (b, P.XN er.cls, n) := by
  rcases h with ⟨_, h⟩ | ⟨a, k, h1, h2⟩
  · rw [h] at hn
    cases hn
  · exact ⟨a, h1, by unfold xdOf; rw [h1, hn]⟩
section
variable {X : Cx} {P : Pm}
end
end LB

set_option Elab.async false
set_option linter.all false
set_option autoImplicit false
set_option maxRecDepth 100000
set_option maxHeartbeats 2000000
/-! _law_kind(lambda: e) in a def; defs that hold lambdas. -/
namespace LB
open PySem PySem.Spec PyProof.Rows L2
section
variable {fa : List He.Fa} {fn : List He.DefD} {ts : List He.Tab} {ex : PySem.W.Frag → Bool}
end
section
variable {fa : List He.Fa} {fn : List He.DefD} {ts : List He.Tab} {ex : PySem.W.Frag → Bool} {Pg : Program} {w : World} {K : PySem.W.Frag} {mg : Str → Option Value} {base : Heap} {P : Pm}
end
end LB

set_option Elab.async false
set_option linter.all false
set_option autoImplicit false
set_option maxRecDepth 100000
set_option maxHeartbeats 2000000
/-! The written part's words on the seven classes of errors. -/
namespace LB
open PySem PySem.Spec PyProof.Rows L2
def errN : List (Nat × Str) := [(5, "BadProgram"), (6, "BadMill"), (7, "BadCells"), (8, "BadFuel"), (9, "BadPiece"), (10, "TooMany"), (11, "BadText")]
def kitB (K : PySem.W.Frag) : Bool := errN.all fun p => xkB K (He.ga K p.2) && (decide (PySem.W.kitOne K (.ref (He.ga K p.2)) (.type "ValueError") = some true) && (decide (PySem.W.exmOne K (.ref (He.ga K p.2)) (.ref (He.ga K "LateError")) = some true) &&
  errN.all fun q => decide (PySem.W.kitOne K (.ref (He.ga K p.2)) (.ref (He.ga K q.2)) = some (decide (p.1 = q.1)))))
def fldB (K : PySem.W.Frag) : Bool := xfB K (He.ga K "BadProgram") && (xfB K (He.ga K "BadText") && (decide (PySem.W.findIn K (.ref (He.ga K "BadProgram")) "row" = some none) && decide (PySem.W.findIn K (.ref (He.ga K "BadText")) "line" = some none)))
theorem kindW_mem {er : Er} {dd : D} (h : kindW er = some dd) : ∃ z, (er.cls, z) ∈ errN := by
  obtain ⟨cls, fld⟩ := er
  unfold kindW at h
  dsimp only at h
  split at h <;> first
    | (cases h; done)
    | exact ⟨_, List.mem_cons_self⟩
    | exact ⟨_, List.mem_cons_of_mem _ List.mem_cons_self⟩
    | exact ⟨_, List.mem_cons_of_mem _ (List.mem_cons_of_mem _ List.mem_cons_self)⟩
    | exact ⟨_, List.mem_cons_of_mem _ (List.mem_cons_of_mem _ (List.mem_cons_of_mem _ List.mem_cons_self))⟩
    | exact ⟨_, List.mem_cons_of_mem _ (List.mem_cons_of_mem _ (List.mem_cons_of_mem _ (List.mem_cons_of_mem _ List.mem_cons_self)))⟩
    | exact ⟨_, List.mem_cons_of_mem _ (List.mem_cons_of_mem _ (List.mem_cons_of_mem _ (List.mem_cons_of_mem _ (List.mem_cons_of_mem _ List.mem_cons_self))))⟩
    | exact ⟨_, List.mem_cons_of_mem _ (List.mem_cons_of_mem _ (List.mem_cons_of_mem _ (List.mem_cons_of_mem _ (List.mem_cons_of_mem _ (List.mem_cons_of_mem _ List.mem_cons_self)))))⟩
structure KindF (K : PySem.W.Frag) (P : Pm) : Prop where
  ca : ∀ p ∈ errN, P.CA p.1 = He.ga K p.2
  chk : kitB K = true
  fld : fldB K = true
section
variable {K : PySem.W.Frag} {P : Pm} {er : Er} {dd : D}
theorem KindF.at (kf : KindF K P) (h : kindW er = some dd) : XkC K (P.CA er.cls) ∧ PySem.W.kitOne K (.ref (P.CA er.cls)) (.type "ValueError") = some true ∧ PySem.W.exmOne K (.ref (P.CA er.cls)) (.ref (He.ga K "LateError")) = some true ∧
    ∀ q ∈ errN, PySem.W.kitOne K (.ref (P.CA er.cls)) (.ref (He.ga K q.2)) = some (decide (er.cls = q.1)) := by
  obtain ⟨z, hz⟩ := kindW_mem h
  have e : P.CA er.cls = He.ga K z := kf.ca _ hz
  have c := List.all_eq_true.mp kf.chk _ hz
  obtain ⟨c1, c⟩ := Bool.and_eq_true_iff.mp c
  obtain ⟨c2, c⟩ := Bool.and_eq_true_iff.mp c
  obtain ⟨c3, c4⟩ := Bool.and_eq_true_iff.mp c
  rw [e]
  exact ⟨xkB_ok c1, of_decide_eq_true c2, of_decide_eq_true c3, fun q hq => of_decide_eq_true (List.all_eq_true.mp c4 q hq)⟩
end
end LB

set_option Elab.async false
set_option linter.all false
set_option autoImplicit false
set_option maxRecDepth 100000
set_option maxHeartbeats 2000000
/-! raise X(e), X over a class of one's own that has ValueError's __init__. -/
namespace LB
open PySem PySem.Spec PyProof.Rows L2
def baseB (K : PySem.W.Frag) (L : Addr) : Bool := decide (PySem.W.specialIn K (.ref L) "__getattribute__" = some (some (.builtin "type.__getattribute__"))) && (PySem.W.readsIn K L (.type "type") && (match PySem.W.findCls K (.ref L) (.type "type") "__init__" with
  | some (.val (.builtin n)) => n == "ValueError.__init__"
  | _ => false))
def iniB (K : PySem.W.Frag) (x f : Str) : Bool := oexB K (He.ga K x) && (baseB K (He.ga K "LateError") && decide (PySem.W.findIn K (.ref (He.ga K x)) f = some none))
end LB

set_option Elab.async false
set_option linter.all false
set_option autoImplicit false
set_option maxRecDepth 100000
set_option maxHeartbeats 2000000
/-! Functions as values: handed in, called. -/
namespace LB
open PySem PySem.Spec PyProof.Rows L2
/-- which functions are handed about, by number -/
abbrev FV := List (Nat × Fn)
section
variable {X : Cx} {P : Pm} {E : XK} {pos : Pos} {k np : Nat} {mf : Fn} {x : Str} {fas : SA}
end
section
variable {Pg : Program} {w : World} {K : PySem.W.Frag} {mg : Str → Option Value} {base : Heap} {P : Pm}
end
end LB

set_option Elab.async false
set_option linter.all false
set_option autoImplicit false
set_option maxRecDepth 100000
set_option maxHeartbeats 2000000
/-! The end's Hook, with one more object in sight: the interpreter's statics. -/
namespace LB
open PySem PySem.Spec PyProof.Rows
section
variable {fa : List He.Fa} {fn : List He.DefD} {ts : List He.Tab} {tf : List He.Defn} {ex : PySem.W.Frag → Bool} {w : World}
def sight (g : Addr → Option Obj) (n : Nat) : PySem.W.Frag := He.frT g (cStatics :: He.asD g n)
def obsY (n : Nat) (fa : List He.Fa) (fn : List He.DefD) (ts : List He.Tab) (tf : List He.Defn) (ex : PySem.W.Frag → Bool) (g : Addr → Option Obj) : He.AlX :=
  (He.obsT fa fn ts (sight g n), ex (sight g n) && He.tabsB g tf (sight g n))
theorem saysY_of {n : Nat} {h : Heap} (e : obsY n fa fn ts tf ex h.get? = He.valX fn ts w) : He.SaysX fa fn ts tf ex w h (sight h.get? n) := by
  have hb := Bool.and_eq_true_iff.mp (congrArg Prod.snd e)
  have look (p : He.Defn) (hp : p ∈ tf) := Bool.and_eq_true_iff.mp (List.all_eq_true.mp hb.2 p hp)
  have seen (p : He.Defn) (hp : p ∈ tf) : ∃ o, h.get? (He.cT (sight h.get? n) p).2 = some o ∧ He.emptyTab o = true := by
    have z := (look p hp).2
    cases q : h.get? (He.cT (sight h.get? n) p).2 with
    | none => rw [q] at z; exact absurd z Bool.false_ne_true
    | some o => rw [q] at z; exact ⟨o, rfl, z⟩
  constructor
  · exact congrArg Prod.fst e
  · exact hb.1
  · exact fun p hp => (look p hp).1
  · intro p hp
    obtain ⟨o, q, z⟩ := seen p hp
    exact He.frT_none q z
  · intro p hp
    obtain ⟨o, q, z⟩ := seen p hp
    rw [q, He.emptyTab_eq z]
def hookY (n : Nat) (fa : List He.Fa) (fn : List He.DefD) (ts : List He.Tab) (tf : List He.Defn) (ex : PySem.W.Frag → Bool) : PySem.W.Hook where
  α := He.AlX
  obs s := obsY n fa fn ts tf ex s.heap.get?
  val w := He.valX fn ts w
  says w h := ∃ K : PySem.W.Frag, K.In h ∧ He.SaysX fa fn ts tf ex w h K
  of _ _ e := ⟨_, He.frT_in, saysY_of e⟩
  keeps := by
    rintro _ _ _ ⟨K, hK, c⟩ k
    exact ⟨K, hK.keeps k, c.t, c.more, c.hd, c.out, fun p hp => k _ _ (c.empty p hp)⟩
end
end LB

set_option Elab.async false
set_option linter.all false
set_option autoImplicit false
set_option maxRecDepth 100000
set_option maxHeartbeats 0
/-! Pure: how loops, comprehensions, calls are reckoned with. -/
namespace LB
open PySem
structure Keep (m m2 : Mem) : Prop where
  n : m.n ≤ m2.n
  at_ : ∀ k, k < m.n → m2.get k = m.get k
theorem Keep.refl (m : Mem) : Keep m m := ⟨Nat.le_refl _, fun _ _ => rfl⟩
theorem Keep.trans {a b c : Mem} (x : Keep a b) (y : Keep b c) : Keep a c := ⟨Nat.le_trans x.n y.n, fun k h => (y.at_ k (Nat.lt_of_lt_of_le h x.n)).trans (x.at_ k h)⟩
theorem Keep.new (m : Mem) (o : MO) : Keep m (m.new o) := ⟨Nat.le_succ _, fun k h => by
  unfold Mem.new
  exact if_neg (Nat.ne_of_lt h)⟩
theorem Keep.kill {m : Mem} {o : MO} : Keep m ((m.new o).kill m.n) := ⟨Nat.le_succ _, fun k h => by
  have e := Nat.ne_of_lt h
  show (if k = m.n then none else (m.new o).get k) = m.get k
  rw [if_neg e]
  exact (Keep.new m o).at_ k h⟩
/-! ### mirrors -/
open Classical in
noncomputable def spec {α : Type} (enc : α → List D) (f : α → D) : Fn := fun ds m => if h : ∃ a, enc a = ds then .ok (f h.choose) m else .bad
theorem spec_at {α : Type} {enc : α → List D} {f : α → D} (hi : ∀ a b, enc a = enc b → a = b) (a : α) (m : Mem) : spec enc f (enc a) m = .ok (f a) m := by
  have h : ∃ b, enc b = enc a := ⟨a, rfl⟩
  unfold spec
  rw [dif_pos h, hi _ _ h.choose_spec]
theorem LeR.keep {d d2 : D} {m m2 : Mem} (hd : d2 = d) (k : Keep m m2) (hb : d.blw m.n = true) : LeR m (.ok d m) (.ok d2 m2) := by
  subst hd
  exact .ok _ _ _ ⟨Nat.le_refl _, k.n, fun j hj => .inr ⟨(k.at_ j hj).symm, .inl ⟨hj, rfl⟩⟩⟩ hb
open Classical in
/-! ### one behind the other -/
theorem bind_ok {α β : Type} {a : M α} {f : α → M β} {m m1 : Mem} {x : α} (h : a m = .ok x m1) : M.bind a f m = f x m1 := by
  unfold M.bind
  rw [h]
/-! ### loops -/
/-- what a run tells, kept from being reckoned out -/
structure WP {α : Type} (r : Rs α) (q : α → Mem → Prop) (e : Er → Mem → Prop) : Prop where
  h : r.wp q e
theorem WP.ok {α : Type} {x : α} {m : Mem} {q : α → Mem → Prop} {e : Er → Mem → Prop} (h : q x m) : WP (.ok x m) q e := ⟨h⟩
theorem WP.mono {α : Type} {r : Rs α} {q q' : α → Mem → Prop} {e : Er → Mem → Prop} (h : WP r q e) (hq : ∀ x m, q x m → q' x m) : WP r q' e := ⟨Rs.wp_mono h.h hq fun _ _ z => z⟩
theorem WP.bind {α β : Type} {a : M α} {f : α → M β} {m : Mem} {q : β → Mem → Prop} {e : Er → Mem → Prop} (h : WP (a m) (fun x m1 => WP (f x m1) q e) e) : WP (M.bind a f m) q e := by
  obtain ⟨h⟩ := h
  refine ⟨?_⟩
  unfold M.bind
  cases ha : a m with
  | bad => rw [ha] at h; exact h
  | ok x m1 => rw [ha] at h; exact h.h
  | ex x m1 => rw [ha] at h; exact h
theorem WP.any {α : Type} {r : Rs α} {q q' : α → Mem → Prop} {e : Er → Mem → Prop} (h : WP r q fun _ _ => False) (hq : ∀ x m, q x m → q' x m) : WP r q' e := ⟨Rs.wp_mono h.h hq fun _ _ z => z.elim⟩
theorem WP.out {α : Type} {r : Rs α} {q : α → Mem → Prop} (h : WP r q fun _ _ => False) : ∃ x m, r = .ok x m ∧ q x m := by
  obtain ⟨h⟩ := h
  cases r with
  | bad => exact h.elim
  | ok d m1 => exact ⟨d, m1, rfl, h⟩
  | ex _ _ => exact h.elim
/-! ### comprehensions -/
theorem small62_nat {n : Nat} (h : n < 4611686018427387904) : small62 n = true := by
  unfold small62
  rw [decide_eq_true (by omega), decide_eq_true (by omega)]
  rfl
/-! ### ints side by side -/
theorem intsOf_map (xs : List Int) : intsOf (xs.map D.int) = some xs := by
  induction xs with
  | nil => rfl
  | cons i r ih =>
    show (intsOf (r.map D.int)).map (i :: ·) = _
    rw [ih]
    rfl
end LB

set_option Elab.async false
set_option linter.all false
set_option autoImplicit false
set_option maxRecDepth 100000
set_option maxHeartbeats 0
/-! Pure: rows, mills, pieces; the program's defs about them. -/
namespace LB
open PySem
noncomputable section
def tbF : List (Str × D) := [("put", .str "wn"), ("move", .str "wl"), ("add", .str "wll"), ("take", .str "wll"), ("times", .str "wll"), ("get", .str "wl"), ("set", .str "ll"), ("say", .str "l"), ("rest", .str ""), ("go", .str "r"), ("if", .str "lr"), ("stop", .str "")]
/-! ### rows -/
inductive Row where
  | put (b n : Int) | move (b c : Int) | add (b c d : Int) | take (b c d : Int) | times (b c d : Int) | get (b c : Int) | set (b c : Int) | say (b : Int) | rest | go (r : Int) | ifr (b r : Int) | stop
  deriving DecidableEq
namespace Row
def word : Row → Str
  | put .. => "put" | move .. => "move" | add .. => "add" | take .. => "take" | times .. => "times" | get .. => "get" | set .. => "set" | say .. => "say" | rest => "rest" | go .. => "go" | ifr .. => "if" | stop => "stop"
def parts : Row → List Int
  | put b n => [b, n] | move b c => [b, c] | add b c d => [b, c, d] | take b c d => [b, c, d] | times b c d => [b, c, d] | get b c => [b, c] | set b c => [b, c] | say b => [b] | rest => [] | go r => [r] | ifr b r => [b, r] | stop => []
/-- w: 0, l: 1, n: 2, r: 3 -/
def sorts : Row → List Nat
  | put .. => [0, 2] | move .. => [0, 1] | add .. => [0, 1, 1] | take .. => [0, 1, 1] | times .. => [0, 1, 1] | get .. => [0, 1] | set .. => [1, 1] | say .. => [1] | rest => [] | go .. => [3] | ifr .. => [1, 3] | stop => []
def into : Row → Option Int
  | put b _ => some b | move b _ => some b | add b _ _ => some b | take b _ _ => some b | times b _ _ => some b | get b _ => some b | _ => none
def looks : Row → List Int
  | move _ c => [c] | add _ c d => [c, d] | take _ c d => [c, d] | times _ c d => [c, d] | get _ c => [c] | set b c => [b, c] | say b => [b] | ifr b _ => [b] | _ => []
def ends : Row → Bool
  | go .. => true | ifr .. => true | stop => true | _ => false
def goes : Row → Bool
  | go .. => true | ifr .. => true | _ => false
def stops : Row → Bool
  | stop => true | _ => false
def kind : Row → Nat
  | put .. => 0 | move .. => 1 | add .. => 2 | take .. => 3 | times .. => 4 | get .. => 5 | set .. => 6 | say .. => 7 | rest => 8 | go .. => 9 | ifr .. => 10 | stop => 11
def enc (r : Row) : D := .tup (.str r.word :: r.parts.map D.int)
end Row
def most (rows : Int) : Nat → Int
  | 0 => 8 | 1 => 8 | 2 => 1000 | _ => rows
def Row.okB (rows : Int) (r : Row) : Bool := (r.parts.zip r.sorts).all fun q => decide (0 ≤ q.1) && decide (q.1 ≤ most rows q.2 - 1)
def wordAt (i : Nat) : Str := (["put", "move", "add", "take", "times", "get", "set", "say", "rest", "go", "if", "stop"] : List Str).getD i Str.empty
theorem wordAt_inj : ∀ i, i < 12 → ∀ j, j < 12 → wordAt i = wordAt j → i = j := by decide +kernel
theorem Row.word_at (r : Row) : r.word = wordAt r.kind := by cases r <;> rfl
theorem Row.kind_lt (r : Row) : r.kind < 12 := by cases r <;> simp [Row.kind]
theorem Row.kind_of {r s : Row} (h : r.word = s.word) : r.kind = s.kind := wordAt_inj _ r.kind_lt _ s.kind_lt (by rw [← Row.word_at, ← Row.word_at, h])
theorem Row.enc_inj {r s : Row} (h : r.enc = s.enc) : r = s := by
  have h2 : (.str r.word :: r.parts.map D.int : List D) = .str s.word :: s.parts.map D.int := D.tup.inj h
  obtain ⟨h3, h4⟩ := List.cons.inj h2
  have hw : r.word = s.word := D.str.inj h3
  have hp : r.parts = s.parts := (List.map_inj_right fun _ _ h => D.int.inj h).mp h4
  have hk := Row.kind_of hw
  clear h h2 h3 h4 hw
  cases r <;> cases s <;> first
    | (simp [Row.kind] at hk; done)
    | (simp only [Row.parts, List.cons.injEq, and_true] at hp; simp [hp])
/-! ### mills -/
structure Mill where
  a : Nat
  b : Nat
  c : Nat
  j : Nat
def Mill.enc (t : Mill) : D := .tup [.int t.a, .int t.b, .int t.c, .int t.j]
def Mill.ok (t : Mill) : Prop := t.a ≤ 2 ∧ t.b ≤ 4 ∧ t.c ≤ 4 ∧ t.j ≤ 3
theorem Mill.enc_inj {s t : Mill} (h : s.enc = t.enc) : s = t := by
  have h2 := D.tup.inj h
  simp only [List.cons.injEq, D.int.injEq, and_true, Int.natCast_inj] at h2
  cases s
  cases t
  simp_all
def Row.late (t : Mill) : Row → Nat
  | .put .. => t.a | .move .. => t.a | .add .. => t.a | .take .. => t.a | .times .. => t.c | .get .. => t.b | _ => 0
def optD (o : Option Int) : D := match o with
  | some i => .int i
  | none => .non
/-! ### is_number -/
def f_is_number : SS := sRet (vAnd (op1 (gIsi "int") (vr 0)) (vAnd (vNot (op1 (gIsi "bool") (vr 0))) (chn gLe gLe (vr 1) (vr 0) (vr 2))))
def m_is_number : Fn := run 3 f_is_number
def numB (i lo hi : Int) : Bool := decide (lo ≤ i) && decide (i ≤ hi)
theorem is_number_int (i lo hi : Int) (m : Mem) : m_is_number [.int i, .int lo, .int hi] m = .ok (.bl (numB i lo hi)) m := by
  unfold numB
  by_cases h : lo ≤ i
  · have e : (M.bind (asB (.bl (decide (lo ≤ i)))) fun t => if t = true then (fun m => lift (gLe (.int i) (.int hi) m) m) else M.pure (.bl false)) m = .ok (.bl (decide (lo ≤ i) && decide (i ≤ hi))) m := by
      rw [decide_eq_true h]
      rfl
    exact bind_ok (m1 := m) (x := (Fl.rt (.bl (decide (lo ≤ i) && decide (i ≤ hi))), start 3 [.int i, .int lo, .int hi])) (bind_ok (m1 := m) (x := D.bl (decide (lo ≤ i) && decide (i ≤ hi))) e)
  · have e : (M.bind (asB (.bl (decide (lo ≤ i)))) fun t => if t = true then (fun m => lift (gLe (.int i) (.int hi) m) m) else M.pure (.bl false)) m = .ok (.bl (decide (lo ≤ i) && decide (i ≤ hi))) m := by
      rw [decide_eq_false h]
      rfl
    exact bind_ok (m1 := m) (x := (Fl.rt (.bl (decide (lo ≤ i) && decide (i ≤ hi))), start 3 [.int i, .int lo, .int hi])) (bind_ok (m1 := m) (x := D.bl (decide (lo ≤ i) && decide (i ≤ hi))) e)
/-! ### of a row -/
def f_is_end : SS := sRet (op2 gIn (op2 gIx (vr 0) (cn (.int 0))) (tpl (argC (cn (.str (Str.ofString "go"))) (argC (cn (.str (Str.ofString "if"))) (argC (cn (.str (Str.ofString "stop"))) (argN))))))
def m_is_end : Fn := run 1 f_is_end
def f_looked_at : SS := sRet (comp (itZp (slc (vr 0) (soS (cn (.int 1))) (soN)) (op1 (gGetK tbF) (op2 gIx (vr 0) (cn (.int 0))))) (gTp [1, 2]) (tV (op2 gEq (vr 2) (cn (.str (Str.ofString "l"))))) (vr 1) [1, 2])
def m_looked_at : Fn := run 3 f_looked_at
def f_put_into : SS := sRet (ifE (tV (op2 gEq (slcS (op1 (gGetK tbF) (op2 gIx (vr 0) (cn (.int 0)))) (soN) (soS (cn (.int 1)))) (cn (.str (Str.ofString "w"))))) (op2 gIx (vr 0) (cn (.int 1))) (cn .non))
def m_put_into : Fn := run 1 f_put_into
theorem is_end_row (r : Row) (m : Mem) : m_is_end [r.enc] m = .ok (.bl r.ends) m := by cases r <;> rfl
theorem put_into_row (r : Row) (m : Mem) : m_put_into [r.enc] m = .ok (optD r.into) m := by cases r <;> rfl
theorem looked_at_row (r : Row) (m : Mem) : m_looked_at [r.enc] m = .ok (.lst (r.looks.map D.int)) m := by cases r <;> rfl
abbrev encRM (q : Row × Mill) : List D := [q.1.enc, q.2.enc]
theorem encRM_inj (a b : Row × Mill) (h : encRM a = encRM b) : a = b := by
  obtain ⟨h1, h2⟩ := List.cons.inj h
  obtain ⟨h3, _⟩ := List.cons.inj h2
  exact Prod.ext (Row.enc_inj h1) (Mill.enc_inj h3)
noncomputable def m_late : Fn := spec encRM fun q => .int (q.1.late q.2)
theorem late_row (r : Row) (t : Mill) (m : Mem) : m_late [r.enc, t.enc] m = .ok (.int (r.late t)) m := spec_at encRM_inj (r, t) m
/-! ### how far behind -/
def inP (o : Option Int) (xs : List Int) : Bool := match o with
  | some g => xs.contains g
  | none => false
def sameP (a b : Option Int) : Bool := match a, b with
  | some g, some h => decide (g = h)
  | _, _ => false
def pairP (r s : Row) : Bool := match r, s with
  | .set .., .get .. => true
  | .get .., .set .. => true
  | .set .., .set .. => true
  | .say .., .say .. => true
  | _, _ => false
def one1 (b : Bool) (i : Int) : List Int := if b = true then [i] else []
def far1 (r s : Row) (t : Mill) : List Int := one1 (inP r.into s.looks) (r.late t + 1)
def far2 (r s : Row) (t : Mill) : List Int := one1 (sameP r.into s.into) (if (r.late t : Int) - s.late t + 1 > 1 then (r.late t : Int) - s.late t + 1 else 1)
def far3 (r s : Row) (t : Mill) : List Int := one1 (inP s.into r.looks) 1
def far4 (r s : Row) (t : Mill) : List Int := one1 (pairP r s || s.stops) 1
def far5 (r s : Row) (t : Mill) : List Int := one1 s.goes ((r.late t : Int) - t.j)
def farL (r s : Row) (t : Mill) : List Int := far1 r s t ++ far2 r s t ++ far3 r s t ++ far4 r s t ++ far5 r s t
def far (r s : Row) (t : Mill) : D := optD (maxL (farL r s t))
abbrev encRRM (q : Row × Row × Mill) : List D := [q.1.enc, q.2.1.enc, q.2.2.enc]
theorem encRRM_inj (a b : Row × Row × Mill) (h : encRRM a = encRRM b) : a = b := by
  obtain ⟨h1, h2⟩ := List.cons.inj h
  obtain ⟨h3, h4⟩ := List.cons.inj h2
  obtain ⟨h5, _⟩ := List.cons.inj h4
  exact Prod.ext (Row.enc_inj h1) (Prod.ext (Row.enc_inj h3) (Mill.enc_inj h5))
noncomputable def m_far_of : Fn := spec encRRM fun q => far q.1 q.2.1 q.2.2
theorem far_of_row (r s : Row) (t : Mill) (m : Mem) : m_far_of [r.enc, s.enc, t.enc] m = .ok (far r s t) m := spec_at encRRM_inj (r, s, t) m
/-! ### all ties of a piece -/
def encP (p : List Row) : D := .tup (p.map Row.enc)
/-! ### is_row -/
/-! ### what is refused -/
structure PieceOk (p : List Row) : Prop where
  one : 1 ≤ p.length
  most : p.length ≤ 12
  rows : ∀ r, r ∈ p → r.okB 200 = true
  ends : ∀ r, r ∈ p.take (p.length - 1) → r.ends = false
end
end LB

set_option Elab.async false
set_option linter.all false
set_option autoImplicit false
set_option maxRecDepth 100000
set_option maxHeartbeats 1000000
/-! Pure: the laws' own draws. -/
namespace LB
open PySem
noncomputable section
/-! ### steps of a run that draws -/
section
variable {ρ : Ev} {m : Mem} {e : Er → Mem → Prop}
end
/-! ### what is drawn from -/
structure Drw (k c : Nat) (m : Mem) : Prop where
  kn : k < m.n
  cn : c < m.n
  ne : k ≠ c
  at_ : ∃ (a p : Int) (xs : List Int), 0 ≤ a ∧ 0 ≤ p ∧ xs.length ≤ 1000 ∧ m.get k = some (.lst [.int a, .loc c, .int p]) ∧ m.get c = some (.lst (xs.map D.int))
structure Same (k c : Nat) (m m2 : Mem) : Prop where
  n : m.n ≤ m2.n
  at_ : ∀ j, j < m.n → j ≠ k → j ≠ c → m2.get j = m.get j
theorem Same.refl (k c : Nat) (m : Mem) : Same k c m m := ⟨Nat.le_refl _, fun _ _ _ _ => rfl⟩
theorem Same.trans {k c : Nat} {m1 m2 m3 : Mem} (a : Same k c m1 m2) (b : Same k c m2 m3) : Same k c m1 m3 := ⟨Nat.le_trans a.n b.n, fun j h h1 h2 => (b.at_ j (Nat.lt_of_lt_of_le h a.n) h1 h2).trans (a.at_ j h h1 h2)⟩
theorem Same.new {k c : Nat} {m1 m2 : Mem} {o : MO} (a : Same k c m1 m2) : Same k c m1 (m2.new o) := ⟨Nat.le_trans a.n (Nat.le_succ _), fun j h h1 h2 => ((Keep.new m2 o).at_ j (Nat.lt_of_lt_of_le h a.n)).trans (a.at_ j h h1 h2)⟩
theorem Keep.same {k c : Nat} {m1 m2 : Mem} (a : Keep m1 m2) : Same k c m1 m2 := ⟨a.n, fun j h _ _ => a.at_ j h⟩
theorem Drw.keep {k c : Nat} {m m2 : Mem} (d : Drw k c m) (a : Keep m m2) : Drw k c m2 := by
  obtain ⟨x, p, xs, h1, h2, h3, h4, h5⟩ := d.at_
  exact ⟨Nat.lt_of_lt_of_le d.kn a.n, Nat.lt_of_lt_of_le d.cn a.n, d.ne, x, p, xs, h1, h2, h3, (a.at_ _ d.kn).trans h4, (a.at_ _ d.cn).trans h5⟩
theorem lstOf_at {m : Mem} {k : Nat} {xs : List D} (h : k < m.n) (g : m.get k = some (.lst xs)) : lstOf m (.loc k) = some xs := by
  show (if k < m.n then (match m.get k with
    | some (.lst xs) => some xs
    | _ => none) else none) = some xs
  rw [if_pos h, g]
theorem put_at (m : Mem) (k : Nat) (o : MO) : (m.put k o).get k = some o := if_pos rfl
theorem put_ne {m : Mem} {k j : Nat} {o : MO} (h : j ≠ k) : (m.put k o).get j = m.get j := if_neg h
/-! ### _law_next -/
/-! ### _law_mill -/
/-! ### _law_number, _law_boxes -/
structure Bx where
  b : Int
  w : Int
def Bx.enc (x : Bx) : D := .tup [.int x.b, .int x.w]
def Bx.ok (x : Bx) : Prop := 0 ≤ x.b ∧ x.b < 8 ∧ 0 < x.w ∧ x.w ≤ 8
/-! ### _law_deed -/
def in8 (v : Int) : Prop := 0 ≤ v ∧ v < 8
/-! ### _law_jump -/
/-! ### _law_piece -/
structure PieceP (n : Nat) (p : List Row) : Prop where
  one : 1 ≤ p.length
  most : p.length ≤ n
  rows : ∀ r, r ∈ p → r.okB 200 = true
  ends : ∀ r, r ∈ p.take (p.length - 1) → r.ends = false
theorem PieceP.ok {n : Nat} {p : List Row} (h : PieceP n p) (hn : n ≤ 12) : PieceOk p := ⟨h.one, Nat.le_trans h.most hn, h.rows, h.ends⟩
end
end LB

set_option Elab.async false
set_option linter.all false
set_option autoImplicit false
set_option maxRecDepth 100000
set_option maxHeartbeats 1000000
/-! Pure: the laws' own mix, alike, ties. -/
namespace LB
open PySem
noncomputable section
/-! ### _law_alike -/
/-! ### _law_late, _law_looks, _law_far, _law_ties -/
end
end LB

set_option Elab.async false
set_option linter.all false
set_option autoImplicit false
set_option maxRecDepth 100000
set_option maxHeartbeats 1000000
/-! Pure: drawn programs; need_program. -/
namespace LB
open PySem
noncomputable section
structure ProgOk (p : List Row) : Prop where
  one : 1 ≤ p.length
  most : p.length ≤ 200
  rows : ∀ r, r ∈ p → r.okB p.length = true
end
end LB

set_option Elab.async false
set_option linter.all false
set_option autoImplicit false
set_option maxRecDepth 100000
set_option maxHeartbeats 1000000
/-! Pure: a run's state, one step of it. -/
namespace LB
open PySem
noncomputable section
/-- what is under way: (beat, box, number) -/
abbrev Cm := Int × Nat × Int
structure St where
  cells : List Int
  boxes : List Int
  com : List Cm
  go : Int → Option Nat
  here : Nat
  said : List Int
  fin : Option Str
def Cm.enc (q : Cm) : D := .tup [.int q.1, .int q.2.1, .int q.2.2]
def layB (b : Int) (bs : List Int) (com : List Cm) : List Int := com.foldl (fun bs q => if q.1 = b then bs.set q.2.1 q.2.2 else bs) bs
def layC (b : Int) (com : List Cm) : List Cm := com.filter fun q => decide (b < q.1)
def St.lay (b : Int) (s : St) : St := { s with boxes := layB b s.boxes s.com, com := layC b s.com }
def bx (s : St) (i : Int) : Int := s.boxes.getD i.toNat 0
def worth (s : St) : Row → Int
  | .put _ n => n
  | .move _ c => bx s c
  | .get _ c => s.cells.getD (bx s c % 16).toNat 0
  | .add _ c d => (bx s c + bx s d) % 1000
  | .take _ c d => (bx s c - bx s d) % 1000
  | .times _ c d => (bx s c * bx s d) % 1000
  | _ => 0
def upG (g : Int → Option Nat) (k : Int) (v : Nat) : Int → Option Nat := fun i => if i = k then some v else g i
def St.act (t : Mill) (b : Int) (r : Row) (s : St) : St := match r with
  | .set x y => { s with cells := s.cells.set (bx s x % 16).toNat (bx s y) }
  | .say x => { s with said := s.said ++ [bx s x] }
  | .go g => { s with go := upG s.go (b + t.j + 1) g.toNat }
  | .ifr x g => if bx s x ≠ 0 then { s with go := upG s.go (b + t.j + 1) g.toNat } else s
  | r => match r.into with
    | some g => { s with com := s.com ++ [(b + r.late t + 1, g.toNat, worth s r)] }
    | none => s
def St.next (p : List Row) (b : Int) (r : Row) (s : St) : St :=
  { s with here := (s.go (b + 1)).getD (s.here + 1), fin := if r.stops = true then some "stop" else if (s.go (b + 1)).getD (s.here + 1) = p.length then some "end" else none }
def St.step (p : List Row) (t : Mill) (b : Int) (r : Row) (s : St) : St := ((s.lay b).act t b r).next p b r
/-- numbers as they are in a run -/
def num (v : Int) : Prop := 0 ≤ v ∧ v < 1000
structure StOk (p : List Row) (s : St) : Prop where
  cl : s.cells.length = 16
  bl : s.boxes.length = 8
  cn : ∀ v, v ∈ s.cells → num v
  bn : ∀ v, v ∈ s.boxes → num v
  cm : ∀ q, q ∈ s.com → q.2.1 < 8 ∧ num q.2.2
  go : ∀ i g, s.go i = some g → g < p.length
theorem layB_ok {b : Int} : ∀ {com : List Cm} {bs : List Int}, bs.length = 8 → (∀ v, v ∈ bs → num v) → (∀ q, q ∈ com → q.2.1 < 8 ∧ num q.2.2) → (layB b bs com).length = 8 ∧ ∀ v, v ∈ layB b bs com → num v
  | [], bs, h1, h2, _ => ⟨h1, h2⟩
  | q :: com, bs, h1, h2, h3 => by
    show (layB b (if q.1 = b then bs.set q.2.1 q.2.2 else bs) com).length = 8 ∧ _
    refine layB_ok (com := com) (bs := if q.1 = b then bs.set q.2.1 q.2.2 else bs) ?_ ?_ fun q hq => h3 q (List.mem_cons_of_mem _ hq)
    · split
      · rw [List.length_set]
        exact h1
      · exact h1
    · intro v hv
      split at hv
      · rcases List.mem_or_eq_of_mem_set hv with hv | rfl
        · exact h2 v hv
        · exact (h3 q List.mem_cons_self).2
      · exact h2 v hv
theorem StOk.lay {p : List Row} {s : St} {b : Int} (h : StOk p s) : StOk p (s.lay b) := by
  obtain ⟨h1, h2⟩ := layB_ok (b := b) h.bl h.bn h.cm
  exact ⟨h.cl, h1, h.cn, h2, fun q hq => h.cm q (List.mem_filter.mp hq).1, h.go⟩
theorem num_getD {xs : List Int} {i : Nat} (h : ∀ v, v ∈ xs → num v) : num (xs.getD i 0) := by
  rw [List.getD_eq_getElem?_getD]
  cases hg : xs[i]? with
  | none => exact ⟨by decide, by decide⟩
  | some v => exact h v (List.mem_of_getElem? hg)
theorem num_mod (v : Int) : num (v % 1000) := ⟨Int.emod_nonneg _ (by decide), Int.emod_lt_of_pos _ (by decide)⟩
theorem worth_num {p : List Row} {s : St} {r : Row} {rows : Int} (h : StOk p s) (hr : r.okB rows = true) (hi : r.into.isSome = true) : num (worth s r) := by
  have hb (i : Int) : num (bx s i) := num_getD h.bn
  cases r <;> first
    | (cases hi; done)
    | exact num_mod _
    | exact hb _
    | exact num_getD h.cn
    | skip
  rename_i b n
  have h2 : ((decide (0 ≤ b) && decide (b ≤ most rows 0 - 1)) && ((decide (0 ≤ n) && decide (n ≤ most rows 2 - 1)) && true)) = true := hr
  obtain ⟨_, h3⟩ := Bool.and_eq_true_iff.mp h2
  obtain ⟨h4, _⟩ := Bool.and_eq_true_iff.mp h3
  obtain ⟨h5, h6⟩ := Bool.and_eq_true_iff.mp h4
  have h7 := of_decide_eq_true h5
  have h8 : n ≤ 1000 - 1 := of_decide_eq_true h6
  exact ⟨h7, by show n < 1000; omega⟩
theorem into_box {r : Row} {rows g : Int} (hr : r.okB rows = true) (hi : r.into = some g) : in8 g := by
  cases r <;> first
    | (cases hi; done)
    | skip
  all_goals
    cases hi
    have h2 := hr
    unfold Row.okB Row.parts Row.sorts at h2
    simp only [List.zip_cons_cons, List.all_cons, Bool.and_eq_true, decide_eq_true_eq] at h2
    have h3 := h2.1
    have h4 : g ≤ 8 - 1 := h3.2
    exact ⟨h3.1, by omega⟩
theorem upG_ok {p : List Row} {g : Int → Option Nat} {k : Int} {v : Nat} (h : ∀ i x, g i = some x → x < p.length) (hv : v < p.length) : ∀ i x, upG g k v i = some x → x < p.length := fun i x hx => by
  unfold upG at hx
  split at hx
  · cases hx
    exact hv
  · exact h i x hx
theorem act_worth {p : List Row} {t : Mill} {b : Int} {s : St} {r : Row} {g : Int} (h : StOk p s) (hr : r.okB p.length = true) (hi : r.into = some g) : StOk p { s with com := s.com ++ [(b + r.late t + 1, g.toNat, worth s r)] } := by
  refine ⟨h.cl, h.bl, h.cn, h.bn, fun q hq => ?_, h.go⟩
  rcases List.mem_append.mp hq with hq | hq
  · exact h.cm q hq
  · cases List.mem_singleton.mp hq
    have h8 := into_box hr hi
    exact ⟨by have := h8.1; have := h8.2; show g.toNat < 8; omega, worth_num h hr (by rw [hi]; rfl)⟩
theorem goal_ok {rows : Int} {r : Row} {g : Int} (hr : r.okB rows = true) (hg : r = .go g ∨ ∃ x, r = .ifr x g) : 0 ≤ g ∧ g < rows := by
  rcases hg with rfl | ⟨x, rfl⟩
  · have h2 := hr
    unfold Row.okB Row.parts Row.sorts at h2
    simp only [List.zip_cons_cons, List.all_cons, Bool.and_eq_true, decide_eq_true_eq] at h2
    have h4 : g ≤ rows - 1 := h2.1.2
    exact ⟨h2.1.1, by omega⟩
  · have h2 := hr
    unfold Row.okB Row.parts Row.sorts at h2
    simp only [List.zip_cons_cons, List.all_cons, Bool.and_eq_true, decide_eq_true_eq] at h2
    have h4 : g ≤ rows - 1 := h2.2.1.2
    exact ⟨h2.2.1.1, by omega⟩
theorem act_ok {p : List Row} {t : Mill} {b : Int} {s : St} {r : Row} (h : StOk p s) (hr : r.okB p.length = true) : StOk p (s.act t b r) := by
  have hb (i : Int) : num (bx s i) := num_getD h.bn
  cases r with
  | put x n => exact act_worth h hr rfl
  | move x y => exact act_worth h hr rfl
  | add x y z => exact act_worth h hr rfl
  | take x y z => exact act_worth h hr rfl
  | times x y z => exact act_worth h hr rfl
  | get x y => exact act_worth h hr rfl
  | set x y =>
    refine ⟨(List.length_set).trans h.cl, h.bl, fun v hv => ?_, h.bn, h.cm, h.go⟩
    rcases List.mem_or_eq_of_mem_set hv with hv | rfl
    · exact h.cn v hv
    · exact hb y
  | say x => exact ⟨h.cl, h.bl, h.cn, h.bn, h.cm, h.go⟩
  | rest => exact h
  | stop => exact h
  | go g =>
    have hg := goal_ok hr (.inl rfl)
    exact ⟨h.cl, h.bl, h.cn, h.bn, h.cm, upG_ok h.go (by omega)⟩
  | ifr x g =>
    have hg := goal_ok hr (.inr ⟨x, rfl⟩)
    show StOk p (if bx s x ≠ 0 then { s with go := upG s.go (b + t.j + 1) g.toNat } else s)
    split
    · exact ⟨h.cl, h.bl, h.cn, h.bn, h.cm, upG_ok h.go (by omega)⟩
    · exact h
end
end LB

set_option Elab.async false
set_option linter.all false
set_option autoImplicit false
set_option maxRecDepth 100000
set_option maxHeartbeats 1000000
/-! Pure: the program's runner in the store. -/
namespace LB
open PySem
noncomputable section
/-- where the runner's things stand -/
structure Ks where
  o : Nat
  c : Nat
  b : Nat
  m : Nat
  g : Nat
  s : Nat
theorem parts8 {r : Row} {rows : Int} (hr : r.okB rows = true) : (∀ x y, r = .move x y → in8 y) ∧ (∀ x y, r = .get x y → in8 y) ∧ (∀ x y z, (r = .add x y z ∨ r = .take x y z ∨ r = .times x y z) → in8 y ∧ in8 z) := by
  have i8 : ∀ {v : Int} {n : Nat}, 0 ≤ v → v ≤ most rows n - 1 → n < 2 → in8 v := fun {v n} h1 h2 h3 => by
    have e : most rows n = 8 := by
      have hz : n = 0 ∨ n = 1 := by omega
      rcases hz with rfl | rfl <;> rfl
    rw [e] at h2
    exact ⟨h1, by omega⟩
  have u := hr
  unfold Row.okB at u
  refine ⟨fun x y e => ?_, fun x y e => ?_, fun x y z e => ?_⟩
  · subst e
    simp only [Row.parts, Row.sorts, List.zip_cons_cons, List.all_cons, Bool.and_eq_true, decide_eq_true_eq] at u
    exact i8 u.2.1.1 u.2.1.2 (by decide)
  · subst e
    simp only [Row.parts, Row.sorts, List.zip_cons_cons, List.all_cons, Bool.and_eq_true, decide_eq_true_eq] at u
    exact i8 u.2.1.1 u.2.1.2 (by decide)
  · rcases e with rfl | rfl | rfl
    all_goals
      simp only [Row.parts, Row.sorts, List.zip_cons_cons, List.all_cons, Bool.and_eq_true, decide_eq_true_eq] at u
      exact ⟨i8 u.2.1.1 u.2.1.2 (by decide), i8 u.2.2.1.1 u.2.2.1.2 (by decide)⟩
end
end LB

set_option Elab.async false
set_option linter.all false
set_option autoImplicit false
set_option maxRecDepth 100000
set_option maxHeartbeats 1000000
/-! Pure: a run reckoned step by step, by rewriting at the head. -/
namespace LB
open PySem
section
variable {α β γ : Type}
def K (a : M α) (m : Mem) (k : α → Mem → Rs β) : Rs β := match a m with
  | .bad => .bad
  | .ok x m1 => k x m1
  | .ex e m1 => .ex e m1
theorem K_ok {a : M α} {m m1 : Mem} {x : α} (h : a m = .ok x m1) (k : α → Mem → Rs β) : K a m k = k x m1 := by unfold K; rw [h]
theorem K_bad {a : M α} {m : Mem} (h : a m = .bad) (k : α → Mem → Rs β) : K a m k = .bad := by unfold K; rw [h]
theorem K_bind (a : M α) (f : α → M β) (m : Mem) (k : β → Mem → Rs γ) : K (M.bind a f) m k = K a m fun x m1 => K (f x) m1 k := by
  unfold K M.bind
  cases a m <;> rfl
/-- what may fail -/
def KO (o : Option α) (m : Mem) (k : α → Mem → Rs β) : Rs β := match o with
  | some d => k d m
  | none => .bad
theorem KO_some (d : α) (m : Mem) (k : α → Mem → Rs β) : KO (some d) m k = k d m := rfl
theorem KO_of {o : Option α} {d : α} (h : o = some d) (m : Mem) (k : α → Mem → Rs β) : KO o m k = k d m := by rw [h]; rfl
theorem K_lift (o : Option α) (m : Mem) (k : α → Mem → Rs β) : K (lift o) m k = KO o m k := by cases o <;> rfl
/-! names -/
def kVr (ρ : Ev) (i : Nat) (m : Mem) (k : D → Mem → Rs β) : Rs β := match ρ[i]? with
  | some (some d) => k d m
  | _ => .bad
theorem K_vr (i : Nat) (ρ : Ev) (m : Mem) (k : D → Mem → Rs β) : K (vr i ρ) m k = kVr ρ i m k := by
  unfold K vr kVr
  split <;> rename_i h <;> split at h <;> simp_all
theorem kVr_0 (d : D) (ρ : Ev) (m : Mem) (k : D → Mem → Rs β) : kVr (some d :: ρ) 0 m k = k d m := rfl
theorem kVr_s (x : Option D) (ρ : Ev) (i : Nat) (m : Mem) (k : D → Mem → Rs β) : kVr (x :: ρ) (i + 1) m k = kVr ρ i m k := by
  unfold kVr
  rw [List.getElem?_cons_succ]
theorem K_cn (d : D) (ρ : Ev) (m : Mem) (k : D → Mem → Rs β) : K (cn d ρ) m k = k d m := rfl
theorem K_pure (x : α) (m : Mem) (k : α → Mem → Rs β) : K (M.pure x) m k = k x m := rfl
/-! operations -/
def K2 (g : O2) (x y : D) (m : Mem) (k : D → Mem → Rs β) : Rs β := KO (g x y m) m k
def kOp2b (g : O2) (x : D) (k : D → Mem → Rs β) : D → Mem → Rs β := fun y m => K2 g x y m k
def kOp2a (g : O2) (b : SE) (ρ : Ev) (k : D → Mem → Rs β) : D → Mem → Rs β := fun x m => K (b ρ) m (kOp2b g x k)
theorem K_op2 (g : O2) (a b : SE) (ρ : Ev) (m : Mem) (k : D → Mem → Rs β) : K (op2 g a b ρ) m k = K (a ρ) m (kOp2a g b ρ k) := by
  unfold op2
  rw [K_bind]
  congr 1
  funext x m1
  rw [K_bind]
  unfold kOp2a
  congr 1
  funext y m2
  exact K_lift _ _ _
theorem kOp2a_at (g : O2) (b : SE) (ρ : Ev) (k : D → Mem → Rs β) (x : D) (m : Mem) : kOp2a g b ρ k x m = K (b ρ) m (kOp2b g x k) := rfl
theorem kOp2b_at (g : O2) (x : D) (k : D → Mem → Rs β) (y : D) (m : Mem) : kOp2b g x k y m = K2 g x y m k := rfl
def K1 (g : O1) (x : D) (m : Mem) (k : D → Mem → Rs β) : Rs β := KO (g x m) m k
def kOp1 (g : O1) (k : D → Mem → Rs β) : D → Mem → Rs β := fun x m => K1 g x m k
theorem K_op1 (g : O1) (a : SE) (ρ : Ev) (m : Mem) (k : D → Mem → Rs β) : K (op1 g a ρ) m k = K (a ρ) m (kOp1 g k) := by
  unfold op1
  rw [K_bind]
  congr 1
  funext x m1
  exact K_lift _ _ _
theorem kOp1_at (g : O1) (k : D → Mem → Rs β) (x : D) (m : Mem) : kOp1 g k x m = K1 g x m k := rfl
/-! arguments -/
def kArg1 (r : SA) (ρ : Ev) (k : List D → Mem → Rs β) : D → Mem → Rs β := fun x m => K (r ρ) m fun xs m1 => k (x :: xs) m1
def kArg2 (x : D) (k : List D → Mem → Rs β) : List D → Mem → Rs β := fun xs m => k (x :: xs) m
theorem K_argN (ρ : Ev) (m : Mem) (k : List D → Mem → Rs β) : K (argN ρ) m k = k [] m := rfl
theorem K_argC (a : SE) (r : SA) (ρ : Ev) (m : Mem) (k : List D → Mem → Rs β) : K (argC a r ρ) m k = K (a ρ) m (kArg1 r ρ k) := by
  unfold argC
  rw [K_bind]
  congr 1
  funext x m1
  rw [K_bind]
  rfl
theorem kArg1_at (r : SA) (ρ : Ev) (k : List D → Mem → Rs β) (x : D) (m : Mem) : kArg1 r ρ k x m = K (r ρ) m (kArg2 x k) := rfl
theorem kArg2_at (x : D) (k : List D → Mem → Rs β) (xs : List D) (m : Mem) : kArg2 x k xs m = k (x :: xs) m := rfl
def KN (g : ON) (xs : List D) (m : Mem) (k : D → Mem → Rs β) : Rs β := KO (g xs m) m k
def kOpN (g : ON) (k : D → Mem → Rs β) : List D → Mem → Rs β := fun xs m => KN g xs m k
theorem K_opN (g : ON) (a : SA) (ρ : Ev) (m : Mem) (k : D → Mem → Rs β) : K (opN g a ρ) m k = K (a ρ) m (kOpN g k) := by
  unfold opN
  rw [K_bind]
  congr 1
  funext x m1
  exact K_lift _ _ _
theorem kOpN_at (g : ON) (k : D → Mem → Rs β) (xs : List D) (m : Mem) : kOpN g k xs m = KN g xs m k := rfl
/-! calls: the arguments' count is looked at by rfl -/
def KF (f : Fn) (ds : List D) (m : Mem) (k : D → Mem → Rs β) : Rs β := K (f ds) m k
def kCall (np : Nat) (f : Fn) (k : D → Mem → Rs β) : List D → Mem → Rs β := fun ds m => if ds.length = np then KF f ds m k else .bad
theorem K_call (np : Nat) (f : Fn) (a : SA) (ρ : Ev) (m : Mem) (k : D → Mem → Rs β) : K (callN np f a ρ) m k = K (a ρ) m (kCall np f k) := by
  unfold callN
  rw [K_bind]
  congr 1
  funext x m1
  unfold kCall KF K
  by_cases h : x.length = np
  · simp only [h, if_true]
  · simp only [h, if_false]
theorem kCall_1 (f : Fn) (k : D → Mem → Rs β) (a : D) (m : Mem) : kCall 1 f k [a] m = KF f [a] m k := rfl
theorem kCall_2 (f : Fn) (k : D → Mem → Rs β) (a b : D) (m : Mem) : kCall 2 f k [a, b] m = KF f [a, b] m k := rfl
theorem kCall_3 (f : Fn) (k : D → Mem → Rs β) (a b c : D) (m : Mem) : kCall 3 f k [a, b, c] m = KF f [a, b, c] m k := rfl
theorem kCall_4 (f : Fn) (k : D → Mem → Rs β) (a b c d : D) (m : Mem) : kCall 4 f k [a, b, c, d] m = KF f [a, b, c, d] m k := rfl
theorem kCall_5 (f : Fn) (k : D → Mem → Rs β) (a b c d e : D) (m : Mem) : kCall 5 f k [a, b, c, d, e] m = KF f [a, b, c, d, e] m k := rfl
theorem KF_ok {f : Fn} {ds : List D} {m m1 : Mem} {d : D} (h : f ds m = .ok d m1) (k : D → Mem → Rs β) : KF f ds m k = k d m1 := K_ok h k
/-! displays -/
def kTpl (k : D → Mem → Rs β) : List D → Mem → Rs β := fun xs m => if xs.length ≤ 1000 then k (.tup xs) m else .bad
theorem K_tpl (a : SA) (ρ : Ev) (m : Mem) (k : D → Mem → Rs β) : K (tpl a ρ) m k = K (a ρ) m (kTpl k) := by
  unfold tpl capE
  rw [K_bind]
  congr 1
  funext x m1
  unfold kTpl K
  by_cases h : x.length ≤ 1000
  · simp only [h, if_true]; rfl
  · simp only [h, if_false]
def kLsl (k : D → Mem → Rs β) : List D → Mem → Rs β := fun xs m => if xs.length ≤ 1000 then k (.lst xs) m else .bad
theorem K_lsl (a : SA) (ρ : Ev) (m : Mem) (k : D → Mem → Rs β) : K (lsl a ρ) m k = K (a ρ) m (kLsl k) := by
  unfold lsl capE
  rw [K_bind]
  congr 1
  funext x m1
  unfold kLsl K
  by_cases h : x.length ≤ 1000
  · simp only [h, if_true]; rfl
  · simp only [h, if_false]
def kLsm (k : D → Mem → Rs β) : List D → Mem → Rs β := fun xs m => if xs.length ≤ 1000 then k (.loc m.n) (m.new (.lst xs)) else .bad
theorem K_lsm (a : SA) (ρ : Ev) (m : Mem) (k : D → Mem → Rs β) : K (lsm a ρ) m k = K (a ρ) m (kLsm k) := by
  unfold lsm capE
  rw [K_bind]
  congr 1
  funext x m1
  unfold kLsm K
  by_cases h : x.length ≤ 1000
  · simp only [h, if_true]; rfl
  · simp only [h, if_false]
theorem K_dctE (ρ : Ev) (m : Mem) (k : D → Mem → Rs β) : K (dctE ρ) m k = k (.loc m.n) (m.new (.dct [])) := rfl
theorem kTpl_0 (k : D → Mem → Rs β) (m : Mem) : kTpl k [] m = k (.tup []) m := rfl
theorem kTpl_1 (k : D → Mem → Rs β) (a : D) (m : Mem) : kTpl k [a] m = k (.tup [a]) m := rfl
theorem kTpl_2 (k : D → Mem → Rs β) (a b : D) (m : Mem) : kTpl k [a, b] m = k (.tup [a, b]) m := rfl
theorem kTpl_3 (k : D → Mem → Rs β) (a b c : D) (m : Mem) : kTpl k [a, b, c] m = k (.tup [a, b, c]) m := rfl
theorem kTpl_4 (k : D → Mem → Rs β) (a b c d : D) (m : Mem) : kTpl k [a, b, c, d] m = k (.tup [a, b, c, d]) m := rfl
theorem kTpl_5 (k : D → Mem → Rs β) (a b c d e : D) (m : Mem) : kTpl k [a, b, c, d, e] m = k (.tup [a, b, c, d, e]) m := rfl
theorem kLsl_0 (k : D → Mem → Rs β) (m : Mem) : kLsl k [] m = k (.lst []) m := rfl
theorem kLsl_1 (k : D → Mem → Rs β) (a : D) (m : Mem) : kLsl k [a] m = k (.lst [a]) m := rfl
theorem kLsl_2 (k : D → Mem → Rs β) (a b : D) (m : Mem) : kLsl k [a, b] m = k (.lst [a, b]) m := rfl
theorem kLsl_3 (k : D → Mem → Rs β) (a b c : D) (m : Mem) : kLsl k [a, b, c] m = k (.lst [a, b, c]) m := rfl
theorem kLsl_4 (k : D → Mem → Rs β) (a b c d : D) (m : Mem) : kLsl k [a, b, c, d] m = k (.lst [a, b, c, d]) m := rfl
theorem kLsm_0 (k : D → Mem → Rs β) (m : Mem) : kLsm k [] m = k (.loc m.n) (m.new (.lst [])) := rfl
/-! tests -/
def kTV (k : Bool → Mem → Rs β) : D → Mem → Rs β := fun x m => match x with
  | .bl b => k b m
  | _ => .bad
theorem K_tV (a : SE) (ρ : Ev) (m : Mem) (k : Bool → Mem → Rs β) : K (tV a ρ) m k = K (a ρ) m (kTV k) := by
  unfold tV
  rw [K_bind]
  congr 1
  funext x m1
  cases x <;> rfl
theorem kTV_at (k : Bool → Mem → Rs β) (b : Bool) (m : Mem) : kTV k (.bl b) m = k b m := rfl
def kTAnd (b : SB) (ρ : Ev) (k : Bool → Mem → Rs β) : Bool → Mem → Rs β := fun c m => if c = true then K (b ρ) m k else k false m
theorem K_tAnd (a b : SB) (ρ : Ev) (m : Mem) (k : Bool → Mem → Rs β) : K (tAnd a b ρ) m k = K (a ρ) m (kTAnd b ρ k) := by
  unfold tAnd
  rw [K_bind]
  congr 1
  funext x m1
  cases x <;> rfl
theorem kTAnd_t (b : SB) (ρ : Ev) (k : Bool → Mem → Rs β) (m : Mem) : kTAnd b ρ k true m = K (b ρ) m k := rfl
theorem kTAnd_f (b : SB) (ρ : Ev) (k : Bool → Mem → Rs β) (m : Mem) : kTAnd b ρ k false m = k false m := rfl
def kTOr (b : SB) (ρ : Ev) (k : Bool → Mem → Rs β) : Bool → Mem → Rs β := fun c m => if c = true then k true m else K (b ρ) m k
theorem K_tOr (a b : SB) (ρ : Ev) (m : Mem) (k : Bool → Mem → Rs β) : K (tOr a b ρ) m k = K (a ρ) m (kTOr b ρ k) := by
  unfold tOr
  rw [K_bind]
  congr 1
  funext x m1
  cases x <;> rfl
theorem kTOr_t (b : SB) (ρ : Ev) (k : Bool → Mem → Rs β) (m : Mem) : kTOr b ρ k true m = k true m := rfl
theorem kTOr_f (b : SB) (ρ : Ev) (k : Bool → Mem → Rs β) (m : Mem) : kTOr b ρ k false m = K (b ρ) m k := rfl
def kTNot (k : Bool → Mem → Rs β) : Bool → Mem → Rs β := fun c m => k (!c) m
theorem K_tNot (a : SB) (ρ : Ev) (m : Mem) (k : Bool → Mem → Rs β) : K (LB.tNot a ρ) m k = K (a ρ) m (kTNot k) := by
  unfold LB.tNot
  rw [K_bind]
  rfl
theorem kTNot_t (k : Bool → Mem → Rs β) (m : Mem) : kTNot k true m = k false m := rfl
theorem kTNot_f (k : Bool → Mem → Rs β) (m : Mem) : kTNot k false m = k true m := rfl
theorem kTNot_at (k : Bool → Mem → Rs β) (c : Bool) (m : Mem) : kTNot k c m = k (!c) m := rfl
theorem K_tYes (ρ : Ev) (m : Mem) (k : Bool → Mem → Rs β) : K (tYes ρ) m k = k true m := rfl
def kVAnd (b : SE) (ρ : Ev) (k : D → Mem → Rs β) : D → Mem → Rs β := fun x m => match x with
  | .bl c => if c = true then K (b ρ) m k else k (.bl false) m
  | _ => .bad
theorem K_vAnd (a b : SE) (ρ : Ev) (m : Mem) (k : D → Mem → Rs β) : K (vAnd a b ρ) m k = K (a ρ) m (kVAnd b ρ k) := by
  unfold vAnd
  rw [K_bind]
  congr 1
  funext x m1
  rw [K_bind]
  cases x <;> try rfl
  rename_i c
  cases c <;> rfl
theorem kVAnd_t (b : SE) (ρ : Ev) (k : D → Mem → Rs β) (m : Mem) : kVAnd b ρ k (.bl true) m = K (b ρ) m k := rfl
theorem kVAnd_f (b : SE) (ρ : Ev) (k : D → Mem → Rs β) (m : Mem) : kVAnd b ρ k (.bl false) m = k (.bl false) m := rfl
def kVOr (b : SE) (ρ : Ev) (k : D → Mem → Rs β) : D → Mem → Rs β := fun x m => match x with
  | .bl c => if c = true then k (.bl true) m else K (b ρ) m k
  | _ => .bad
theorem K_vOr (a b : SE) (ρ : Ev) (m : Mem) (k : D → Mem → Rs β) : K (vOr a b ρ) m k = K (a ρ) m (kVOr b ρ k) := by
  unfold vOr
  rw [K_bind]
  congr 1
  funext x m1
  rw [K_bind]
  cases x <;> try rfl
  rename_i c
  cases c <;> rfl
theorem kVOr_t (b : SE) (ρ : Ev) (k : D → Mem → Rs β) (m : Mem) : kVOr b ρ k (.bl true) m = k (.bl true) m := rfl
theorem kVOr_f (b : SE) (ρ : Ev) (k : D → Mem → Rs β) (m : Mem) : kVOr b ρ k (.bl false) m = K (b ρ) m k := rfl
def kVNot (k : D → Mem → Rs β) : D → Mem → Rs β := fun x m => match x with
  | .bl c => k (.bl (!c)) m
  | _ => .bad
theorem K_vNot (a : SE) (ρ : Ev) (m : Mem) (k : D → Mem → Rs β) : K (vNot a ρ) m k = K (a ρ) m (kVNot k) := by
  unfold vNot
  rw [K_bind]
  congr 1
  funext x m1
  rw [K_bind]
  cases x <;> rfl
theorem kVNot_at (k : D → Mem → Rs β) (c : Bool) (m : Mem) : kVNot k (.bl c) m = k (.bl (!c)) m := rfl
def kIfE (a b : SE) (ρ : Ev) (k : D → Mem → Rs β) : Bool → Mem → Rs β := fun c m => if c = true then K (a ρ) m k else K (b ρ) m k
theorem K_ifE (t : SB) (a b : SE) (ρ : Ev) (m : Mem) (k : D → Mem → Rs β) : K (ifE t a b ρ) m k = K (t ρ) m (kIfE a b ρ k) := by
  unfold ifE
  rw [K_bind]
  congr 1
  funext x m1
  cases x <;> rfl
theorem kIfE_t (a b : SE) (ρ : Ev) (k : D → Mem → Rs β) (m : Mem) : kIfE a b ρ k true m = K (a ρ) m k := rfl
theorem kIfE_f (a b : SE) (ρ : Ev) (k : D → Mem → Rs β) (m : Mem) : kIfE a b ρ k false m = K (b ρ) m k := rfl
def kChn2 (g' : O2) (c : SE) (ρ : Ev) (y : D) (k : D → Mem → Rs β) : D → Mem → Rs β := fun x m => match x with
  | .bl t => if t = true then K (c ρ) m (kOp2b g' y k) else k (.bl false) m
  | _ => .bad
def kChn1 (g g' : O2) (c : SE) (ρ : Ev) (x : D) (k : D → Mem → Rs β) : D → Mem → Rs β := fun y m => K2 g x y m (kChn2 g' c ρ y k)
def kChn0 (g g' : O2) (b c : SE) (ρ : Ev) (k : D → Mem → Rs β) : D → Mem → Rs β := fun x m => K (b ρ) m (kChn1 g g' c ρ x k)
theorem K_chn (g g' : O2) (a b c : SE) (ρ : Ev) (m : Mem) (k : D → Mem → Rs β) : K (chn g g' a b c ρ) m k = K (a ρ) m (kChn0 g g' b c ρ k) := by
  unfold chn
  rw [K_bind]
  congr 1
  funext x m1
  rw [K_bind]
  unfold kChn0
  congr 1
  funext y m2
  rw [K_bind]
  unfold kChn1 K2
  rw [show (fun m => lift (g x y m) m) = (fun m => (lift (g x y m) : M D) m) from rfl]
  cases h : g x y m2 with
  | none => unfold K lift; simp only [h]; rfl
  | some d =>
    rw [K_ok (x := d) (m1 := m2) (by show lift (g x y m2) m2 = _; rw [h]; rfl), K_bind]
    cases d <;> try rfl
    rename_i t
    cases t
    · rfl
    · show K (M.bind (c ρ) fun z => fun m => lift (g' y z m) m) m2 k = K (c ρ) m2 (kOp2b g' y k)
      rw [K_bind]
      congr 1
      funext z m3
      exact K_lift _ _ _
theorem kChn0_at (g g' : O2) (b c : SE) (ρ : Ev) (k : D → Mem → Rs β) (x : D) (m : Mem) : kChn0 g g' b c ρ k x m = K (b ρ) m (kChn1 g g' c ρ x k) := rfl
theorem kChn1_at (g g' : O2) (c : SE) (ρ : Ev) (x : D) (k : D → Mem → Rs β) (y : D) (m : Mem) : kChn1 g g' c ρ x k y m = K2 g x y m (kChn2 g' c ρ y k) := rfl
theorem kChn2_t (g' : O2) (c : SE) (ρ : Ev) (y : D) (k : D → Mem → Rs β) (m : Mem) : kChn2 g' c ρ y k (.bl true) m = K (c ρ) m (kOp2b g' y k) := rfl
theorem kChn2_f (g' : O2) (c : SE) (ρ : Ev) (y : D) (k : D → Mem → Rs β) (m : Mem) : kChn2 g' c ρ y k (.bl false) m = k (.bl false) m := rfl
/-! slices -/
def kSoS (k : Option Int → Mem → Rs β) : D → Mem → Rs β := fun d m => match d with
  | .int i => k (some i) m
  | _ => .bad
theorem K_soN (ρ : Ev) (m : Mem) (k : Option Int → Mem → Rs β) : K (soN ρ) m k = k none m := rfl
theorem K_soS (a : SE) (ρ : Ev) (m : Mem) (k : Option Int → Mem → Rs β) : K (soS a ρ) m k = K (a ρ) m (kSoS k) := by
  unfold soS
  rw [K_bind]
  congr 1
  funext x m1
  cases x <;> rfl
theorem kSoS_at (k : Option Int → Mem → Rs β) (i : Int) (m : Mem) : kSoS k (.int i) m = k (some i) m := rfl
def KSl (x : D) (l h : Option Int) (m : Mem) (k : D → Mem → Rs β) : Rs β := KO (gSl x l h m) m k
def kSlc2 (x : D) (l : Option Int) (k : D → Mem → Rs β) : Option Int → Mem → Rs β := fun h m => KSl x l h m k
def kSlc1 (x : D) (hi : SO) (ρ : Ev) (k : D → Mem → Rs β) : Option Int → Mem → Rs β := fun l m => K (hi ρ) m (kSlc2 x l k)
def kSlc0 (lo hi : SO) (ρ : Ev) (k : D → Mem → Rs β) : D → Mem → Rs β := fun x m => K (lo ρ) m (kSlc1 x hi ρ k)
theorem K_slc (a : SE) (lo hi : SO) (ρ : Ev) (m : Mem) (k : D → Mem → Rs β) : K (slc a lo hi ρ) m k = K (a ρ) m (kSlc0 lo hi ρ k) := by
  unfold slc
  rw [K_bind]
  congr 1
  funext x m1
  rw [K_bind]
  unfold kSlc0
  congr 1
  funext l m2
  rw [K_bind]
  unfold kSlc1
  congr 1
  funext h m3
  exact K_lift _ _ _
theorem kSlc0_at (lo hi : SO) (ρ : Ev) (k : D → Mem → Rs β) (x : D) (m : Mem) : kSlc0 lo hi ρ k x m = K (lo ρ) m (kSlc1 x hi ρ k) := rfl
theorem kSlc1_at (x : D) (hi : SO) (ρ : Ev) (k : D → Mem → Rs β) (l : Option Int) (m : Mem) : kSlc1 x hi ρ k l m = K (hi ρ) m (kSlc2 x l k) := rfl
theorem kSlc2_at (x : D) (l : Option Int) (k : D → Mem → Rs β) (h : Option Int) (m : Mem) : kSlc2 x l k h m = KSl x l h m k := rfl
theorem KSl_tup (xs : List D) (l h : Option Int) (m : Mem) (k : D → Mem → Rs β) : KSl (.tup xs) l h m k = k (.tup (cutD xs l h)) m := rfl
theorem KSl_lst (xs : List D) (l h : Option Int) (m : Mem) (k : D → Mem → Rs β) : KSl (.lst xs) l h m k = k (.lst (cutD xs l h)) m := rfl
/-! statements -/
abbrev KS (β : Type) := Fl × Ev → Mem → Rs β
theorem K_sNext (ρ : Ev) (m : Mem) (k : KS β) : K (sNext ρ) m k = k (.nx, ρ) m := rfl
def kSeq (b : SS) (k : KS β) : KS β := fun r m => match r with
  | (.nx, ρ1) => K (b ρ1) m k
  | r => k r m
theorem K_sSeq (a b : SS) (ρ : Ev) (m : Mem) (k : KS β) : K (sSeq a b ρ) m k = K (a ρ) m (kSeq b k) := by
  unfold sSeq
  rw [K_bind]
  congr 1
  funext x m1
  obtain ⟨fl, ρ1⟩ := x
  cases fl <;> rfl
theorem kSeq_nx (b : SS) (k : KS β) (ρ : Ev) (m : Mem) : kSeq b k (.nx, ρ) m = K (b ρ) m k := rfl
theorem kSeq_rt (b : SS) (k : KS β) (d : D) (ρ : Ev) (m : Mem) : kSeq b k (.rt d, ρ) m = k (.rt d, ρ) m := rfl
def kRet (ρ : Ev) (k : KS β) : D → Mem → Rs β := fun d m => k (.rt d, ρ) m
theorem K_sRet (a : SE) (ρ : Ev) (m : Mem) (k : KS β) : K (sRet a ρ) m k = K (a ρ) m (kRet ρ k) := by
  unfold sRet
  rw [K_bind]
  rfl
theorem kRet_at (ρ : Ev) (k : KS β) (d : D) (m : Mem) : kRet ρ k d m = k (.rt d, ρ) m := rfl
theorem K_sRetN (ρ : Ev) (m : Mem) (k : KS β) : K (sRetN ρ) m k = k (.rt .non, ρ) m := rfl
def kExp (ρ : Ev) (k : KS β) : D → Mem → Rs β := fun _ m => k (.nx, ρ) m
theorem K_sExp (a : SE) (ρ : Ev) (m : Mem) (k : KS β) : K (sExp a ρ) m k = K (a ρ) m (kExp ρ k) := by
  unfold sExp
  rw [K_bind]
  rfl
theorem kExp_at (ρ : Ev) (k : KS β) (d : D) (m : Mem) : kExp ρ k d m = k (.nx, ρ) m := rfl
def kIf (a b : SS) (ρ : Ev) (k : KS β) : Bool → Mem → Rs β := fun c m => if c = true then K (a ρ) m k else K (b ρ) m k
theorem K_sIf (t : SB) (a b : SS) (ρ : Ev) (m : Mem) (k : KS β) : K (sIf t a b ρ) m k = K (t ρ) m (kIf a b ρ k) := by
  unfold sIf
  rw [K_bind]
  congr 1
  funext x m1
  cases x <;> rfl
theorem kIf_t (a b : SS) (ρ : Ev) (k : KS β) (m : Mem) : kIf a b ρ k true m = K (a ρ) m k := rfl
theorem kIf_f (a b : SS) (ρ : Ev) (k : KS β) (m : Mem) : kIf a b ρ k false m = K (b ρ) m k := rfl
/-! assignments -/
def kUn (acc ρ : Ev) (m : Mem) (k : KS β) : Rs β := k (.nx, acc.reverse ++ ρ) m
def kSet (acc ρ : Ev) (i : Nat) (d : D) (m : Mem) (k : KS β) : Rs β := k (.nx, acc.reverse ++ ρ.set i (some d)) m
theorem kSet_0 (acc ρ : Ev) (x : Option D) (d : D) (m : Mem) (k : KS β) : kSet acc (x :: ρ) 0 d m k = kUn acc (some d :: ρ) m k := rfl
theorem kSet_s (acc ρ : Ev) (x : Option D) (i : Nat) (d : D) (m : Mem) (k : KS β) : kSet acc (x :: ρ) (i + 1) d m k = kSet (x :: acc) ρ i d m k := by
  unfold kSet
  rw [List.set_cons_succ, List.reverse_cons, List.append_assoc]
  rfl
theorem kUn_c (x : Option D) (acc ρ : Ev) (m : Mem) (k : KS β) : kUn (x :: acc) ρ m k = kUn acc (x :: ρ) m k := by
  unfold kUn
  rw [List.reverse_cons, List.append_assoc]
  rfl
theorem kUn_n (ρ : Ev) (m : Mem) (k : KS β) : kUn [] ρ m k = k (.nx, ρ) m := rfl
def kAsg (g : SG) (ρ : Ev) (k : KS β) : D → Mem → Rs β := fun d m => match g d ρ with
  | some ρ1 => k (.nx, ρ1) m
  | none => .bad
theorem K_sAsg (a : SE) (g : SG) (ρ : Ev) (m : Mem) (k : KS β) : K (sAsg a g ρ) m k = K (a ρ) m (kAsg g ρ k) := by
  unfold sAsg
  rw [K_bind]
  congr 1
  funext x m1
  unfold kAsg
  cases h : g x ρ with
  | none => rfl
  | some r => rfl
theorem kAsg_nm (i : Nat) (ρ : Ev) (k : KS β) (d : D) (m : Mem) : kAsg (gNm i) ρ k d m = kSet [] ρ i d m k := rfl
/-- several names -/
def kNms (is : List Nat) (ds : List D) (ρ : Ev) (m : Mem) (k : KS β) : Rs β := match gNms is ds ρ with
  | some ρ1 => k (.nx, ρ1) m
  | none => .bad
def kNmsC (is : List Nat) (ds : List D) (k : KS β) : KS β := fun r m => kNms is ds r.2 m k
theorem kAsg_tp (is : List Nat) (ρ : Ev) (k : KS β) (ds : List D) (m : Mem) : kAsg (gTp is) ρ k (.tup ds) m = kNms is ds ρ m k := rfl
theorem kNms_c (i : Nat) (is : List Nat) (d : D) (ds : List D) (ρ : Ev) (m : Mem) (k : KS β) : kNms (i :: is) (d :: ds) ρ m k = kSet [] ρ i d m (kNmsC is ds k) := rfl
theorem kNmsC_at (is : List Nat) (ds : List D) (k : KS β) (ρ : Ev) (m : Mem) : kNmsC is ds k (.nx, ρ) m = kNms is ds ρ m k := rfl
theorem kNms_n (ρ : Ev) (m : Mem) (k : KS β) : kNms [] [] ρ m k = k (.nx, ρ) m := rfl
def kPar2 (i j : Nat) (x : D) (ρ : Ev) (k : KS β) : D → Mem → Rs β := fun y m => kNms [i, j] [x, y] ρ m k
def kPar1 (i j : Nat) (b : SE) (ρ : Ev) (k : KS β) : D → Mem → Rs β := fun x m => K (b ρ) m (kPar2 i j x ρ k)
theorem K_sPar (i j : Nat) (a b : SE) (ρ : Ev) (m : Mem) (k : KS β) : K (sPar i j a b ρ) m k = K (a ρ) m (kPar1 i j b ρ k) := by
  unfold sPar
  rw [K_bind]
  congr 1
  funext x m1
  rw [K_bind]
  rfl
theorem kPar1_at (i j : Nat) (b : SE) (ρ : Ev) (k : KS β) (x : D) (m : Mem) : kPar1 i j b ρ k x m = K (b ρ) m (kPar2 i j x ρ k) := rfl
theorem kPar2_at (i j : Nat) (x : D) (ρ : Ev) (k : KS β) (y : D) (m : Mem) : kPar2 i j x ρ k y m = kNms [i, j] [x, y] ρ m k := rfl
/-! a def's run -/
def kRun (k : D → Mem → Rs β) : KS β := fun r m => match r with
  | (.rt d, _) => k d m
  | (.nx, _) => k .non m
  | _ => .bad
theorem K_run (n : Nat) (f : SS) (ds : List D) (m : Mem) (k : D → Mem → Rs β) : K (run n f ds) m k = K (f (start n ds)) m (kRun k) := by
  unfold run
  rw [K_bind]
  congr 1
  funext x m1
  obtain ⟨fl, ρ1⟩ := x
  cases fl <;> rfl
theorem kRun_rt (k : D → Mem → Rs β) (d : D) (ρ : Ev) (m : Mem) : kRun k (.rt d, ρ) m = k d m := rfl
theorem kRun_nx (k : D → Mem → Rs β) (ρ : Ev) (m : Mem) : kRun k (.nx, ρ) m = k .non m := rfl
theorem start0 (n : Nat) (ds : List D) : start n ds = ds.map some ++ List.replicate (n - ds.length) none := rfl
end
end LB

set_option Elab.async false
set_option linter.all false
set_option autoImplicit false
set_option maxRecDepth 100000
set_option maxHeartbeats 1000000
/-! Pure: operations, the store, at the head. -/
namespace LB
open PySem
section
variable {α β γ : Type}
/-! numbers -/
theorem K2_add_i (i j : Int) (m : Mem) (k : D → Mem → Rs β) : K2 gAdd (.int i) (.int j) m k = k (.int (i + j)) m := rfl
theorem K2_sub_i (i j : Int) (m : Mem) (k : D → Mem → Rs β) : K2 gSub (.int i) (.int j) m k = k (.int (i - j)) m := rfl
theorem K2_mul_i (i j : Int) (m : Mem) (k : D → Mem → Rs β) (h : (small64 i || small64 j) = true) : K2 gMul (.int i) (.int j) m k = k (.int (i * j)) m := by
  refine KO_of ?_ m k
  exact if_pos h
theorem K2_mod_i (i j : Int) (m : Mem) (k : D → Mem → Rs β) (h : 0 < j) : K2 gMod (.int i) (.int j) m k = k (.int (i % j)) m := by
  refine KO_of ?_ m k
  show (if decide (j ≠ 0) = true then some (D.int (i.fmod j)) else none) = _
  rw [if_pos (decide_eq_true (by omega)), Int.fmod_eq_emod_of_nonneg _ (by omega)]
theorem K2_fdiv_i (i j : Int) (m : Mem) (k : D → Mem → Rs β) (h : 0 < j) (h2 : j < 1073741824) : K2 gFdiv (.int i) (.int j) m k = k (.int (i / j)) m := by
  refine KO_of ?_ m k
  show (if (decide (j ≠ 0) && decide (j.natAbs < 1073741824)) = true then some (D.int (i.fdiv j)) else none) = _
  have h3 : j.natAbs < 1073741824 := by omega
  rw [if_pos (by rw [decide_eq_true (by omega), decide_eq_true h3]; rfl), Int.fdiv_eq_ediv_of_nonneg _ (by omega)]
theorem K2_lt_i (i j : Int) (m : Mem) (k : D → Mem → Rs β) : K2 gLt (.int i) (.int j) m k = k (.bl (decide (i < j))) m := rfl
theorem K2_le_i (i j : Int) (m : Mem) (k : D → Mem → Rs β) : K2 gLe (.int i) (.int j) m k = k (.bl (decide (i ≤ j))) m := rfl
theorem K2_gt_i (i j : Int) (m : Mem) (k : D → Mem → Rs β) : K2 gGt (.int i) (.int j) m k = k (.bl (decide (j < i))) m := rfl
theorem K2_ge_i (i j : Int) (m : Mem) (k : D → Mem → Rs β) : K2 gGe (.int i) (.int j) m k = k (.bl (decide (j ≤ i))) m := rfl
theorem K2_eq_i (i j : Int) (m : Mem) (k : D → Mem → Rs β) : K2 gEq (.int i) (.int j) m k = k (.bl (decide (i = j))) m := rfl
theorem K2_ne_i (i j : Int) (m : Mem) (k : D → Mem → Rs β) : K2 gNe (.int i) (.int j) m k = k (.bl (!decide (i = j))) m := rfl
theorem K2_eq_st (i : Str) (m : Mem) (k : D → Mem → Rs β) : K2 gEq (.str i) (.str i) m k = k (.bl true) m := KO_of (by show some (D.bl (decide (i = i))) = _; rw [decide_eq_true rfl]) m k
theorem K2_eq_sf (i j : Str) (m : Mem) (k : D → Mem → Rs β) (h : decide (i = j) = false) : K2 gEq (.str i) (.str j) m k = k (.bl false) m := KO_of (by show some (D.bl (decide (i = j))) = _; rw [h]) m k
theorem K2_ne_st (i : Str) (m : Mem) (k : D → Mem → Rs β) : K2 gNe (.str i) (.str i) m k = k (.bl false) m := KO_of (by show some (D.bl (!decide (i = i))) = _; rw [decide_eq_true rfl]; rfl) m k
theorem K2_ne_sf (i j : Str) (m : Mem) (k : D → Mem → Rs β) (h : decide (i = j) = false) : K2 gNe (.str i) (.str j) m k = k (.bl true) m := KO_of (by show some (D.bl (!decide (i = j))) = _; rw [h]; rfl) m k
theorem K2_eq_b (i j : Bool) (m : Mem) (k : D → Mem → Rs β) : K2 gEq (.bl i) (.bl j) m k = k (.bl (decide (i = j))) m := rfl
theorem K2_add_t (xs ys : List D) (m : Mem) (k : D → Mem → Rs β) (h : xs.length + ys.length ≤ sizeLine) : K2 gAdd (.tup xs) (.tup ys) m k = k (.tup (xs ++ ys)) m := KO_of (if_pos h) m k
theorem K2_add_l (xs ys : List D) (m : Mem) (k : D → Mem → Rs β) (h : xs.length + ys.length ≤ sizeLine) : K2 gAdd (.lst xs) (.lst ys) m k = k (.lst (xs ++ ys)) m := KO_of (if_pos h) m k
theorem K1_neg_i (i : Int) (m : Mem) (k : D → Mem → Rs β) : K1 gNeg (.int i) m k = k (.int (-i)) m := rfl
theorem K2_isN_n (m : Mem) (k : D → Mem → Rs β) : K2 gIsN .non .non m k = k (.bl true) m := rfl
theorem K2_isN_i (i : Int) (m : Mem) (k : D → Mem → Rs β) : K2 gIsN (.int i) .non m k = k (.bl false) m := rfl
theorem K2_isN_s (i : Str) (m : Mem) (k : D → Mem → Rs β) : K2 gIsN (.str i) .non m k = k (.bl false) m := rfl
theorem K2_isN_t (i : List D) (m : Mem) (k : D → Mem → Rs β) : K2 gIsN (.tup i) .non m k = k (.bl false) m := rfl
theorem K2_isN_l (i : List D) (m : Mem) (k : D → Mem → Rs β) : K2 gIsN (.lst i) .non m k = k (.bl false) m := rfl
theorem K2_isN_c (i : Nat) (m : Mem) (k : D → Mem → Rs β) : K2 gIsN (.loc i) .non m k = k (.bl false) m := rfl
theorem K2_notN_n (m : Mem) (k : D → Mem → Rs β) : K2 gNotN .non .non m k = k (.bl false) m := rfl
theorem K2_notN_i (i : Int) (m : Mem) (k : D → Mem → Rs β) : K2 gNotN (.int i) .non m k = k (.bl true) m := rfl
theorem K2_notN_s (i : Str) (m : Mem) (k : D → Mem → Rs β) : K2 gNotN (.str i) .non m k = k (.bl true) m := rfl
theorem K2_notN_t (i : List D) (m : Mem) (k : D → Mem → Rs β) : K2 gNotN (.tup i) .non m k = k (.bl true) m := rfl
theorem K2_notN_l (i : List D) (m : Mem) (k : D → Mem → Rs β) : K2 gNotN (.lst i) .non m k = k (.bl true) m := rfl
theorem K2_notN_c (i : Nat) (m : Mem) (k : D → Mem → Rs β) : K2 gNotN (.loc i) .non m k = k (.bl true) m := rfl
/-! places in tuples and lists -/
def KIx (xs : List D) (i : Int) (m : Mem) (k : D → Mem → Rs β) : Rs β := KO (atD xs i) m k
theorem K2_ix_t (xs : List D) (i : Int) (m : Mem) (k : D → Mem → Rs β) : K2 gIx (.tup xs) (.int i) m k = KIx xs i m k := rfl
theorem K2_ix_l (xs : List D) (i : Int) (m : Mem) (k : D → Mem → Rs β) : K2 gIx (.lst xs) (.int i) m k = KIx xs i m k := rfl
theorem KIx_0 (x : D) (r : List D) (m : Mem) (k : D → Mem → Rs β) : KIx (x :: r) 0 m k = k x m := by
  refine KO_of ?_ m k
  show (ixD (r.length + 1) 0).bind (fun j => (x :: r)[j]?) = _
  unfold ixD
  rw [if_pos (Int.le_refl 0), if_pos (by omega)]
  rfl
theorem KIx_1 (x y : D) (r : List D) (m : Mem) (k : D → Mem → Rs β) : KIx (x :: y :: r) 1 m k = k y m := by
  refine KO_of ?_ m k
  show (ixD (r.length + 1 + 1) 1).bind (fun j => (x :: y :: r)[j]?) = _
  unfold ixD
  rw [if_pos (by decide), if_pos (by omega)]
  rfl
theorem KIx_2 (x y z : D) (r : List D) (m : Mem) (k : D → Mem → Rs β) : KIx (x :: y :: z :: r) 2 m k = k z m := by
  refine KO_of ?_ m k
  show (ixD (r.length + 1 + 1 + 1) 2).bind (fun j => (x :: y :: z :: r)[j]?) = _
  unfold ixD
  rw [if_pos (by decide), if_pos (by omega)]
  rfl
theorem KIx_3 (x y z u : D) (r : List D) (m : Mem) (k : D → Mem → Rs β) : KIx (x :: y :: z :: u :: r) 3 m k = k u m := by
  refine KO_of ?_ m k
  show (ixD (r.length + 1 + 1 + 1 + 1) 3).bind (fun j => (x :: y :: z :: u :: r)[j]?) = _
  unfold ixD
  rw [if_pos (by decide), if_pos (by omega)]
  rfl
theorem KIx_4 (x y z u v : D) (r : List D) (m : Mem) (k : D → Mem → Rs β) : KIx (x :: y :: z :: u :: v :: r) 4 m k = k v m := by
  refine KO_of ?_ m k
  show (ixD (r.length + 1 + 1 + 1 + 1 + 1) 4).bind (fun j => (x :: y :: z :: u :: v :: r)[j]?) = _
  unfold ixD
  rw [if_pos (by decide), if_pos (by omega)]
  rfl
theorem KIx_m1a (x : D) (m : Mem) (k : D → Mem → Rs β) : KIx [x] (-1) m k = k x m := rfl
theorem KIx_m1b (x y : D) (m : Mem) (k : D → Mem → Rs β) : KIx [x, y] (-1) m k = k y m := rfl
theorem KIx_m1c (x y z : D) (m : Mem) (k : D → Mem → Rs β) : KIx [x, y, z] (-1) m k = k z m := rfl
theorem KIx_m1d (x y z u : D) (m : Mem) (k : D → Mem → Rs β) : KIx [x, y, z, u] (-1) m k = k u m := rfl
/-! built-ins -/
theorem KN_len_t (xs : List D) (m : Mem) (k : D → Mem → Rs β) : KN gLen [.tup xs] m k = k (.int xs.length) m := rfl
theorem KN_len_l (xs : List D) (m : Mem) (k : D → Mem → Rs β) : KN gLen [.lst xs] m k = k (.int xs.length) m := rfl
theorem KN_max2 (i j : Int) (m : Mem) (k : D → Mem → Rs β) : KN gMax2 [.int i, .int j] m k = k (.int (max i j)) m := by
  refine KO_of ?_ m k
  show some (D.int (if j > i then j else i)) = _
  congr 2
  rw [Int.max_def]
  split <;> split <;> omega
theorem KN_min2 (i j : Int) (m : Mem) (k : D → Mem → Rs β) : KN gMin2 [.int i, .int j] m k = k (.int (min i j)) m := by
  refine KO_of ?_ m k
  show some (D.int (if j < i then j else i)) = _
  congr 2
  rw [Int.min_def]
  split <;> split <;> omega
theorem KN_int_i (i : Int) (m : Mem) (k : D → Mem → Rs β) : KN gInt [.int i] m k = k (.int i) m := rfl
theorem KN_int_t (m : Mem) (k : D → Mem → Rs β) : KN gInt [.bl true] m k = k (.int 1) m := rfl
theorem KN_int_f (m : Mem) (k : D → Mem → Rs β) : KN gInt [.bl false] m k = k (.int 0) m := rfl
theorem KN_tuple_l (xs : List D) (m : Mem) (k : D → Mem → Rs β) : KN gTuple [.lst xs] m k = k (.tup xs) m := rfl
theorem KN_tuple_t (xs : List D) (m : Mem) (k : D → Mem → Rs β) : KN gTuple [.tup xs] m k = k (.tup xs) m := rfl
theorem KN_maxl (ns : List Int) (m : Mem) (k : D → Mem → Rs β) : KN gMax [.lst (ns.map D.int)] m k = KO ((maxL ns).map D.int) m k := by
  unfold KN
  congr 1
  show (intsOf (ns.map D.int)).bind (fun ns => (maxL ns).map D.int) = _
  rw [intsOf_map]
  rfl
theorem KN_suml (ns : List Int) (m : Mem) (k : D → Mem → Rs β) : KN gSum [.lst (ns.map D.int)] m k = k (.int ns.sum) m := by
  refine KO_of ?_ m k
  show (intsOf (ns.map D.int)).map (fun ns => D.int ns.sum) = _
  rw [intsOf_map]
  rfl
theorem K1_isi_n (T : String) (m : Mem) (k : D → Mem → Rs β) : K1 (gIsi T) .non m k = k (.bl false) m := rfl
theorem K1_isi_b (T : String) (b : Bool) (m : Mem) (k : D → Mem → Rs β) : K1 (gIsi T) (.bl b) m k = k (.bl (T == "bool" || T == "int")) m := rfl
theorem K1_isi_i (T : String) (i : Int) (m : Mem) (k : D → Mem → Rs β) : K1 (gIsi T) (.int i) m k = k (.bl (T == "int")) m := rfl
theorem K1_isi_s (T : String) (i : Str) (m : Mem) (k : D → Mem → Rs β) : K1 (gIsi T) (.str i) m k = k (.bl (T == "str")) m := rfl
theorem K1_isi_t (T : String) (i : List D) (m : Mem) (k : D → Mem → Rs β) : K1 (gIsi T) (.tup i) m k = k (.bl (T == "tuple")) m := rfl
theorem K1_isi_l (T : String) (i : List D) (m : Mem) (k : D → Mem → Rs β) : K1 (gIsi T) (.lst i) m k = k (.bl (T == "list")) m := rfl
/-! the store -/
theorem Mem.put_n (m : Mem) (c : Nat) (o : MO) : (m.put c o).n = m.n := rfl
theorem Mem.new_n (m : Mem) (o : MO) : (m.new o).n = m.n + 1 := rfl
theorem Mem.kill_n (m : Mem) (c : Nat) : (m.kill c).n = m.n := rfl
/-- what stands at c in mm, m going on -/
def KG (c : Nat) (mm : Mem) (m : Mem) (k : MO → Mem → Rs β) : Rs β := if c < m.n then KO (mm.get c) m k else .bad
theorem KG_of {c : Nat} {mm : Mem} {o : MO} (h : mm.get c = some o) (m : Mem) (k : MO → Mem → Rs β) (hn : c < m.n) : KG c mm m k = k o m := by
  unfold KG
  rw [if_pos hn, h]
  rfl
theorem KG_put_eq (c : Nat) (mm : Mem) (o : MO) (m : Mem) (k : MO → Mem → Rs β) (hn : c < m.n) : KG c (mm.put c o) m k = k o m := KG_of (if_pos rfl) m k hn
theorem KG_put_ne (c j : Nat) (mm : Mem) (o : MO) (m : Mem) (k : MO → Mem → Rs β) (h : c ≠ j) : KG c (mm.put j o) m k = KG c mm m k := by
  unfold KG
  rw [show (mm.put j o).get c = mm.get c from if_neg h]
theorem KG_new_eq (mm : Mem) (o : MO) (m : Mem) (k : MO → Mem → Rs β) (hn : mm.n < m.n) : KG mm.n (mm.new o) m k = k o m := KG_of (if_pos rfl) m k hn
theorem KG_new_ne (c : Nat) (mm : Mem) (o : MO) (m : Mem) (k : MO → Mem → Rs β) (h : c ≠ mm.n) : KG c (mm.new o) m k = KG c mm m k := by
  unfold KG
  rw [show (mm.new o).get c = mm.get c from if_neg h]
theorem KG_kill_ne (c j : Nat) (mm : Mem) (m : Mem) (k : MO → Mem → Rs β) (h : c ≠ j) : KG c (mm.kill j) m k = KG c mm m k := by
  unfold KG
  rw [show (mm.kill j).get c = mm.get c from if_neg h]
def kIxL (i : Int) (k : D → Mem → Rs β) : MO → Mem → Rs β := fun o m => match o with
  | .lst xs => KIx xs i m k
  | _ => .bad
theorem lst_KG {α : Type} (c : Nat) (m : Mem) (f : List D → Option α) (k : α → Mem → Rs β) : KO ((lstOf m (.loc c)).bind f) m k = KG c m m (fun o m => match o with
  | .lst xs => KO (f xs) m k
  | _ => .bad) := by
  unfold KG
  show KO ((if c < m.n then (match m.get c with
    | some (.lst xs) => some xs
    | _ => none) else none).bind f) m k = _
  by_cases h : c < m.n
  · rw [if_pos h, if_pos h]
    cases hg : m.get c with
    | none => rfl
    | some o => cases o <;> rfl
  · rw [if_neg h, if_neg h]
    rfl
theorem K2_ix_c (c : Nat) (i : Int) (m : Mem) (k : D → Mem → Rs β) : K2 gIx (.loc c) (.int i) m k = KG c m m (kIxL i k) := lst_KG c m (fun xs => atD xs i) k
theorem kIxL_at (i : Int) (k : D → Mem → Rs β) (xs : List D) (m : Mem) : kIxL i k (.lst xs) m = KIx xs i m k := rfl
def kLenL (k : D → Mem → Rs β) : MO → Mem → Rs β := fun o m => match o with
  | .lst xs => k (.int xs.length) m
  | .dct kvs => k (.int kvs.length) m
  | _ => .bad
theorem KN_len_c (c : Nat) (m : Mem) (k : D → Mem → Rs β) : KN gLen [.loc c] m k = KG c m m (kLenL k) := by
  unfold KG
  show KO (if c < m.n then (match m.get c with
    | some (.lst xs) => some (.int xs.length)
    | some (.dct kvs) => some (.int kvs.length)
    | _ => none) else none) m k = _
  by_cases h : c < m.n
  · rw [if_pos h, if_pos h]
    cases hg : m.get c with
    | none => rfl
    | some o => cases o <;> rfl
  · rw [if_neg h, if_neg h]
    rfl
theorem kLenL_l (k : D → Mem → Rs β) (xs : List D) (m : Mem) : kLenL k (.lst xs) m = k (.int xs.length) m := rfl
theorem kLenL_d (k : D → Mem → Rs β) (xs : List (KeyS × D)) (m : Mem) : kLenL k (.dct xs) m = k (.int xs.length) m := rfl
def kTupL (k : D → Mem → Rs β) : MO → Mem → Rs β := fun o m => match o with
  | .lst xs => k (.tup xs) m
  | _ => .bad
theorem KN_tuple_c (c : Nat) (m : Mem) (k : D → Mem → Rs β) : KN gTuple [.loc c] m k = KG c m m (kTupL k) := by
  have h := lst_KG c m (fun xs => some (D.tup xs)) k
  unfold KN
  rw [show gTuple [.loc c] m = ((lstOf m (.loc c)).bind fun xs => some (D.tup xs)) from by show (lstOf m (.loc c)).map D.tup = _; cases lstOf m (.loc c) <;> rfl, h]
  rfl
theorem kTupL_at (k : D → Mem → Rs β) (xs : List D) (m : Mem) : kTupL k (.lst xs) m = k (.tup xs) m := rfl
def kMaxL (k : D → Mem → Rs β) : MO → Mem → Rs β := fun o m => match o with
  | .lst xs => KN gMax [.lst xs] m k
  | _ => .bad
theorem KN_max_c (c : Nat) (m : Mem) (k : D → Mem → Rs β) : KN gMax [.loc c] m k = KG c m m (kMaxL k) := lst_KG c m (fun xs => (intsOf xs).bind fun ns => (maxL ns).map D.int) k
theorem kMaxL_at (k : D → Mem → Rs β) (xs : List D) (m : Mem) : kMaxL k (.lst xs) m = KN gMax [.lst xs] m k := rfl
def kSlL (l h : Option Int) (k : D → Mem → Rs β) : MO → Mem → Rs β := fun o m => match o with
  | .lst xs => k (.lst (cutD xs l h)) m
  | _ => .bad
theorem KSl_c (c : Nat) (l h : Option Int) (m : Mem) (k : D → Mem → Rs β) : KSl (.loc c) l h m k = KG c m m (kSlL l h k) := by
  have z := lst_KG c m (fun xs => some (D.lst (cutD xs l h))) k
  unfold KSl
  rw [show gSl (.loc c) l h m = ((lstOf m (.loc c)).bind fun xs => some (D.lst (cutD xs l h))) from by show (lstOf m (.loc c)).map _ = _; cases lstOf m (.loc c) <;> rfl, z]
  rfl
theorem kSlL_at (l h : Option Int) (k : D → Mem → Rs β) (xs : List D) (m : Mem) : kSlL l h k (.lst xs) m = k (.lst (cutD xs l h)) m := rfl
/-! lists that change -/
def kApp3 (c : Nat) (d : D) (k : D → Mem → Rs β) : MO → Mem → Rs β := fun o m => match o with
  | .lst xs => if xs.length < sizeLine then k .non (m.put c (.lst (xs ++ [d]))) else .bad
  | _ => .bad
def kApp2 (l : D) (k : D → Mem → Rs β) : D → Mem → Rs β := fun d m => match l with
  | .loc c => KG c m m (kApp3 c d k)
  | _ => .bad
def kApp1b (c : Nat) (e : SE) (ρ : Ev) (k : D → Mem → Rs β) : MO → Mem → Rs β := fun o m => match o with
  | .lst _ => K (e ρ) m (kApp2 (.loc c) k)
  | _ => .bad
def kApp1 (e : SE) (ρ : Ev) (k : D → Mem → Rs β) : D → Mem → Rs β := fun l m => match l with
  | .loc c => KG c m m (kApp1b c e ρ k)
  | ld => K (M.bind (chkL ld) fun _ => M.bind (e ρ) fun ed => M.bind (updL ld fun xs => if xs.length < sizeLine then some (xs ++ [ed]) else none) fun _ => M.pure .non) m k
theorem K_updL (c : Nat) (f : List D → Option (List D)) (m : Mem) (k : Unit → Mem → Rs β) : K (updL (.loc c) f) m k = KG c m m (fun o m => match o with
  | .lst xs => (match f xs with
    | some ys => k () (m.put c (.lst ys))
    | none => .bad)
  | _ => .bad) := by
  unfold KG
  by_cases h : c < m.n
  · rw [if_pos h]
    cases hg : m.get c with
    | none => exact K_bad (by unfold updL; simp only [h, if_true, hg]) _
    | some o =>
      cases o with
      | lst xs =>
        rw [KO_some]
        cases hf : f xs with
        | none => 
          rw [K_bad (by unfold updL; simp only [h, if_true, hg, hf]) _]
          simp only [hf]
        | some ys =>
          rw [K_ok (x := ()) (m1 := m.put c (.lst ys)) (by unfold updL; simp only [h, if_true, hg, hf]) _]
          simp only [hf]
      | dct _ => exact K_bad (by unfold updL; simp only [h, if_true, hg]) _
      | obj _ _ => exact K_bad (by unfold updL; simp only [h, if_true, hg]) _
      | dcn _ => exact K_bad (by unfold updL; simp only [h, if_true, hg]) _
  · rw [if_neg h]
    exact K_bad (by unfold updL; simp only [h, if_false]) _
theorem KG_congr {c : Nat} {mm m : Mem} {k k' : MO → Mem → Rs β} (h : ∀ o, k o m = k' o m) : KG c mm m k = KG c mm m k' := by
  unfold KG
  by_cases hn : c < m.n
  · rw [if_pos hn, if_pos hn]
    cases mm.get c with
    | none => rfl
    | some o => exact h o
  · rw [if_neg hn, if_neg hn]
theorem K_appE (l e : SE) (ρ : Ev) (m : Mem) (k : D → Mem → Rs β) : K (appE l e ρ) m k = K (l ρ) m (kApp1 e ρ k) := by
  unfold appE
  rw [K_bind]
  congr 1
  funext x m1
  rw [K_bind]
  cases x with
  | loc c =>
    show _ = KG c m1 m1 (kApp1b c e ρ k)
    have h1 : ∀ kk : Unit → Mem → Rs β, K (chkL (.loc c)) m1 kk = KO ((lstOf m1 (.loc c)).bind fun _ => some ()) m1 kk := by
      intro kk
      cases hl : lstOf m1 (.loc c) with
      | none => exact K_bad (by unfold chkL; rw [hl]; rfl) _
      | some xs => exact K_ok (by unfold chkL; rw [hl]; rfl) _
    rw [h1, lst_KG]
    refine KG_congr fun o => ?_
    cases o with
    | dct _ => rfl
    | obj _ _ => rfl
    | dcn _ => rfl
    | lst xs =>
      show K (M.bind (e ρ) fun ed => M.bind (updL (.loc c) fun xs => if xs.length < sizeLine then some (xs ++ [ed]) else none) fun _ => M.pure .non) m1 k = K (e ρ) m1 (kApp2 (.loc c) k)
      rw [K_bind]
      congr 1
      funext d m2
      rw [K_bind, K_updL]
      refine KG_congr fun o => ?_
      cases o with
      | dct _ => rfl
      | obj _ _ => rfl
      | dcn _ => rfl
      | lst ys =>
        unfold kApp3
        by_cases hl : ys.length < sizeLine
        · simp only [hl, if_true]
          rfl
        · simp only [hl, if_false]
  | _ => rfl
theorem kApp1_at (e : SE) (ρ : Ev) (k : D → Mem → Rs β) (c : Nat) (m : Mem) : kApp1 e ρ k (.loc c) m = KG c m m (kApp1b c e ρ k) := rfl
theorem kApp1b_at (c : Nat) (e : SE) (ρ : Ev) (k : D → Mem → Rs β) (xs : List D) (m : Mem) : kApp1b c e ρ k (.lst xs) m = K (e ρ) m (kApp2 (.loc c) k) := rfl
theorem kApp2_at (c : Nat) (k : D → Mem → Rs β) (d : D) (m : Mem) : kApp2 (.loc c) k d m = KG c m m (kApp3 c d k) := rfl
theorem kApp3_at (c : Nat) (d : D) (k : D → Mem → Rs β) (xs : List D) (m : Mem) (h : xs.length < sizeLine) : kApp3 c d k (.lst xs) m = k .non (m.put c (.lst (xs ++ [d]))) := if_pos h
/-! xs[i] = e -/
def kPut4 (c : Nat) (i : Int) (d : D) (ρ : Ev) (k : KS β) : MO → Mem → Rs β := fun o m => match o with
  | .lst xs => KO (ixD xs.length i) m fun j m => k (.nx, ρ) (m.put c (.lst (xs.set j d)))
  | _ => .bad
def kPut3 (d : D) (l : D) (ρ : Ev) (k : KS β) : D → Mem → Rs β := fun i m => match l, i with
  | .loc c, .int i => KG c m m (kPut4 c i d ρ k)
  | l, i => K (M.bind (lputK l i d) fun _ => M.pure (.nx, ρ)) m k
def kPut2 (i : SE) (d : D) (ρ : Ev) (k : KS β) : D → Mem → Rs β := fun l m => K (i ρ) m (kPut3 d l ρ k)
def kPut1 (l i : SE) (ρ : Ev) (k : KS β) : D → Mem → Rs β := fun d m => K (l ρ) m (kPut2 i d ρ k)
theorem K_sLput (l i e : SE) (ρ : Ev) (m : Mem) (k : KS β) : K (sLput l i e ρ) m k = K (e ρ) m (kPut1 l i ρ k) := by
  unfold sLput
  rw [K_bind]
  congr 1
  funext d m1
  rw [K_bind]
  unfold kPut1
  congr 1
  funext x m2
  rw [K_bind]
  unfold kPut2
  congr 1
  funext y m3
  unfold kPut3
  split
  · rename_i c v
    rw [K_bind]
    show K (updL (.loc c) fun xs => (ixD xs.length v).map fun j => xs.set j d) m3 _ = _
    rw [K_updL]
    refine KG_congr fun o => ?_
    cases o with
    | dct _ => rfl
    | obj _ _ => rfl
    | dcn _ => rfl
    | lst xs =>
      unfold kPut4
      show (match (ixD xs.length v).map fun j => xs.set j d with
        | some ys => _
        | none => _) = KO (ixD xs.length v) m3 _
      cases ixD xs.length v <;> rfl
  · rfl
theorem kPut1_at (l i : SE) (ρ : Ev) (k : KS β) (d : D) (m : Mem) : kPut1 l i ρ k d m = K (l ρ) m (kPut2 i d ρ k) := rfl
theorem kPut2_at (i : SE) (d : D) (ρ : Ev) (k : KS β) (l : D) (m : Mem) : kPut2 i d ρ k l m = K (i ρ) m (kPut3 d l ρ k) := rfl
theorem kPut3_at (d : D) (c : Nat) (ρ : Ev) (k : KS β) (i : Int) (m : Mem) : kPut3 d (.loc c) ρ k (.int i) m = KG c m m (kPut4 c i d ρ k) := rfl
theorem kPut4_at (c : Nat) (i : Int) (d : D) (ρ : Ev) (k : KS β) (xs : List D) (m : Mem) (h0 : 0 ≤ i) (h1 : i < xs.length) : kPut4 c i d ρ k (.lst xs) m = k (.nx, ρ) (m.put c (.lst (xs.set i.toNat d))) := by
  have e : ixD xs.length i = some i.toNat := by
    unfold ixD
    rw [if_pos h0, if_pos h1]
  unfold kPut4
  simp only [e]
  rfl
/-! dicts -/
def kDgD (x : KeyS) (k : D → Mem → Rs β) : MO → Mem → Rs β := fun o m => match o with
  | .dct kvs => KO (valK kvs x) m k
  | _ => .bad
theorem dct_KG {α : Type} (c : Nat) (m : Mem) (f : List (KeyS × D) → Option α) (k : α → Mem → Rs β) : KO ((dctOf m (.loc c)).bind f) m k = KG c m m (fun o m => match o with
  | .dct xs => KO (f xs) m k
  | _ => .bad) := by
  unfold KG
  show KO ((if c < m.n then (match m.get c with
    | some (.dct xs) => some xs
    | _ => none) else none).bind f) m k = _
  by_cases h : c < m.n
  · rw [if_pos h, if_pos h]
    cases hg : m.get c with
    | none => rfl
    | some o => cases o <;> rfl
  · rw [if_neg h, if_neg h]
    rfl
theorem K2_dget_i (c : Nat) (i : Int) (m : Mem) (k : D → Mem → Rs β) : K2 gDget (.loc c) (.int i) m k = KG c m m (kDgD (.inl i) k) := dct_KG c m (fun kvs => valK kvs (.inl i)) k
theorem K2_dget_s (c : Nat) (i : Str) (m : Mem) (k : D → Mem → Rs β) : K2 gDget (.loc c) (.str i) m k = KG c m m (kDgD (.inr i) k) := dct_KG c m (fun kvs => valK kvs (.inr i)) k
def KVk (kvs : List (KeyS × D)) (x : KeyS) (m : Mem) (k : D → Mem → Rs β) : Rs β := KO (valK kvs x) m k
theorem kDgD_at (x : KeyS) (k : D → Mem → Rs β) (kvs : List (KeyS × D)) (m : Mem) : kDgD x k (.dct kvs) m = KVk kvs x m k := rfl
theorem valK_hd (x : KeyS) (v : D) (r : List (KeyS × D)) : valK ((x, v) :: r) x = some v := by
  unfold valK
  rw [List.find?_cons, show decide (x = x) = true from decide_eq_true rfl]
  rfl
theorem valK_tl {x y : KeyS} (v : D) (r : List (KeyS × D)) (h : ¬ y = x) : valK ((y, v) :: r) x = valK r x := by
  unfold valK
  rw [List.find?_cons, show decide (y = x) = false from decide_eq_false h]
theorem KVk_eq (x : KeyS) (v : D) (r : List (KeyS × D)) (m : Mem) (k : D → Mem → Rs β) : KVk ((x, v) :: r) x m k = k v m := KO_of (valK_hd x v r) m k
theorem KVk_ne (a b : Str) (v : D) (r : List (KeyS × D)) (m : Mem) (k : D → Mem → Rs β) (h : (a == b) = false) : KVk ((.inr a, v) :: r) (.inr b) m k = KVk r (.inr b) m k := by
  unfold KVk
  rw [valK_tl v r (fun e => by rw [Sum.inr.inj e, beq_self_eq_true] at h; cases h)]
def KVd (kvs : List (KeyS × D)) (x : KeyS) (d : D) (m : Mem) (k : D → Mem → Rs β) : Rs β := k ((valK kvs x).getD d) m
theorem KVd_eq (x : KeyS) (v d : D) (r : List (KeyS × D)) (m : Mem) (k : D → Mem → Rs β) : KVd ((x, v) :: r) x d m k = k v m := by
  unfold KVd
  rw [valK_hd]
  rfl
theorem KVd_ne (a b : Str) (v d : D) (r : List (KeyS × D)) (m : Mem) (k : D → Mem → Rs β) (h : (a == b) = false) : KVd ((.inr a, v) :: r) (.inr b) d m k = KVd r (.inr b) d m k := by
  unfold KVd
  rw [valK_tl v r (fun e => by rw [Sum.inr.inj e, beq_self_eq_true] at h; cases h)]
theorem KVd_n (x : KeyS) (d : D) (m : Mem) (k : D → Mem → Rs β) : KVd [] x d m k = k d m := rfl
def kDg4 (x : D) (key : D) (k : D → Mem → Rs β) : MO → Mem → Rs β := fun o m => match o with
  | .dct kvs => KO ((keyOf key).map fun q => (valK kvs q).getD x) m k
  | _ => .bad
def kDg3 (c : Nat) (key : D) (k : D → Mem → Rs β) : D → Mem → Rs β := fun x m => KG c m m (kDg4 x key k)
def kDg2 (c : Nat) (x : SE) (ρ : Ev) (k : D → Mem → Rs β) : D → Mem → Rs β := fun key m => K (x ρ) m (kDg3 c key k)
def kDg1b (c : Nat) (i x : SE) (ρ : Ev) (k : D → Mem → Rs β) : MO → Mem → Rs β := fun o m => match o with
  | .dct _ => K (i ρ) m (kDg2 c x ρ k)
  | _ => .bad
def kDg1 (i x : SE) (ρ : Ev) (k : D → Mem → Rs β) : D → Mem → Rs β := fun d m => match d with
  | .loc c => KG c m m (kDg1b c i x ρ k)
  | _ => .bad
theorem K_dget2 (d i x : SE) (ρ : Ev) (m : Mem) (k : D → Mem → Rs β) : K (dget2 d i x ρ) m k = K (d ρ) m (kDg1 i x ρ k) := by
  unfold dget2
  rw [K_bind]
  congr 1
  funext y m1
  rw [K_bind]
  cases y with
  | loc c =>
    have h1 : ∀ kk : Unit → Mem → Rs β, K (fun m => if isDct m (.loc c) = true then Rs.ok () m else .bad) m1 kk = KO ((dctOf m1 (.loc c)).bind fun _ => some ()) m1 kk := by
      intro kk
      cases hl : dctOf m1 (.loc c) with
      | none => exact K_bad (by unfold isDct; simp only [hl]; rfl) _
      | some xs => exact K_ok (x := ()) (m1 := m1) (by unfold isDct; simp only [hl]; rfl) _
    rw [h1, dct_KG]
    refine KG_congr fun o => ?_
    cases o with
    | lst _ => rfl
    | obj _ _ => rfl
    | dcn _ => rfl
    | dct xs =>
      show K (M.bind (i ρ) fun kk => M.bind (x ρ) fun xx => fun m => lift ((dctOf m (.loc c)).bind fun kvs => (keyOf kk).map fun k => (valK kvs k).getD xx) m) m1 k = K (i ρ) m1 (kDg2 c x ρ k)
      rw [K_bind]
      congr 1
      funext a m2
      rw [K_bind]
      unfold kDg2
      congr 1
      funext b m3
      show K (lift ((dctOf m3 (.loc c)).bind fun kvs => (keyOf a).map fun k => (valK kvs k).getD b)) m3 k = _
      rw [K_lift, dct_KG]
      rfl
  | _ => rfl
theorem kDg1_at (i x : SE) (ρ : Ev) (k : D → Mem → Rs β) (c : Nat) (m : Mem) : kDg1 i x ρ k (.loc c) m = KG c m m (kDg1b c i x ρ k) := rfl
theorem kDg1b_at (c : Nat) (i x : SE) (ρ : Ev) (k : D → Mem → Rs β) (kvs : List (KeyS × D)) (m : Mem) : kDg1b c i x ρ k (.dct kvs) m = K (i ρ) m (kDg2 c x ρ k) := rfl
theorem kDg2_at (c : Nat) (x : SE) (ρ : Ev) (k : D → Mem → Rs β) (key : D) (m : Mem) : kDg2 c x ρ k key m = K (x ρ) m (kDg3 c key k) := rfl
theorem kDg3_at (c : Nat) (key : D) (k : D → Mem → Rs β) (x : D) (m : Mem) : kDg3 c key k x m = KG c m m (kDg4 x key k) := rfl
theorem kDg4_i (x : D) (i : Int) (k : D → Mem → Rs β) (kvs : List (KeyS × D)) (m : Mem) : kDg4 x (.int i) k (.dct kvs) m = k ((valK kvs (.inl i)).getD x) m := rfl
theorem kDg4_s (x : D) (i : Str) (k : D → Mem → Rs β) (kvs : List (KeyS × D)) (m : Mem) : kDg4 x (.str i) k (.dct kvs) m = KVd kvs (.inr i) x m k := rfl
/-! d[k] = v -/
def kDp4 (c : Nat) (key : KeyS) (v : D) (ρ : Ev) (k : KS β) : MO → Mem → Rs β := fun o m => match o with
  | .dct kvs => if kvs.length < sizeLine then k (.nx, ρ) (m.put c (.dct (putKD kvs key v))) else .bad
  | _ => .bad
def kDp3 (v d : D) (ρ : Ev) (k : KS β) : D → Mem → Rs β := fun kd m => match d, keyOf kd with
  | .loc c, some key => KG c m m (kDp4 c key v ρ k)
  | _, _ => .bad
def kDp2 (i : SE) (v : D) (ρ : Ev) (k : KS β) : D → Mem → Rs β := fun d m => K (i ρ) m (kDp3 v d ρ k)
def kDp1 (d i : SE) (ρ : Ev) (k : KS β) : D → Mem → Rs β := fun v m => K (d ρ) m (kDp2 i v ρ k)
theorem K_sDput (d i v : SE) (ρ : Ev) (m : Mem) (k : KS β) : K (sDput d i v ρ) m k = K (v ρ) m (kDp1 d i ρ k) := by
  unfold sDput
  rw [K_bind]
  congr 1
  funext x m1
  rw [K_bind]
  unfold kDp1
  congr 1
  funext y m2
  rw [K_bind]
  unfold kDp2
  congr 1
  funext z m3
  unfold kDp3 K
  cases y with
  | loc c =>
    cases hz : keyOf z with
    | none => simp only [hz]
    | some q =>
      simp only [hz]
      unfold KG
      by_cases h : c < m3.n
      · simp only [h, if_true]
        cases hg : m3.get c with
        | none => rfl
        | some o =>
          cases o with
          | lst _ => rfl
          | obj _ _ => rfl
          | dcn _ => rfl
          | dct kvs =>
            rw [KO_some]
            unfold kDp4
            by_cases hl : kvs.length < sizeLine
            · simp only [hl, if_true]
            · simp only [hl, if_false]
      · simp only [h, if_false]
  | _ => rfl
theorem kDp1_at (d i : SE) (ρ : Ev) (k : KS β) (v : D) (m : Mem) : kDp1 d i ρ k v m = K (d ρ) m (kDp2 i v ρ k) := rfl
theorem kDp2_at (i : SE) (v : D) (ρ : Ev) (k : KS β) (d : D) (m : Mem) : kDp2 i v ρ k d m = K (i ρ) m (kDp3 v d ρ k) := rfl
theorem kDp3_i (v : D) (c : Nat) (ρ : Ev) (k : KS β) (i : Int) (m : Mem) : kDp3 v (.loc c) ρ k (.int i) m = KG c m m (kDp4 c (.inl i) v ρ k) := rfl
theorem kDp3_s (v : D) (c : Nat) (ρ : Ev) (k : KS β) (i : Str) (m : Mem) : kDp3 v (.loc c) ρ k (.str i) m = KG c m m (kDp4 c (.inr i) v ρ k) := rfl
theorem kDp4_at (c : Nat) (key : KeyS) (v : D) (ρ : Ev) (k : KS β) (kvs : List (KeyS × D)) (m : Mem) (h : kvs.length < sizeLine) : kDp4 c key v ρ k (.dct kvs) m = k (.nx, ρ) (m.put c (.dct (putKD kvs key v))) := if_pos h
/-! objects -/
def kFldO (c : Nat) (f : Str) (k : D → Mem → Rs β) : MO → Mem → Rs β := fun o m => match o with
  | .obj c2 fs => if c2 = c then KO (fs.lookup f) m k else .bad
  | _ => .bad
theorem obj_KG {α : Type} (o c : Nat) (m : Mem) (f : List (Str × D) → Option α) (k : α → Mem → Rs β) : KO ((objOf m c (.loc o)).bind f) m k = KG o m m (fun x m => match x with
  | .obj c2 fs => if c2 = c then KO (f fs) m k else .bad
  | _ => .bad) := by
  unfold KG
  show KO ((if o < m.n then (match m.get o with
    | some (.obj c2 fs) => if c2 = c then some fs else none
    | _ => none) else none).bind f) m k = _
  by_cases h : o < m.n
  · rw [if_pos h, if_pos h]
    cases hg : m.get o with
    | none => rfl
    | some x =>
      cases x with
      | lst _ => rfl
      | dct _ => rfl
      | dcn _ => rfl
      | obj c2 fs =>
        show KO ((if c2 = c then some fs else none).bind f) m k = (if c2 = c then KO (f fs) m k else .bad)
        by_cases hc : c2 = c
        · rw [if_pos hc, if_pos hc]
          rfl
        · rw [if_neg hc, if_neg hc]
          rfl
  · rw [if_neg h, if_neg h]
    rfl
theorem K1_fld (c o : Nat) (f : Str) (m : Mem) (k : D → Mem → Rs β) : K1 (gFld c f) (.loc o) m k = KG o m m (kFldO c f k) := obj_KG o c m (fun fs => fs.lookup f) k
def KFl (fs : List (Str × D)) (f : Str) (m : Mem) (k : D → Mem → Rs β) : Rs β := KO (fs.lookup f) m k
theorem kFldO_at (c : Nat) (f : Str) (k : D → Mem → Rs β) (fs : List (Str × D)) (m : Mem) : kFldO c f k (.obj c fs) m = KFl fs f m k := if_pos rfl
theorem KFl_eq (f : Str) (d : D) (r : List (Str × D)) (m : Mem) (k : D → Mem → Rs β) : KFl ((f, d) :: r) f m k = k d m := by
  refine KO_of ?_ m k
  rw [List.lookup_cons, beq_self_eq_true]
theorem KFl_ne (f g : Str) (d : D) (r : List (Str × D)) (m : Mem) (k : D → Mem → Rs β) (h : (f == g) = false) : KFl ((g, d) :: r) f m k = KFl r f m k := by
  unfold KFl
  rw [List.lookup_cons, h]
def kFp3 (c : Nat) (f : Str) (v : D) (o : Nat) (ρ : Ev) (k : KS β) : MO → Mem → Rs β := fun x m => match x with
  | .obj c2 fs => if c2 = c then (if fs.length < 1000 then k (.nx, ρ) (m.put o (.obj c (putFD f v fs))) else .bad) else .bad
  | _ => .bad
def kFp2 (c : Nat) (f : Str) (v : D) (ρ : Ev) (k : KS β) : D → Mem → Rs β := fun d m => match d with
  | .loc o => KG o m m (kFp3 c f v o ρ k)
  | _ => .bad
def kFp1 (c : Nat) (f : Str) (o : SE) (ρ : Ev) (k : KS β) : D → Mem → Rs β := fun v m => K (o ρ) m (kFp2 c f v ρ k)
theorem K_sFput (c : Nat) (f : Str) (o e : SE) (ρ : Ev) (m : Mem) (k : KS β) : K (sFput c f o e ρ) m k = K (e ρ) m (kFp1 c f o ρ k) := by
  unfold sFput
  rw [K_bind]
  congr 1
  funext v m1
  rw [K_bind]
  unfold kFp1
  congr 1
  funext d m2
  rw [K_bind]
  cases d with
  | loc a =>
    have h1 : ∀ kk : Unit → Mem → Rs β, K (fputK c f v (.loc a)) m2 kk = KO ((objOf m2 c (.loc a)).bind fun fs => if fs.length < 1000 then some (m2.put a (.obj c (putFD f v fs))) else none) m2 fun m3 _ => kk () m3 := by
      intro kk
      cases ho : objOf m2 c (.loc a) with
      | none => exact K_bad (by unfold fputK; simp only [ho]) _
      | some fs =>
        by_cases h : fs.length < 1000
        · rw [K_ok (x := ()) (m1 := m2.put a (.obj c (putFD f v fs))) (by unfold fputK; simp only [ho, h, if_true]) _]
          show _ = KO (if fs.length < 1000 then some (m2.put a (.obj c (putFD f v fs))) else none) m2 _
          rw [if_pos h]
          rfl
        · rw [K_bad (by unfold fputK; simp only [ho, h, if_false]) _]
          show _ = KO (if fs.length < 1000 then some (m2.put a (.obj c (putFD f v fs))) else none) m2 _
          rw [if_neg h]
          rfl
    rw [h1, obj_KG]
    unfold kFp2
    refine KG_congr fun x => ?_
    cases x with
    | lst _ => rfl
    | dct _ => rfl
    | dcn _ => rfl
    | obj c2 fs =>
      show (if c2 = c then KO (if fs.length < 1000 then some (m2.put a (.obj c (putFD f v fs))) else none) m2 _ else .bad) = (if c2 = c then (if fs.length < 1000 then k (.nx, ρ) (m2.put a (.obj c (putFD f v fs))) else .bad) else .bad)
      by_cases hc : c2 = c
      · rw [if_pos hc, if_pos hc]
        by_cases h : fs.length < 1000
        · rw [if_pos h, if_pos h]
          rfl
        · rw [if_neg h, if_neg h]
          rfl
      · rw [if_neg hc, if_neg hc]
  | _ => rfl
theorem kFp1_at (c : Nat) (f : Str) (o : SE) (ρ : Ev) (k : KS β) (v : D) (m : Mem) : kFp1 c f o ρ k v m = K (o ρ) m (kFp2 c f v ρ k) := rfl
theorem kFp2_at (c : Nat) (f : Str) (v : D) (ρ : Ev) (k : KS β) (o : Nat) (m : Mem) : kFp2 c f v ρ k (.loc o) m = KG o m m (kFp3 c f v o ρ k) := rfl
def kPu (acc fs : List (Str × D)) (c o : Nat) (ρ : Ev) (k : KS β) (m : Mem) : Rs β := k (.nx, ρ) (m.put o (.obj c (acc.reverse ++ fs)))
def kPf (acc fs : List (Str × D)) (c : Nat) (f : Str) (v : D) (o : Nat) (ρ : Ev) (k : KS β) (m : Mem) : Rs β := kPu acc (putFD f v fs) c o ρ k m
theorem kFp3_at (c : Nat) (f : Str) (v : D) (o : Nat) (ρ : Ev) (k : KS β) (fs : List (Str × D)) (m : Mem) (h : fs.length < 1000) : kFp3 c f v o ρ k (.obj c fs) m = kPf [] fs c f v o ρ k m := by
  show (if c = c then (if fs.length < 1000 then k (.nx, ρ) (m.put o (.obj c (putFD f v fs))) else .bad) else .bad) = _
  rw [if_pos rfl, if_pos h]
  rfl
theorem kPf_n (acc : List (Str × D)) (c : Nat) (f : Str) (v : D) (o : Nat) (ρ : Ev) (k : KS β) (m : Mem) : kPf acc [] c f v o ρ k m = kPu acc [(f, v)] c o ρ k m := rfl
theorem kPf_eq (acc r : List (Str × D)) (x : D) (c : Nat) (f : Str) (v : D) (o : Nat) (ρ : Ev) (k : KS β) (m : Mem) : kPf acc ((f, x) :: r) c f v o ρ k m = kPu acc ((f, v) :: r) c o ρ k m := by
  unfold kPf
  rw [putFD, if_pos rfl]
theorem kPu_c (acc r : List (Str × D)) (x : Str × D) (c o : Nat) (ρ : Ev) (k : KS β) (m : Mem) : kPu (x :: acc) r c o ρ k m = kPu acc (x :: r) c o ρ k m := by
  unfold kPu
  rw [List.reverse_cons, List.append_assoc]
  rfl
theorem kPu_n (r : List (Str × D)) (c o : Nat) (ρ : Ev) (k : KS β) (m : Mem) : kPu [] r c o ρ k m = k (.nx, ρ) (m.put o (.obj c r)) := rfl
theorem kPf_ne (acc r : List (Str × D)) (g : Str) (x : D) (c : Nat) (f : Str) (v : D) (o : Nat) (ρ : Ev) (k : KS β) (m : Mem) (h : (f == g) = false) : kPf acc ((g, x) :: r) c f v o ρ k m = kPf ((g, x) :: acc) r c f v o ρ k m := by
  unfold kPf
  rw [putFD, if_neg (by intro e; rw [e, beq_self_eq_true] at h; cases h), kPu_c]
/-! methods -/
def kMt3 (np : Nat) (f : Fn) (d : D) (k : D → Mem → Rs β) : List D → Mem → Rs β := fun ds m => if ds.length + 1 = np then KF f (d :: ds) m k else .bad
def kMt2 (c np : Nat) (mt : Str) (f : Fn) (a : SA) (ρ : Ev) (d : D) (k : D → Mem → Rs β) : MO → Mem → Rs β := fun x m => match x with
  | .obj c2 fs => if c2 = c then (if (fs.lookup mt).isNone = true then K (a ρ) m (kMt3 np f d k) else .bad) else .bad
  | _ => .bad
def kMt1 (c np : Nat) (mt : Str) (f : Fn) (a : SA) (ρ : Ev) (k : D → Mem → Rs β) : D → Mem → Rs β := fun d m => match d with
  | .loc o => KG o m m (kMt2 c np mt f a ρ d k)
  | _ => .bad
theorem K_callM (c np : Nat) (mt : Str) (f : Fn) (o : SE) (a : SA) (ρ : Ev) (m : Mem) (k : D → Mem → Rs β) : K (callM c np mt f o a ρ) m k = K (o ρ) m (kMt1 c np mt f a ρ k) := by
  unfold callM
  rw [K_bind]
  congr 1
  funext d m1
  rw [K_bind]
  cases d with
  | loc a1 =>
    have h1 : ∀ kk : Unit → Mem → Rs β, K (chkO c mt (.loc a1)) m1 kk = KO ((objOf m1 c (.loc a1)).bind fun fs => if (fs.lookup mt).isNone = true then some () else none) m1 kk := by
      intro kk
      cases ho : objOf m1 c (.loc a1) with
      | none => exact K_bad (by unfold chkO; simp only [ho]) _
      | some fs =>
        by_cases h : (fs.lookup mt).isNone = true
        · rw [K_ok (x := ()) (m1 := m1) (by unfold chkO; simp only [ho, h, if_true]) _]
          show _ = KO (if (fs.lookup mt).isNone = true then some () else none) m1 _
          rw [if_pos h]
          rfl
        · rw [K_bad (by unfold chkO; simp only [ho, h, Bool.false_eq_true, if_false]) _]
          show _ = KO (if (fs.lookup mt).isNone = true then some () else none) m1 _
          rw [if_neg h]
          rfl
    rw [h1, obj_KG]
    unfold kMt1
    refine KG_congr fun x => ?_
    cases x with
    | lst _ => rfl
    | dct _ => rfl
    | dcn _ => rfl
    | obj c2 fs =>
      show (if c2 = c then KO (if (fs.lookup mt).isNone = true then some () else none) m1 _ else .bad) = (if c2 = c then (if (fs.lookup mt).isNone = true then K (a ρ) m1 (kMt3 np f (.loc a1) k) else .bad) else .bad)
      by_cases hc : c2 = c
      · rw [if_pos hc, if_pos hc]
        by_cases h : (fs.lookup mt).isNone = true
        · rw [if_pos h, if_pos h]
          show K (M.bind (a ρ) fun ds m => if ds.length + 1 = np then f (.loc a1 :: ds) m else .bad) m1 k = _
          rw [K_bind]
          congr 1
          funext ds m2
          unfold kMt3 KF K
          by_cases hl : ds.length + 1 = np
          · simp only [hl, if_true]
          · simp only [hl, if_false]
        · rw [if_neg h, if_neg h]
          rfl
      · rw [if_neg hc, if_neg hc]
  | _ => rfl
theorem kMt1_at (c np : Nat) (mt : Str) (f : Fn) (a : SA) (ρ : Ev) (k : D → Mem → Rs β) (o : Nat) (m : Mem) : kMt1 c np mt f a ρ k (.loc o) m = KG o m m (kMt2 c np mt f a ρ (.loc o) k) := rfl
def kNo (fs : List (Str × D)) (mt : Str) (np : Nat) (f : Fn) (a : SA) (ρ : Ev) (d : D) (k : D → Mem → Rs β) (m : Mem) : Rs β := if (fs.lookup mt).isNone = true then K (a ρ) m (kMt3 np f d k) else .bad
theorem kMt2_at (c np : Nat) (mt : Str) (f : Fn) (a : SA) (ρ : Ev) (d : D) (k : D → Mem → Rs β) (fs : List (Str × D)) (m : Mem) : kMt2 c np mt f a ρ d k (.obj c fs) m = kNo fs mt np f a ρ d k m := if_pos rfl
theorem kNo_n (mt : Str) (np : Nat) (f : Fn) (a : SA) (ρ : Ev) (d : D) (k : D → Mem → Rs β) (m : Mem) : kNo [] mt np f a ρ d k m = K (a ρ) m (kMt3 np f d k) := rfl
theorem kNo_c (g : Str) (x : D) (r : List (Str × D)) (mt : Str) (np : Nat) (f : Fn) (a : SA) (ρ : Ev) (d : D) (k : D → Mem → Rs β) (m : Mem) (h : (mt == g) = false) : kNo ((g, x) :: r) mt np f a ρ d k m = kNo r mt np f a ρ d k m := by
  unfold kNo
  rw [List.lookup_cons, h]
theorem kMt3_0 (f : Fn) (d : D) (k : D → Mem → Rs β) (m : Mem) : kMt3 1 f d k [] m = KF f [d] m k := rfl
theorem kMt3_1 (f : Fn) (d : D) (k : D → Mem → Rs β) (x : D) (m : Mem) : kMt3 2 f d k [x] m = KF f [d, x] m k := rfl
theorem kMt3_2 (f : Fn) (d : D) (k : D → Mem → Rs β) (x y : D) (m : Mem) : kMt3 3 f d k [x, y] m = KF f [d, x, y] m k := rfl
theorem kMt3_3 (f : Fn) (d : D) (k : D → Mem → Rs β) (x y z : D) (m : Mem) : kMt3 4 f d k [x, y, z] m = KF f [d, x, y, z] m k := rfl
theorem kMt3_4 (f : Fn) (d : D) (k : D → Mem → Rs β) (x y z u : D) (m : Mem) : kMt3 5 f d k [x, y, z, u] m = KF f [d, x, y, z, u] m k := rfl
/-! new objects -/
def kMk2 (n : Nat) (k : D → Mem → Rs β) : D → Mem → Rs β := fun d m => match d with
  | .non => k (.loc n) m
  | _ => .bad
def kMk (c np : Nat) (f : Fn) (k : D → Mem → Rs β) : List D → Mem → Rs β := fun ds m => if ds.length + 1 = np then KF f (.loc m.n :: ds) (m.new (.obj c [])) (kMk2 m.n k) else .bad
theorem K_mkE (c np : Nat) (f : Fn) (a : SA) (ρ : Ev) (m : Mem) (k : D → Mem → Rs β) : K (mkE c np f a ρ) m k = K (a ρ) m (kMk c np f k) := by
  unfold mkE
  rw [K_bind]
  congr 1
  funext ds m1
  unfold kMk
  by_cases h : ds.length + 1 = np
  · rw [if_pos h]
    have e : K (fun m => if ds.length + 1 = np then M.bind (f (.loc m.n :: ds)) (mkK m.n) (m.new (.obj c [])) else .bad) m1 k = K (M.bind (f (.loc m1.n :: ds)) (mkK m1.n)) (m1.new (.obj c [])) k := by
      unfold K
      simp only [h, if_true]
    rw [e, K_bind]
    unfold KF
    congr 1
    funext d m2
    cases d <;> rfl
  · rw [if_neg h]
    unfold K
    simp only [h, if_false]
theorem kMk_1 (c : Nat) (f : Fn) (k : D → Mem → Rs β) (x : D) (m : Mem) : kMk c 2 f k [x] m = KF f [.loc m.n, x] (m.new (.obj c [])) (kMk2 m.n k) := rfl
theorem kMk_2 (c : Nat) (f : Fn) (k : D → Mem → Rs β) (x y : D) (m : Mem) : kMk c 3 f k [x, y] m = KF f [.loc m.n, x, y] (m.new (.obj c [])) (kMk2 m.n k) := rfl
theorem kMk_3 (c : Nat) (f : Fn) (k : D → Mem → Rs β) (x y z : D) (m : Mem) : kMk c 4 f k [x, y, z] m = KF f [.loc m.n, x, y, z] (m.new (.obj c [])) (kMk2 m.n k) := rfl
theorem kMk2_at (n : Nat) (k : D → Mem → Rs β) (m : Mem) : kMk2 n k .non m = k (.loc n) m := rfl
end
end LB

set_option Elab.async false
set_option linter.all false
set_option autoImplicit false
set_option maxRecDepth 100000
set_option maxHeartbeats 1000000
/-! Pure: loops and comprehensions at the head. -/
namespace LB
open PySem
section
variable {α β γ Y : Type}
/-! ### walks -/
def kFor (g : SG) (body : SS) (ρ : Ev) (k : KS β) : Wk × Nat → Mem → Rs β := fun w m => K (forG w.1 g body w.2 0 ρ) m k
theorem K_sFor (it : SI) (g : SG) (body : SS) (ρ : Ev) (m : Mem) (k : KS β) : K (sFor it g body ρ) m k = K (it ρ) m (kFor g body ρ k) := by
  unfold sFor
  rw [K_bind]
  rfl
theorem kFor_at (g : SG) (body : SS) (ρ : Ev) (k : KS β) (w : Wk) (n : Nat) (m : Mem) : kFor g body ρ k (w, n) m = K (forG w g body n 0 ρ) m k := rfl
def rng1F (ds : List D) : M (Wk × Nat) := fun m => match ds with
  | [.int hi] => if small62 hi = true then .ok (wkRng 0 hi.toNat, hi.toNat) m else .bad
  | _ => .bad
def kRng1 (k : Wk × Nat → Mem → Rs β) : List D → Mem → Rs β := fun ds m => K (rng1F ds) m k
theorem K_itRng1 (a : SA) (ρ : Ev) (m : Mem) (k : Wk × Nat → Mem → Rs β) : K (itRng1 a ρ) m k = K (a ρ) m (kRng1 k) := by
  unfold itRng1
  rw [K_bind]
  rfl
theorem kRng1_at (k : Wk × Nat → Mem → Rs β) (hi : Int) (m : Mem) (h : small62 hi = true) : kRng1 k [.int hi] m = k (wkRng 0 hi.toNat, hi.toNat) m := K_ok (if_pos h) k
theorem kRng1_nat (k : Wk × Nat → Mem → Rs β) (n : Nat) (m : Mem) (h : n < 4611686018427387904) : kRng1 k [.int (n : Int)] m = k (wkRng 0 n, n) m := by
  rw [kRng1_at _ _ _ (small62_nat h)]
  rfl
def rng2F (ds : List D) : M (Wk × Nat) := fun m => match ds with
  | [.int lo, .int hi] => if small62 lo = true ∧ small62 hi = true then .ok (wkRng lo (hi - lo).toNat, (hi - lo).toNat) m else .bad
  | _ => .bad
def kRng2 (k : Wk × Nat → Mem → Rs β) : List D → Mem → Rs β := fun ds m => K (rng2F ds) m k
theorem K_itRng2 (a : SA) (ρ : Ev) (m : Mem) (k : Wk × Nat → Mem → Rs β) : K (itRng2 a ρ) m k = K (a ρ) m (kRng2 k) := by
  unfold itRng2
  rw [K_bind]
  rfl
theorem kRng2_at (k : Wk × Nat → Mem → Rs β) (lo hi : Int) (m : Mem) (h : small62 lo = true) (h2 : small62 hi = true) : kRng2 k [.int lo, .int hi] m = k (wkRng lo (hi - lo).toNat, (hi - lo).toNat) m := K_ok (if_pos ⟨h, h2⟩) k
def kSeqI (k : Wk × Nat → Mem → Rs β) : D → Mem → Rs β := fun d m => KO (sqOf m d) m fun xs m => k (wkSeq d, xs.length) m
theorem K_itSeq (a : SE) (ρ : Ev) (m : Mem) (k : Wk × Nat → Mem → Rs β) : K (itSeq a ρ) m k = K (a ρ) m (kSeqI k) := by
  unfold itSeq
  rw [K_bind]
  congr 1
  funext d m1
  unfold kSeqI
  cases h : sqOf m1 d with
  | none => exact K_bad (by simp only [h]) _
  | some xs => exact K_ok (by simp only [h]) _
theorem kSeqI_t (k : Wk × Nat → Mem → Rs β) (xs : List D) (m : Mem) : kSeqI k (.tup xs) m = k (wkSeq (.tup xs), xs.length) m := rfl
theorem kSeqI_l (k : Wk × Nat → Mem → Rs β) (xs : List D) (m : Mem) : kSeqI k (.lst xs) m = k (wkSeq (.lst xs), xs.length) m := rfl
def kSeqL (c : Nat) (k : Wk × Nat → Mem → Rs β) : MO → Mem → Rs β := fun o m => match o with
  | .lst xs => k (wkSeq (.loc c), xs.length) m
  | _ => .bad
theorem kSeqI_c (k : Wk × Nat → Mem → Rs β) (c : Nat) (m : Mem) : kSeqI k (.loc c) m = KG c m m (kSeqL c k) := by
  have h := lst_KG c m (fun xs => some xs) (fun xs m => k (wkSeq (.loc c), xs.length) m)
  unfold kSeqI
  rw [show sqOf m (.loc c) = ((lstOf m (.loc c)).bind fun xs => some xs) from by show lstOf m (.loc c) = _; cases lstOf m (.loc c) <;> rfl, h]
  rfl
theorem kSeqL_at (c : Nat) (k : Wk × Nat → Mem → Rs β) (xs : List D) (m : Mem) : kSeqL c k (.lst xs) m = k (wkSeq (.loc c), xs.length) m := rfl
/-- a name is given, then the body -/
def bodyG (g : SG) (body : SS) (x : D) : SS := fun ρ m => match g x ρ with
  | none => .bad
  | some ρ1 => body ρ1 m
theorem K_bodyG_nm (i : Nat) (body : SS) (d : D) (ρ : Ev) (m : Mem) (k : KS β) : K (bodyG (gNm i) body d ρ) m k = kSet [] ρ i d m (kSeq body k) := rfl
theorem K_bodyG_tp (is : List Nat) (body : SS) (ds : List D) (ρ : Ev) (m : Mem) (k : KS β) : K (bodyG (gTp is) body (.tup ds) ρ) m k = kNms is ds ρ m (kSeq body k) := by
  unfold kNms
  show K (fun m => match gNms is ds ρ with
    | none => .bad
    | some ρ1 => body ρ1 m) m k = _
  cases h : gNms is ds ρ with
  | none => exact K_bad (by simp only [h]) _
  | some r => rfl
/-! ### while -/
theorem K_sWhile (fuel : Ev → Mem → Nat) (t : SB) (body : SS) (ρ : Ev) (m : Mem) (k : KS β) : K (sWhile fuel t body ρ) m k = K (whileG t body (fuel ρ m) ρ) m k := rfl
/-! ### comprehensions -/
def kComp (g : SG) (t : SB) (e : SE) (ρ0 : Ev) (k : List D → Mem → Rs β) : Wk × Nat → Mem → Rs β := fun w m => K (compG w.1 g t e ρ0 w.2 0 []) m k
theorem K_compL (it : SI) (g : SG) (t : SB) (e : SE) (own : List Nat) (ρ : Ev) (m : Mem) (k : List D → Mem → Rs β) : K (compL it g t e own ρ) m k = K (it ρ) m (kComp g t e (wipeE ρ own) k) := by
  unfold compL
  rw [K_bind]
  rfl
theorem kComp_at (g : SG) (t : SB) (e : SE) (ρ0 : Ev) (k : List D → Mem → Rs β) (w : Wk) (n : Nat) (m : Mem) : kComp g t e ρ0 k (w, n) m = K (compG w g t e ρ0 n 0 []) m k := rfl
def kLst (k : D → Mem → Rs β) : List D → Mem → Rs β := fun ys m => k (.lst ys) m
def kLstM (k : D → Mem → Rs β) : List D → Mem → Rs β := fun ys m => k (.loc m.n) (m.new (.lst ys))
theorem K_comp (it : SI) (g : SG) (t : SB) (e : SE) (own : List Nat) (ρ : Ev) (m : Mem) (k : D → Mem → Rs β) : K (comp it g t e own ρ) m k = K (it ρ) m (kComp g t e (wipeE ρ own) (kLst k)) := by
  unfold comp
  rw [K_bind, K_compL]
  rfl
theorem K_compM (it : SI) (g : SG) (t : SB) (e : SE) (own : List Nat) (ρ : Ev) (m : Mem) (k : D → Mem → Rs β) : K (compM it g t e own ρ) m k = K (it ρ) m (kComp g t e (wipeE ρ own) (kLstM k)) := by
  unfold compM
  rw [K_bind, K_compL]
  rfl
theorem kLst_at (k : D → Mem → Rs β) (ys : List D) (m : Mem) : kLst k ys m = k (.lst ys) m := rfl
theorem kLstM_at (k : D → Mem → Rs β) (ys : List D) (m : Mem) : kLstM k ys m = k (.loc m.n) (m.new (.lst ys)) := rfl
/-- a name is given, then an expression -/
def exG (g : SG) (e : Ev → M α) (x : D) : Ev → M α := fun ρ m => match g x ρ with
  | none => .bad
  | some ρ1 => e ρ1 m
def kEx (e : Ev → M α) (k : α → Mem → Rs β) : KS β := fun r m => K (e r.2) m k
theorem kEx_at (e : Ev → M α) (k : α → Mem → Rs β) (ρ : Ev) (m : Mem) : kEx e k (.nx, ρ) m = K (e ρ) m k := rfl
theorem K_exG_nm (i : Nat) (e : Ev → M α) (d : D) (ρ : Ev) (m : Mem) (k : α → Mem → Rs β) : K (exG (gNm i) e d ρ) m k = kSet [] ρ i d m (kEx e k) := rfl
theorem K_exG_tp (is : List Nat) (e : Ev → M α) (ds : List D) (ρ : Ev) (m : Mem) (k : α → Mem → Rs β) : K (exG (gTp is) e (.tup ds) ρ) m k = kNms is ds ρ m (kEx e k) := by
  unfold kNms
  show K (fun m => match gNms is ds ρ with
    | none => .bad
    | some ρ1 => e ρ1 m) m k = _
  cases h : gNms is ds ρ with
  | none => exact K_bad (by simp only [h]) _
  | some r => rfl
end
end LB

set_option Elab.async false
set_option linter.all false
set_option autoImplicit false
set_option maxRecDepth 100000
set_option maxHeartbeats 1000000
/-! Pure: more operations at the head. -/
namespace LB
open PySem
section
variable {α β γ Y : Type}
def kAlc (k : D → Mem → Rs β) : D → Mem → Rs β := fun d m => match d with
  | .lst ys => k (.loc m.n) (m.new (.lst ys))
  | _ => .bad
theorem kAlc_at (k : D → Mem → Rs β) (ys : List D) (m : Mem) : kAlc k (.lst ys) m = k (.loc m.n) (m.new (.lst ys)) := rfl
def kOpNM (g : ON) (k : D → Mem → Rs β) : List D → Mem → Rs β := fun xs m => KN g xs m (kAlc k)
theorem K_opNM (g : ON) (a : SA) (ρ : Ev) (m : Mem) (k : D → Mem → Rs β) : K (opNM g a ρ) m k = K (a ρ) m (kOpNM g k) := by
  unfold opNM
  rw [K_bind]
  congr 1
  funext xs m1
  rw [K_bind]
  show K (lift (g xs m1)) m1 _ = _
  unfold kOpNM KN
  rw [K_lift]
  cases hg : g xs m1 with
  | none => rfl
  | some d => cases d <;> rfl
theorem kOpNM_at (g : ON) (k : D → Mem → Rs β) (xs : List D) (m : Mem) : kOpNM g k xs m = KN g xs m (kAlc k) := rfl
theorem KN_list_l2 (xs : List D) (m : Mem) (k : D → Mem → Rs β) : KN gList [.lst xs] m k = k (.lst xs) m := rfl
theorem KN_list_t2 (xs : List D) (m : Mem) (k : D → Mem → Rs β) : KN gList [.tup xs] m k = k (.lst xs) m := rfl
def kListL (k : D → Mem → Rs β) : MO → Mem → Rs β := fun o m => match o with
  | .lst xs => k (.lst xs) m
  | _ => .bad
theorem KN_list_c (c : Nat) (m : Mem) (k : D → Mem → Rs β) : KN gList [.loc c] m k = KG c m m (kListL k) := by
  have h := lst_KG c m (fun xs => some (D.lst xs)) k
  unfold KN
  rw [show gList [.loc c] m = ((lstOf m (.loc c)).bind fun xs => some (D.lst xs)) from by show (lstOf m (.loc c)).map D.lst = _; cases lstOf m (.loc c) <;> rfl, h]
  rfl
theorem kListL_at (k : D → Mem → Rs β) (xs : List D) (m : Mem) : kListL k (.lst xs) m = k (.lst xs) m := rfl
def kOp2Mb (g : O2) (x : D) (k : D → Mem → Rs β) : D → Mem → Rs β := fun y m => K2 g x y m (kAlc k)
def kOp2Ma (g : O2) (b : SE) (ρ : Ev) (k : D → Mem → Rs β) : D → Mem → Rs β := fun x m => K (b ρ) m (kOp2Mb g x k)
theorem K_op2M (g : O2) (a b : SE) (ρ : Ev) (m : Mem) (k : D → Mem → Rs β) : K (op2M g a b ρ) m k = K (a ρ) m (kOp2Ma g b ρ k) := by
  unfold op2M
  rw [K_bind]
  congr 1
  funext x m1
  rw [K_bind]
  unfold kOp2Ma
  congr 1
  funext y m2
  rw [K_bind]
  unfold kOp2Mb K2
  cases hg : g x y m2 with
  | none => 
    rw [K_bad (a := fun m => lift (g x y m) m) (by show lift (g x y m2) m2 = _; rw [hg]; rfl)]
    rfl
  | some d =>
    rw [K_ok (a := fun m => lift (g x y m) m) (x := d) (m1 := m2) (by show lift (g x y m2) m2 = _; rw [hg]; rfl)]
    cases d <;> rfl
theorem kOp2Ma_at (g : O2) (b : SE) (ρ : Ev) (k : D → Mem → Rs β) (x : D) (m : Mem) : kOp2Ma g b ρ k x m = K (b ρ) m (kOp2Mb g x k) := rfl
theorem kOp2Mb_at (g : O2) (x : D) (k : D → Mem → Rs β) (y : D) (m : Mem) : kOp2Mb g x k y m = K2 g x y m (kAlc k) := rfl
theorem flat_one {x : α} : ∀ n : Nat, (List.replicate n [x]).flatten = List.replicate n x
  | 0 => rfl
  | n + 1 => by rw [List.replicate_succ, List.flatten_cons, flat_one n, List.replicate_succ]; rfl
theorem K2_rep1 (x : D) (i : Int) (m : Mem) (k : D → Mem → Rs β) (h1 : 0 ≤ i) (h2 : i ≤ 1000000) : K2 gRep (.lst [x]) (.int i) m k = k (.lst (List.replicate i.toNat x)) m := by
  refine KO_of ?_ m k
  show (if -(2 ^ 63) ≤ i ∧ i < 2 ^ 63 ∧ [x].length * i.toNat ≤ sizeLine then some (D.lst (List.replicate i.toNat [x]).flatten) else none) = _
  rw [if_pos ⟨by omega, by omega, by
    have h3 : i.toNat ≤ 1000000 := by omega
    have h4 : (1000000 : Nat) ≤ sizeLine := by decide
    rw [List.length_singleton, Nat.one_mul]
    omega⟩, flat_one]
/-! dicts displayed -/
def kPr3 (x y : D) (k : List (D × D) → Mem → Rs β) : List (D × D) → Mem → Rs β := fun r m => k ((x, y) :: r) m
def kPr2 (x : D) (r : List (SE × SE)) (ρ : Ev) (k : List (D × D) → Mem → Rs β) : D → Mem → Rs β := fun y m => K (prE r ρ) m (kPr3 x y k)
def kPr1 (b : SE) (r : List (SE × SE)) (ρ : Ev) (k : List (D × D) → Mem → Rs β) : D → Mem → Rs β := fun x m => K (b ρ) m (kPr2 x r ρ k)
theorem K_prE_n (ρ : Ev) (m : Mem) (k : List (D × D) → Mem → Rs β) : K (prE [] ρ) m k = k [] m := rfl
theorem K_prE_c (a b : SE) (r : List (SE × SE)) (ρ : Ev) (m : Mem) (k : List (D × D) → Mem → Rs β) : K (prE ((a, b) :: r) ρ) m k = K (a ρ) m (kPr1 b r ρ k) := by
  rw [prE]
  rw [K_bind]
  congr 1
  funext x m1
  rw [K_bind]
  unfold kPr1
  congr 1
  funext y m2
  rw [K_bind]
  rfl
theorem kPr1_at (b : SE) (r : List (SE × SE)) (ρ : Ev) (k : List (D × D) → Mem → Rs β) (x : D) (m : Mem) : kPr1 b r ρ k x m = K (b ρ) m (kPr2 x r ρ k) := rfl
theorem kPr2_at (x : D) (r : List (SE × SE)) (ρ : Ev) (k : List (D × D) → Mem → Rs β) (y : D) (m : Mem) : kPr2 x r ρ k y m = K (prE r ρ) m (kPr3 x y k) := rfl
theorem kPr3_at (x y : D) (k : List (D × D) → Mem → Rs β) (r : List (D × D)) (m : Mem) : kPr3 x y k r m = k ((x, y) :: r) m := rfl
def kDsp (k : D → Mem → Rs β) : List (D × D) → Mem → Rs β := fun xs m => KO (keysOf xs) m fun kvs m => if kvs.length ≤ 15 then k (.loc m.n) (m.new (.dct (mergeD [] kvs))) else .bad
theorem K_dspE (ps : List (SE × SE)) (ρ : Ev) (m : Mem) (k : D → Mem → Rs β) : K (dspE ps ρ) m k = K (prE ps ρ) m (kDsp k) := by
  unfold dspE
  rw [K_bind]
  congr 1
  funext xs m1
  unfold kDsp
  cases h : keysOf xs with
  | none => exact K_bad (by unfold dspK; simp only [h]) _
  | some kvs =>
    rw [KO_some]
    by_cases hl : kvs.length ≤ 15
    · rw [if_pos hl]
      exact K_ok (x := D.loc m1.n) (m1 := m1.new (.dct (mergeD [] kvs))) (by unfold dspK; simp only [h, hl, if_true]; rfl) _
    · rw [if_neg hl]
      exact K_bad (by unfold dspK; simp only [h, hl, if_false]) _
theorem kDsp_of {xs : List (D × D)} {kvs kvs2 : List (KeyS × D)} (h : keysOf xs = some kvs) (hl : kvs.length ≤ 15) (h2 : mergeD [] kvs = kvs2) (k : D → Mem → Rs β) (m : Mem) : kDsp k xs m = k (.loc m.n) (m.new (.dct kvs2)) := by
  unfold kDsp
  rw [h, KO_some, if_pos hl, h2]
theorem kDsp_s1 (a : Str) (x : D) (k : D → Mem → Rs β) (m : Mem) : kDsp k [(.str a, x)] m = k (.loc m.n) (m.new (.dct [(.inr a, x)])) := rfl
theorem inr_ne {a b : Str} (h : (a == b) = false) : ¬ (Sum.inr a : KeyS) = .inr b := fun e => by
  rw [Sum.inr.inj e, beq_self_eq_true] at h
  cases h
theorem kDsp_s2 (a b : Str) (x y : D) (k : D → Mem → Rs β) (m : Mem) (h : (a == b) = false) : kDsp k [(.str a, x), (.str b, y)] m = k (.loc m.n) (m.new (.dct [(.inr a, x), (.inr b, y)])) := kDsp_of (kvs := [(.inr a, x), (.inr b, y)]) rfl (by simp) (by simp [mergeD, putKD, inr_ne h]) k m
theorem kDsp_s3 (a b c : Str) (x y z : D) (k : D → Mem → Rs β) (m : Mem) (h : (a == b) = false) (h2 : (a == c) = false) (h3 : (b == c) = false) : kDsp k [(.str a, x), (.str b, y), (.str c, z)] m = k (.loc m.n) (m.new (.dct [(.inr a, x), (.inr b, y), (.inr c, z)])) := kDsp_of (kvs := [(.inr a, x), (.inr b, y), (.inr c, z)]) rfl (by simp) (by simp [mergeD, putKD, inr_ne h, inr_ne h2, inr_ne h3]) k m
theorem kDsp_s4 (a b c d : Str) (x y z u : D) (k : D → Mem → Rs β) (m : Mem) (h : (a == b) = false) (h2 : (a == c) = false) (h3 : (b == c) = false) (h4 : (a == d) = false) (h5 : (b == d) = false) (h6 : (c == d) = false) : kDsp k [(.str a, x), (.str b, y), (.str c, z), (.str d, u)] m = k (.loc m.n) (m.new (.dct [(.inr a, x), (.inr b, y), (.inr c, z), (.inr d, u)])) := kDsp_of (kvs := [(.inr a, x), (.inr b, y), (.inr c, z), (.inr d, u)]) rfl (by simp) (by simp [mergeD, putKD, inr_ne h, inr_ne h2, inr_ne h3, inr_ne h4, inr_ne h5, inr_ne h6]) k m
/-! frozen -/
def kFrzL (c : Nat) (k : D → Mem → Rs β) : MO → Mem → Rs β := fun o m => match o with
  | .lst xs => k (.lst xs) (m.kill c)
  | _ => .bad
def kFrz (k : D → Mem → Rs β) : D → Mem → Rs β := fun d m => match d with
  | .loc c => KG c m m (kFrzL c k)
  | d => k d m
theorem K_frz (a : SE) (ρ : Ev) (m : Mem) (k : D → Mem → Rs β) : K (frz a ρ) m k = K (a ρ) m (kFrz k) := by
  unfold frz
  rw [K_bind]
  congr 1
  funext d m1
  cases d with
  | loc c =>
    show K (frzD (.loc c)) m1 k = KG c m1 m1 (kFrzL c k)
    unfold KG
    by_cases h : c < m1.n
    · rw [if_pos h]
      cases hg : m1.get c with
      | none => exact K_bad (by unfold frzD; simp only [hg]) _
      | some o =>
        cases o with
        | lst xs => exact K_ok (x := D.lst xs) (m1 := m1.kill c) (by unfold frzD; simp only [hg, h, if_true]) _
        | dct _ => exact K_bad (by unfold frzD; simp only [hg]) _
        | obj _ _ => exact K_bad (by unfold frzD; simp only [hg]) _
        | dcn _ => exact K_bad (by unfold frzD; simp only [hg]) _
    · rw [if_neg h]
      refine K_bad ?_ _
      unfold frzD
      cases hg : m1.get c with
      | none => simp only [hg]
      | some o => cases o <;> simp only [hg, h, if_false]
  | _ => rfl
theorem kFrz_c (k : D → Mem → Rs β) (c : Nat) (m : Mem) : kFrz k (.loc c) m = KG c m m (kFrzL c k) := rfl
theorem kFrz_l (k : D → Mem → Rs β) (xs : List D) (m : Mem) : kFrz k (.lst xs) m = k (.lst xs) m := rfl
theorem kFrz_t (k : D → Mem → Rs β) (xs : List D) (m : Mem) : kFrz k (.tup xs) m = k (.tup xs) m := rfl
theorem kFrz_n (k : D → Mem → Rs β) (m : Mem) : kFrz k .non m = k .non m := rfl
theorem kFrzL_at (c : Nat) (k : D → Mem → Rs β) (xs : List D) (m : Mem) : kFrzL c k (.lst xs) m = k (.lst xs) (m.kill c) := rfl
/-! extend, clear, reverse, pop -/
def kExt3 (c : Nat) (ys : List D) (k : D → Mem → Rs β) : MO → Mem → Rs β := fun o m => match o with
  | .lst xs => if xs.length + ys.length ≤ sizeLine then k .non (m.put c (.lst (xs ++ ys))) else .bad
  | _ => .bad
def kExt2 (l : D) (k : D → Mem → Rs β) : D → Mem → Rs β := fun d m => K (extK l d) m k
def kExt1 (e : SE) (ρ : Ev) (k : D → Mem → Rs β) : D → Mem → Rs β := fun l m => K (chkL l) m fun _ m => K (e ρ) m (kExt2 l k)
def kExt1b (c : Nat) (e : SE) (ρ : Ev) (k : D → Mem → Rs β) : MO → Mem → Rs β := fun o m => match o with
  | .lst _ => K (e ρ) m (kExt2 (.loc c) k)
  | _ => .bad
theorem K_chkL_c (c : Nat) (m : Mem) (kk : Unit → Mem → Rs β) : K (chkL (.loc c)) m kk = KO ((lstOf m (.loc c)).bind fun _ => some ()) m kk := by
  cases hl : lstOf m (.loc c) with
  | none => exact K_bad (by unfold chkL; rw [hl]; rfl) _
  | some xs => exact K_ok (by unfold chkL; rw [hl]; rfl) _
theorem K_extE (l e : SE) (ρ : Ev) (m : Mem) (k : D → Mem → Rs β) : K (extE l e ρ) m k = K (l ρ) m (kExt1 e ρ k) := by
  unfold extE
  rw [K_bind]
  congr 1
  funext x m1
  rw [K_bind]
  unfold kExt1
  congr 1
  funext _ m2
  rw [K_bind]
  rfl
theorem kExt1_at (e : SE) (ρ : Ev) (k : D → Mem → Rs β) (c : Nat) (m : Mem) : kExt1 e ρ k (.loc c) m = KG c m m (kExt1b c e ρ k) := by
  unfold kExt1
  rw [K_chkL_c, lst_KG]
  refine KG_congr fun o => ?_
  cases o <;> rfl
theorem kExt1b_at (c : Nat) (e : SE) (ρ : Ev) (k : D → Mem → Rs β) (xs : List D) (m : Mem) : kExt1b c e ρ k (.lst xs) m = K (e ρ) m (kExt2 (.loc c) k) := rfl
theorem kExt2_at (c : Nat) (k : D → Mem → Rs β) (ys : List D) (m : Mem) : kExt2 (.loc c) k (.lst ys) m = KG c m m (kExt3 c ys k) := by
  unfold kExt2
  have e1 : K (extK (.loc c) (.lst ys)) m k = K (M.bind (updL (.loc c) fun xs => if xs.length + ys.length ≤ sizeLine then some (xs ++ ys) else none) fun _ => M.pure .non) m k := rfl
  rw [e1, K_bind, K_updL]
  refine KG_congr fun o => ?_
  cases o with
  | dct _ => rfl
  | obj _ _ => rfl
  | dcn _ => rfl
  | lst xs =>
    unfold kExt3
    by_cases h : xs.length + ys.length ≤ sizeLine
    · simp only [h, if_true]
      rfl
    · simp only [h, if_false]
theorem kExt3_at (c : Nat) (ys : List D) (k : D → Mem → Rs β) (xs : List D) (m : Mem) (h : xs.length + ys.length ≤ sizeLine) : kExt3 c ys k (.lst xs) m = k .non (m.put c (.lst (xs ++ ys))) := if_pos h
def mt0F (g : List D → Option (List D × D)) (ld : D) : M D := fun m => match (lstOf m ld).bind g with
  | some (_, d) => M.bind (updL ld fun xs => (g xs).map (·.1)) (fun _ => M.pure d) m
  | none => .bad
def kMt0 (g : List D → Option (List D × D)) (k : D → Mem → Rs β) : D → Mem → Rs β := fun d m => K (mt0F g d) m k
def kMt0L (c : Nat) (g : List D → Option (List D × D)) (k : D → Mem → Rs β) : MO → Mem → Rs β := fun o m => match o with
  | .lst xs => (match g xs with
    | some (ys, d) => k d (m.put c (.lst ys))
    | none => .bad)
  | _ => .bad
theorem K_mt0E (g : List D → Option (List D × D)) (l : SE) (ρ : Ev) (m : Mem) (k : D → Mem → Rs β) : K (mt0E g l ρ) m k = K (l ρ) m (kMt0 g k) := by
  unfold mt0E
  rw [K_bind]
  rfl
theorem kMt0_at (g : List D → Option (List D × D)) (k : D → Mem → Rs β) (c : Nat) (m : Mem) : kMt0 g k (.loc c) m = KG c m m (kMt0L c g k) := by
  unfold kMt0 KG
  by_cases h : c < m.n
  · rw [if_pos h]
    cases hg : m.get c with
    | none => exact K_bad (by unfold mt0F; rw [show lstOf m (.loc c) = none from by show (if c < m.n then _ else _) = _; rw [if_pos h, hg]]; rfl) _
    | some o =>
      cases o with
      | dct _ => exact K_bad (by unfold mt0F; rw [show lstOf m (.loc c) = none from by show (if c < m.n then _ else _) = _; rw [if_pos h, hg]]; rfl) _
      | obj _ _ => exact K_bad (by unfold mt0F; rw [show lstOf m (.loc c) = none from by show (if c < m.n then _ else _) = _; rw [if_pos h, hg]]; rfl) _
      | dcn _ => exact K_bad (by unfold mt0F; rw [show lstOf m (.loc c) = none from by show (if c < m.n then _ else _) = _; rw [if_pos h, hg]]; rfl) _
      | lst xs =>
        have hl : lstOf m (.loc c) = some xs := by show (if c < m.n then _ else _) = _; rw [if_pos h, hg]
        rw [KO_some]
        show _ = (match g xs with
          | some (ys, d) => k d (m.put c (.lst ys))
          | none => .bad)
        cases hx : g xs with
        | none => exact K_bad (by unfold mt0F; rw [hl]; show (match g xs with | some (_, d) => _ | none => _) = _; rw [hx]) _
        | some p =>
          obtain ⟨ys, d⟩ := p
          refine K_ok (x := d) (m1 := m.put c (.lst ys)) ?_ k
          unfold mt0F
          rw [hl]
          show (match g xs with | some (_, d) => _ | none => _) = _
          rw [hx]
          show M.bind (updL (.loc c) fun xs => (g xs).map (·.1)) (fun _ => M.pure d) m = _
          have hu : updL (.loc c) (fun xs => (g xs).map (·.1)) m = .ok () (m.put c (.lst ys)) := by
            unfold updL
            simp only [h, if_true, hg, hx, Option.map]
          rw [bind_ok hu]
          rfl
  · rw [if_neg h]
    exact K_bad (by unfold mt0F; rw [show lstOf m (.loc c) = none from by show (if c < m.n then _ else _) = _; rw [if_neg h]]; rfl) _
theorem kMt0L_clear (c : Nat) (k : D → Mem → Rs β) (xs : List D) (m : Mem) : kMt0L c gClear k (.lst xs) m = k .non (m.put c (.lst [])) := rfl
theorem kMt0L_rev (c : Nat) (k : D → Mem → Rs β) (xs : List D) (m : Mem) : kMt0L c gReverse k (.lst xs) m = k .non (m.put c (.lst xs.reverse)) := rfl
/-! in a display of texts or numbers, settled at once -/
theorem K2_in_t (x : D) (xs : List D) (m : Mem) (k : D → Mem → Rs β) (h : inOf x xs = some true) : K2 gIn x (.tup xs) m k = k (.bl true) m := KO_of (by show (inOf x xs).map D.bl = _; rw [h]; rfl) m k
theorem K2_in_f (x : D) (xs : List D) (m : Mem) (k : D → Mem → Rs β) (h : inOf x xs = some false) : K2 gIn x (.tup xs) m k = k (.bl false) m := KO_of (by show (inOf x xs).map D.bl = _; rw [h]; rfl) m k
theorem K2_notIn_t (x : D) (xs : List D) (m : Mem) (k : D → Mem → Rs β) (h : inOf x xs = some true) : K2 gNotIn x (.tup xs) m k = k (.bl false) m := KO_of (by show (inOf x xs).map (fun b => D.bl (!b)) = _; rw [h]; rfl) m k
theorem K2_notIn_f (x : D) (xs : List D) (m : Mem) (k : D → Mem → Rs β) (h : inOf x xs = some false) : K2 gNotIn x (.tup xs) m k = k (.bl true) m := KO_of (by show (inOf x xs).map (fun b => D.bl (!b)) = _; rw [h]; rfl) m k
/-! zip, enumerate, texts -/
def kZp2 (d : D) (k : Wk × Nat → Mem → Rs β) : D → Mem → Rs β := fun e m => KO (wlkOf m d) m fun xs m => KO (wlkOf m e) m fun ys m => k (wkZp d e, min xs.length ys.length) m
def kZp1 (b : SE) (ρ : Ev) (k : Wk × Nat → Mem → Rs β) : D → Mem → Rs β := fun d m => K (b ρ) m (kZp2 d k)
theorem K_itZp (a b : SE) (ρ : Ev) (m : Mem) (k : Wk × Nat → Mem → Rs β) : K (itZp a b ρ) m k = K (a ρ) m (kZp1 b ρ k) := by
  unfold itZp
  rw [K_bind]
  congr 1
  funext d m1
  rw [K_bind]
  unfold kZp1
  congr 1
  funext e m2
  unfold kZp2
  cases h1 : wlkOf m2 d with
  | none => exact K_bad (by simp only [h1]) _
  | some xs =>
    rw [KO_some]
    cases h2 : wlkOf m2 e with
    | none => exact K_bad (by simp only [h1, h2]) _
    | some ys => exact K_ok (by simp only [h1, h2]) _
theorem kZp1_at (b : SE) (ρ : Ev) (k : Wk × Nat → Mem → Rs β) (d : D) (m : Mem) : kZp1 b ρ k d m = K (b ρ) m (kZp2 d k) := rfl
def kEnI (k : Wk × Nat → Mem → Rs β) : D → Mem → Rs β := fun d m => KO (wlkOf m d) m fun xs m => k (wkEn d, xs.length) m
theorem K_itEn (a : SE) (ρ : Ev) (m : Mem) (k : Wk × Nat → Mem → Rs β) : K (itEn a ρ) m k = K (a ρ) m (kEnI k) := by
  unfold itEn
  rw [K_bind]
  congr 1
  funext d m1
  unfold kEnI
  cases h : wlkOf m1 d with
  | none => exact K_bad (by simp only [h]) _
  | some xs => exact K_ok (by simp only [h]) _
theorem kEnI_t (k : Wk × Nat → Mem → Rs β) (xs : List D) (m : Mem) : kEnI k (.tup xs) m = k (wkEn (.tup xs), xs.length) m := rfl
theorem kEnI_l (k : Wk × Nat → Mem → Rs β) (xs : List D) (m : Mem) : kEnI k (.lst xs) m = k (wkEn (.lst xs), xs.length) m := rfl
/-! not in, in: dicts -/
def kDinD (x : KeyS) (k : D → Mem → Rs β) : MO → Mem → Rs β := fun o m => match o with
  | .dct kvs => k (.bl (valK kvs x).isSome) m
  | _ => .bad
theorem K2_din_i (c : Nat) (i : Int) (m : Mem) (k : D → Mem → Rs β) : K2 gDin (.int i) (.loc c) m k = KG c m m (kDinD (.inl i) k) := dct_KG c m (fun kvs => some (D.bl (valK kvs (.inl i)).isSome)) k
theorem kDinD_at (x : KeyS) (k : D → Mem → Rs β) (kvs : List (KeyS × D)) (m : Mem) : kDinD x k (.dct kvs) m = k (.bl (valK kvs x).isSome) m := rfl
/-! store once more -/
end
end LB

set_option Elab.async false
set_option linter.all false
set_option autoImplicit false
set_option maxRecDepth 100000
set_option maxHeartbeats 1000000
/-! Pure: rows and mills at the head (printed by gen/mkr.py). -/
namespace LB
open PySem
noncomputable section
section
variable {β : Type}
theorem KR_put_0 (b n : Int) (m : Mem) (k : D → Mem → Rs β) : K2 gIx (Row.put b n).enc (.int 0) m k = k (.str (Str.ofString "put")) m := rfl
theorem KR_put_1 (b n : Int) (m : Mem) (k : D → Mem → Rs β) : K2 gIx (Row.put b n).enc (.int 1) m k = k (.int b) m := rfl
theorem KR_put_2 (b n : Int) (m : Mem) (k : D → Mem → Rs β) : K2 gIx (Row.put b n).enc (.int 2) m k = k (.int n) m := rfl
theorem KR_put_l (b n : Int) (m : Mem) (k : D → Mem → Rs β) : K2 gIx (Row.put b n).enc (.int (-1)) m k = k (.int n) m := rfl
theorem KR_put_into (b n : Int) (m : Mem) (k : D → Mem → Rs β) : KF m_put_into [(Row.put b n).enc] m k = k (.int b) m := KF_ok (put_into_row _ m) k
theorem KR_put_end (b n : Int) (m : Mem) (k : D → Mem → Rs β) : KF m_is_end [(Row.put b n).enc] m k = k (.bl false) m := KF_ok (is_end_row _ m) k
theorem KR_put_looked (b n : Int) (m : Mem) (k : D → Mem → Rs β) : KF m_looked_at [(Row.put b n).enc] m k = k (.lst []) m := KF_ok (looked_at_row _ m) k
theorem KR_put_cut (b n : Int) (m : Mem) (k : D → Mem → Rs β) : KSl (Row.put b n).enc (some 1) none m k = k (.tup [.int b, .int n]) m := rfl
theorem KR_move_0 (b c : Int) (m : Mem) (k : D → Mem → Rs β) : K2 gIx (Row.move b c).enc (.int 0) m k = k (.str (Str.ofString "move")) m := rfl
theorem KR_move_1 (b c : Int) (m : Mem) (k : D → Mem → Rs β) : K2 gIx (Row.move b c).enc (.int 1) m k = k (.int b) m := rfl
theorem KR_move_2 (b c : Int) (m : Mem) (k : D → Mem → Rs β) : K2 gIx (Row.move b c).enc (.int 2) m k = k (.int c) m := rfl
theorem KR_move_l (b c : Int) (m : Mem) (k : D → Mem → Rs β) : K2 gIx (Row.move b c).enc (.int (-1)) m k = k (.int c) m := rfl
theorem KR_move_into (b c : Int) (m : Mem) (k : D → Mem → Rs β) : KF m_put_into [(Row.move b c).enc] m k = k (.int b) m := KF_ok (put_into_row _ m) k
theorem KR_move_end (b c : Int) (m : Mem) (k : D → Mem → Rs β) : KF m_is_end [(Row.move b c).enc] m k = k (.bl false) m := KF_ok (is_end_row _ m) k
theorem KR_move_looked (b c : Int) (m : Mem) (k : D → Mem → Rs β) : KF m_looked_at [(Row.move b c).enc] m k = k (.lst [.int c]) m := KF_ok (looked_at_row _ m) k
theorem KR_move_cut (b c : Int) (m : Mem) (k : D → Mem → Rs β) : KSl (Row.move b c).enc (some 1) none m k = k (.tup [.int b, .int c]) m := rfl
theorem KR_add_0 (b c d : Int) (m : Mem) (k : D → Mem → Rs β) : K2 gIx (Row.add b c d).enc (.int 0) m k = k (.str (Str.ofString "add")) m := rfl
theorem KR_add_1 (b c d : Int) (m : Mem) (k : D → Mem → Rs β) : K2 gIx (Row.add b c d).enc (.int 1) m k = k (.int b) m := rfl
theorem KR_add_2 (b c d : Int) (m : Mem) (k : D → Mem → Rs β) : K2 gIx (Row.add b c d).enc (.int 2) m k = k (.int c) m := rfl
theorem KR_add_3 (b c d : Int) (m : Mem) (k : D → Mem → Rs β) : K2 gIx (Row.add b c d).enc (.int 3) m k = k (.int d) m := rfl
theorem KR_add_l (b c d : Int) (m : Mem) (k : D → Mem → Rs β) : K2 gIx (Row.add b c d).enc (.int (-1)) m k = k (.int d) m := rfl
theorem KR_add_into (b c d : Int) (m : Mem) (k : D → Mem → Rs β) : KF m_put_into [(Row.add b c d).enc] m k = k (.int b) m := KF_ok (put_into_row _ m) k
theorem KR_add_end (b c d : Int) (m : Mem) (k : D → Mem → Rs β) : KF m_is_end [(Row.add b c d).enc] m k = k (.bl false) m := KF_ok (is_end_row _ m) k
theorem KR_add_looked (b c d : Int) (m : Mem) (k : D → Mem → Rs β) : KF m_looked_at [(Row.add b c d).enc] m k = k (.lst [.int c, .int d]) m := KF_ok (looked_at_row _ m) k
theorem KR_add_cut (b c d : Int) (m : Mem) (k : D → Mem → Rs β) : KSl (Row.add b c d).enc (some 1) none m k = k (.tup [.int b, .int c, .int d]) m := rfl
theorem KR_take_0 (b c d : Int) (m : Mem) (k : D → Mem → Rs β) : K2 gIx (Row.take b c d).enc (.int 0) m k = k (.str (Str.ofString "take")) m := rfl
theorem KR_take_1 (b c d : Int) (m : Mem) (k : D → Mem → Rs β) : K2 gIx (Row.take b c d).enc (.int 1) m k = k (.int b) m := rfl
theorem KR_take_2 (b c d : Int) (m : Mem) (k : D → Mem → Rs β) : K2 gIx (Row.take b c d).enc (.int 2) m k = k (.int c) m := rfl
theorem KR_take_3 (b c d : Int) (m : Mem) (k : D → Mem → Rs β) : K2 gIx (Row.take b c d).enc (.int 3) m k = k (.int d) m := rfl
theorem KR_take_l (b c d : Int) (m : Mem) (k : D → Mem → Rs β) : K2 gIx (Row.take b c d).enc (.int (-1)) m k = k (.int d) m := rfl
theorem KR_take_into (b c d : Int) (m : Mem) (k : D → Mem → Rs β) : KF m_put_into [(Row.take b c d).enc] m k = k (.int b) m := KF_ok (put_into_row _ m) k
theorem KR_take_end (b c d : Int) (m : Mem) (k : D → Mem → Rs β) : KF m_is_end [(Row.take b c d).enc] m k = k (.bl false) m := KF_ok (is_end_row _ m) k
theorem KR_take_looked (b c d : Int) (m : Mem) (k : D → Mem → Rs β) : KF m_looked_at [(Row.take b c d).enc] m k = k (.lst [.int c, .int d]) m := KF_ok (looked_at_row _ m) k
theorem KR_take_cut (b c d : Int) (m : Mem) (k : D → Mem → Rs β) : KSl (Row.take b c d).enc (some 1) none m k = k (.tup [.int b, .int c, .int d]) m := rfl
theorem KR_times_0 (b c d : Int) (m : Mem) (k : D → Mem → Rs β) : K2 gIx (Row.times b c d).enc (.int 0) m k = k (.str (Str.ofString "times")) m := rfl
theorem KR_times_1 (b c d : Int) (m : Mem) (k : D → Mem → Rs β) : K2 gIx (Row.times b c d).enc (.int 1) m k = k (.int b) m := rfl
theorem KR_times_2 (b c d : Int) (m : Mem) (k : D → Mem → Rs β) : K2 gIx (Row.times b c d).enc (.int 2) m k = k (.int c) m := rfl
theorem KR_times_3 (b c d : Int) (m : Mem) (k : D → Mem → Rs β) : K2 gIx (Row.times b c d).enc (.int 3) m k = k (.int d) m := rfl
theorem KR_times_l (b c d : Int) (m : Mem) (k : D → Mem → Rs β) : K2 gIx (Row.times b c d).enc (.int (-1)) m k = k (.int d) m := rfl
theorem KR_times_into (b c d : Int) (m : Mem) (k : D → Mem → Rs β) : KF m_put_into [(Row.times b c d).enc] m k = k (.int b) m := KF_ok (put_into_row _ m) k
theorem KR_times_end (b c d : Int) (m : Mem) (k : D → Mem → Rs β) : KF m_is_end [(Row.times b c d).enc] m k = k (.bl false) m := KF_ok (is_end_row _ m) k
theorem KR_times_looked (b c d : Int) (m : Mem) (k : D → Mem → Rs β) : KF m_looked_at [(Row.times b c d).enc] m k = k (.lst [.int c, .int d]) m := KF_ok (looked_at_row _ m) k
theorem KR_times_cut (b c d : Int) (m : Mem) (k : D → Mem → Rs β) : KSl (Row.times b c d).enc (some 1) none m k = k (.tup [.int b, .int c, .int d]) m := rfl
theorem KR_get_0 (b c : Int) (m : Mem) (k : D → Mem → Rs β) : K2 gIx (Row.get b c).enc (.int 0) m k = k (.str (Str.ofString "get")) m := rfl
theorem KR_get_1 (b c : Int) (m : Mem) (k : D → Mem → Rs β) : K2 gIx (Row.get b c).enc (.int 1) m k = k (.int b) m := rfl
theorem KR_get_2 (b c : Int) (m : Mem) (k : D → Mem → Rs β) : K2 gIx (Row.get b c).enc (.int 2) m k = k (.int c) m := rfl
theorem KR_get_l (b c : Int) (m : Mem) (k : D → Mem → Rs β) : K2 gIx (Row.get b c).enc (.int (-1)) m k = k (.int c) m := rfl
theorem KR_get_into (b c : Int) (m : Mem) (k : D → Mem → Rs β) : KF m_put_into [(Row.get b c).enc] m k = k (.int b) m := KF_ok (put_into_row _ m) k
theorem KR_get_end (b c : Int) (m : Mem) (k : D → Mem → Rs β) : KF m_is_end [(Row.get b c).enc] m k = k (.bl false) m := KF_ok (is_end_row _ m) k
theorem KR_get_looked (b c : Int) (m : Mem) (k : D → Mem → Rs β) : KF m_looked_at [(Row.get b c).enc] m k = k (.lst [.int c]) m := KF_ok (looked_at_row _ m) k
theorem KR_get_cut (b c : Int) (m : Mem) (k : D → Mem → Rs β) : KSl (Row.get b c).enc (some 1) none m k = k (.tup [.int b, .int c]) m := rfl
theorem KR_set_0 (b c : Int) (m : Mem) (k : D → Mem → Rs β) : K2 gIx (Row.set b c).enc (.int 0) m k = k (.str (Str.ofString "set")) m := rfl
theorem KR_set_1 (b c : Int) (m : Mem) (k : D → Mem → Rs β) : K2 gIx (Row.set b c).enc (.int 1) m k = k (.int b) m := rfl
theorem KR_set_2 (b c : Int) (m : Mem) (k : D → Mem → Rs β) : K2 gIx (Row.set b c).enc (.int 2) m k = k (.int c) m := rfl
theorem KR_set_l (b c : Int) (m : Mem) (k : D → Mem → Rs β) : K2 gIx (Row.set b c).enc (.int (-1)) m k = k (.int c) m := rfl
theorem KR_set_into (b c : Int) (m : Mem) (k : D → Mem → Rs β) : KF m_put_into [(Row.set b c).enc] m k = k .non m := KF_ok (put_into_row _ m) k
theorem KR_set_end (b c : Int) (m : Mem) (k : D → Mem → Rs β) : KF m_is_end [(Row.set b c).enc] m k = k (.bl false) m := KF_ok (is_end_row _ m) k
theorem KR_set_looked (b c : Int) (m : Mem) (k : D → Mem → Rs β) : KF m_looked_at [(Row.set b c).enc] m k = k (.lst [.int b, .int c]) m := KF_ok (looked_at_row _ m) k
theorem KR_set_cut (b c : Int) (m : Mem) (k : D → Mem → Rs β) : KSl (Row.set b c).enc (some 1) none m k = k (.tup [.int b, .int c]) m := rfl
theorem KR_say_0 (b : Int) (m : Mem) (k : D → Mem → Rs β) : K2 gIx (Row.say b).enc (.int 0) m k = k (.str (Str.ofString "say")) m := rfl
theorem KR_say_1 (b : Int) (m : Mem) (k : D → Mem → Rs β) : K2 gIx (Row.say b).enc (.int 1) m k = k (.int b) m := rfl
theorem KR_say_l (b : Int) (m : Mem) (k : D → Mem → Rs β) : K2 gIx (Row.say b).enc (.int (-1)) m k = k (.int b) m := rfl
theorem KR_say_into (b : Int) (m : Mem) (k : D → Mem → Rs β) : KF m_put_into [(Row.say b).enc] m k = k .non m := KF_ok (put_into_row _ m) k
theorem KR_say_end (b : Int) (m : Mem) (k : D → Mem → Rs β) : KF m_is_end [(Row.say b).enc] m k = k (.bl false) m := KF_ok (is_end_row _ m) k
theorem KR_say_looked (b : Int) (m : Mem) (k : D → Mem → Rs β) : KF m_looked_at [(Row.say b).enc] m k = k (.lst [.int b]) m := KF_ok (looked_at_row _ m) k
theorem KR_say_cut (b : Int) (m : Mem) (k : D → Mem → Rs β) : KSl (Row.say b).enc (some 1) none m k = k (.tup [.int b]) m := rfl
theorem KR_rest_0 (m : Mem) (k : D → Mem → Rs β) : K2 gIx (Row.rest).enc (.int 0) m k = k (.str (Str.ofString "rest")) m := rfl
theorem KR_rest_l (m : Mem) (k : D → Mem → Rs β) : K2 gIx (Row.rest).enc (.int (-1)) m k = k (.str (Str.ofString "rest")) m := rfl
theorem KR_rest_into (m : Mem) (k : D → Mem → Rs β) : KF m_put_into [(Row.rest).enc] m k = k .non m := KF_ok (put_into_row _ m) k
theorem KR_rest_end (m : Mem) (k : D → Mem → Rs β) : KF m_is_end [(Row.rest).enc] m k = k (.bl false) m := KF_ok (is_end_row _ m) k
theorem KR_rest_looked (m : Mem) (k : D → Mem → Rs β) : KF m_looked_at [(Row.rest).enc] m k = k (.lst []) m := KF_ok (looked_at_row _ m) k
theorem KR_rest_cut (m : Mem) (k : D → Mem → Rs β) : KSl (Row.rest).enc (some 1) none m k = k (.tup []) m := rfl
theorem KR_go_0 (r : Int) (m : Mem) (k : D → Mem → Rs β) : K2 gIx (Row.go r).enc (.int 0) m k = k (.str (Str.ofString "go")) m := rfl
theorem KR_go_1 (r : Int) (m : Mem) (k : D → Mem → Rs β) : K2 gIx (Row.go r).enc (.int 1) m k = k (.int r) m := rfl
theorem KR_go_l (r : Int) (m : Mem) (k : D → Mem → Rs β) : K2 gIx (Row.go r).enc (.int (-1)) m k = k (.int r) m := rfl
theorem KR_go_into (r : Int) (m : Mem) (k : D → Mem → Rs β) : KF m_put_into [(Row.go r).enc] m k = k .non m := KF_ok (put_into_row _ m) k
theorem KR_go_end (r : Int) (m : Mem) (k : D → Mem → Rs β) : KF m_is_end [(Row.go r).enc] m k = k (.bl true) m := KF_ok (is_end_row _ m) k
theorem KR_go_looked (r : Int) (m : Mem) (k : D → Mem → Rs β) : KF m_looked_at [(Row.go r).enc] m k = k (.lst []) m := KF_ok (looked_at_row _ m) k
theorem KR_go_cut (r : Int) (m : Mem) (k : D → Mem → Rs β) : KSl (Row.go r).enc (some 1) none m k = k (.tup [.int r]) m := rfl
theorem KR_ifr_0 (b r : Int) (m : Mem) (k : D → Mem → Rs β) : K2 gIx (Row.ifr b r).enc (.int 0) m k = k (.str (Str.ofString "if")) m := rfl
theorem KR_ifr_1 (b r : Int) (m : Mem) (k : D → Mem → Rs β) : K2 gIx (Row.ifr b r).enc (.int 1) m k = k (.int b) m := rfl
theorem KR_ifr_2 (b r : Int) (m : Mem) (k : D → Mem → Rs β) : K2 gIx (Row.ifr b r).enc (.int 2) m k = k (.int r) m := rfl
theorem KR_ifr_l (b r : Int) (m : Mem) (k : D → Mem → Rs β) : K2 gIx (Row.ifr b r).enc (.int (-1)) m k = k (.int r) m := rfl
theorem KR_ifr_into (b r : Int) (m : Mem) (k : D → Mem → Rs β) : KF m_put_into [(Row.ifr b r).enc] m k = k .non m := KF_ok (put_into_row _ m) k
theorem KR_ifr_end (b r : Int) (m : Mem) (k : D → Mem → Rs β) : KF m_is_end [(Row.ifr b r).enc] m k = k (.bl true) m := KF_ok (is_end_row _ m) k
theorem KR_ifr_looked (b r : Int) (m : Mem) (k : D → Mem → Rs β) : KF m_looked_at [(Row.ifr b r).enc] m k = k (.lst [.int b]) m := KF_ok (looked_at_row _ m) k
theorem KR_ifr_cut (b r : Int) (m : Mem) (k : D → Mem → Rs β) : KSl (Row.ifr b r).enc (some 1) none m k = k (.tup [.int b, .int r]) m := rfl
theorem KR_stop_0 (m : Mem) (k : D → Mem → Rs β) : K2 gIx (Row.stop).enc (.int 0) m k = k (.str (Str.ofString "stop")) m := rfl
theorem KR_stop_l (m : Mem) (k : D → Mem → Rs β) : K2 gIx (Row.stop).enc (.int (-1)) m k = k (.str (Str.ofString "stop")) m := rfl
theorem KR_stop_into (m : Mem) (k : D → Mem → Rs β) : KF m_put_into [(Row.stop).enc] m k = k .non m := KF_ok (put_into_row _ m) k
theorem KR_stop_end (m : Mem) (k : D → Mem → Rs β) : KF m_is_end [(Row.stop).enc] m k = k (.bl true) m := KF_ok (is_end_row _ m) k
theorem KR_stop_looked (m : Mem) (k : D → Mem → Rs β) : KF m_looked_at [(Row.stop).enc] m k = k (.lst []) m := KF_ok (looked_at_row _ m) k
theorem KR_stop_cut (m : Mem) (k : D → Mem → Rs β) : KSl (Row.stop).enc (some 1) none m k = k (.tup []) m := rfl
theorem KR_late (r : Row) (t : Mill) (m : Mem) (k : D → Mem → Rs β) : KF m_late [r.enc, t.enc] m k = k (.int (r.late t)) m := KF_ok (late_row r t m) k
theorem KR_far (r s : Row) (t : Mill) (m : Mem) (k : D → Mem → Rs β) : KF m_far_of [r.enc, s.enc, t.enc] m k = k (far r s t) m := KF_ok (far_of_row r s t m) k
theorem KR_num (i lo hi : Int) (m : Mem) (k : D → Mem → Rs β) : KF m_is_number [.int i, .int lo, .int hi] m k = k (.bl (numB i lo hi)) m := KF_ok (is_number_int i lo hi m) k
theorem KR_mill_0 (t : Mill) (m : Mem) (k : D → Mem → Rs β) : K2 gIx t.enc (.int 0) m k = k (.int t.a) m := rfl
theorem KR_mill_1 (t : Mill) (m : Mem) (k : D → Mem → Rs β) : K2 gIx t.enc (.int 1) m k = k (.int t.b) m := rfl
theorem KR_mill_2 (t : Mill) (m : Mem) (k : D → Mem → Rs β) : K2 gIx t.enc (.int 2) m k = k (.int t.c) m := rfl
theorem KR_mill_3 (t : Mill) (m : Mem) (k : D → Mem → Rs β) : K2 gIx t.enc (.int 3) m k = k (.int t.j) m := rfl
theorem KR_pi_len (p : List Row) (m : Mem) (k : D → Mem → Rs β) : KN gLen [encP p] m k = k (.int p.length) m := by
  rw [show (p.length : Int) = ((p.map Row.enc).length : Int) from by rw [List.length_map]]
  rfl
theorem KA_stop (r : Row) (m : Mem) (k : D → Mem → Rs β) : K2 gEq (.str r.word) (.str (Str.ofString "stop")) m k = k (.bl r.stops) m := by cases r <;> rfl
theorem KA_goes (r : Row) (m : Mem) (k : D → Mem → Rs β) : K2 gIn (.str r.word) (.tup [.str (Str.ofString "go"), .str (Str.ofString "if")]) m k = k (.bl r.goes) m := by cases r <;> rfl
theorem KA_ends (r : Row) (m : Mem) (k : D → Mem → Rs β) : K2 gIn (.str r.word) (.tup [.str (Str.ofString "go"), .str (Str.ofString "if"), .str (Str.ofString "stop")]) m k = k (.bl r.ends) m := by cases r <;> rfl
end
end
end LB

set_option Elab.async false
set_option linter.all false
set_option autoImplicit false
set_option maxRecDepth 100000
set_option maxHeartbeats 1000000
/-! Pure: methods with one argument, at the head. -/
namespace LB
open PySem
section
variable {α β γ Y : Type}
def kM1b (g : O2) (d : D) (k : D → Mem → Rs β) : D → Mem → Rs β := fun y m => K2 g d y m k
def kM1 (chk : D → Mem → Bool) (g : O2) (e : SE) (ρ : Ev) (k : D → Mem → Rs β) : D → Mem → Rs β := fun d m => K (chkD chk d) m fun _ m => K (e ρ) m (kM1b g d k)
theorem K_mt1E (chk : D → Mem → Bool) (g : O2) (o e : SE) (ρ : Ev) (m : Mem) (k : D → Mem → Rs β) : K (mt1E chk g o e ρ) m k = K (o ρ) m (kM1 chk g e ρ k) := by
  unfold mt1E
  rw [K_bind]
  congr 1
  funext d m1
  rw [K_bind]
  unfold kM1
  congr 1
  funext _ m2
  rw [K_bind]
  congr 1
  funext y m3
  exact K_lift _ _ _
theorem kM1_l (g : O2) (e : SE) (ρ : Ev) (k : D → Mem → Rs β) (xs : List D) (m : Mem) : kM1 isLst g e ρ k (.lst xs) m = K (e ρ) m (kM1b g (.lst xs) k) := by
  unfold kM1
  exact K_ok (x := ()) (m1 := m) rfl _
theorem kM1_s (g : O2) (e : SE) (ρ : Ev) (k : D → Mem → Rs β) (x : Str) (m : Mem) : kM1 isStr g e ρ k (.str x) m = K (e ρ) m (kM1b g (.str x) k) := by
  unfold kM1
  exact K_ok (x := ()) (m1 := m) rfl _
theorem kM1b_at (g : O2) (d : D) (k : D → Mem → Rs β) (y : D) (m : Mem) : kM1b g d k y m = K2 g d y m k := rfl
def kIsiL (T : String) (k : D → Mem → Rs β) : MO → Mem → Rs β := fun o m => match o with
  | .lst _ => k (.bl (T == "list")) m
  | _ => .bad
theorem K1_isi_c (T : String) (c : Nat) (m : Mem) (k : D → Mem → Rs β) : K1 (gIsi T) (.loc c) m k = KG c m m (kIsiL T k) := by
  have e : isTy m T (.loc c) = (lstOf m (.loc c)).bind fun _ => some (T == "list") := by
    show (if c < m.n then (match m.get c with
      | some (.lst _) => some (T == "list")
      | _ => none) else none) = (if c < m.n then (match m.get c with
      | some (.lst xs) => some xs
      | _ => none) else none).bind _
    by_cases h : c < m.n
    · rw [if_pos h, if_pos h]
      cases m.get c with
      | none => rfl
      | some o => cases o <;> rfl
    · rw [if_neg h, if_neg h]
      rfl
  have h := lst_KG c m (fun _ => some (D.bl (T == "list"))) k
  unfold K1
  rw [show gIsi T (.loc c) m = (lstOf m (.loc c)).bind fun _ => some (D.bl (T == "list")) from by
    show (isTy m T (.loc c)).map D.bl = _
    rw [e]
    cases lstOf m (.loc c) <;> rfl, h]
  refine KG_congr fun o => ?_
  cases o <;> rfl
theorem kIsiL_at (T : String) (k : D → Mem → Rs β) (xs : List D) (m : Mem) : kIsiL T k (.lst xs) m = k (.bl (T == "list")) m := rfl
theorem KN_minl (ns : List Int) (m : Mem) (k : D → Mem → Rs β) : KN gMin [.lst (ns.map D.int)] m k = KO ((minL ns).map D.int) m k := by
  unfold KN
  congr 1
  show (intsOf (ns.map D.int)).bind (fun ns => (minL ns).map D.int) = _
  rw [intsOf_map]
  rfl
end
end LB

set_option Elab.async false
set_option linter.all false
set_option autoImplicit false
set_option maxRecDepth 100000
set_option maxHeartbeats 1000000
/-! Pure: small things that many laws want. -/
namespace LB
open PySem
noncomputable section
local macro_rules | `(tactic| simp_arith [$as,*]) => `(tactic| simp -implicitDefEqProofs (disch := first | assumption | decide | omega | (simp only [List.length_cons, List.length_nil, Mem.put_n, Mem.new_n, Mem.kill_n]; omega)) only [↓KO_some, ↓K_vr, ↓kVr_0, ↓kVr_s, ↓K_cn, ↓K_pure, ↓K_op2, ↓kOp2a_at, ↓kOp2b_at, ↓K_op1, ↓kOp1_at, ↓K_argN, ↓K_argC, ↓kArg1_at, ↓kArg2_at, ↓K_opN, ↓kOpN_at, ↓K_call, ↓kCall_1, ↓kCall_2, ↓kCall_3, ↓kCall_4, ↓kCall_5, ↓K_tpl, ↓K_lsl, ↓K_lsm, ↓K_dctE, ↓kTpl_0, ↓kTpl_1, ↓kTpl_2, ↓kTpl_3, ↓kTpl_4, ↓kTpl_5, ↓kLsl_0, ↓kLsl_1, ↓kLsl_2, ↓kLsl_3, ↓kLsl_4, ↓kLsm_0, ↓K_tV, ↓kTV_at, ↓K_tAnd, ↓kTAnd_t, ↓kTAnd_f, ↓K_tOr, ↓kTOr_t, ↓kTOr_f, ↓K_tNot, ↓kTNot_t, ↓kTNot_f, ↓kTNot_at, ↓K_tYes, ↓K_vAnd, ↓kVAnd_t, ↓kVAnd_f, ↓K_vOr, ↓kVOr_t, ↓kVOr_f, ↓K_vNot, ↓kVNot_at, ↓K_ifE, ↓kIfE_t, ↓kIfE_f, ↓K_chn, ↓kChn0_at, ↓kChn1_at, ↓kChn2_t, ↓kChn2_f, ↓K_soN, ↓K_soS, ↓kSoS_at, ↓K_slc, ↓kSlc0_at, ↓kSlc1_at, ↓kSlc2_at, ↓KSl_tup, ↓KSl_lst, ↓K_sNext, ↓K_sSeq, ↓kSeq_nx, ↓kSeq_rt, ↓K_sRet, ↓kRet_at, ↓K_sRetN, ↓K_sExp, ↓kExp_at, ↓K_sIf, ↓kIf_t, ↓kIf_f, ↓kSet_0, ↓kSet_s, ↓kUn_c, ↓kUn_n, ↓K_sAsg, ↓kAsg_nm, ↓kAsg_tp, ↓kNms_c, ↓kNmsC_at, ↓kNms_n, ↓K_sPar, ↓kPar1_at, ↓kPar2_at, ↓K_run, ↓kRun_rt, ↓kRun_nx, ↓K2_add_i, ↓K2_sub_i, ↓K2_mul_i, ↓K2_mod_i, ↓K2_fdiv_i, ↓K2_lt_i, ↓K2_le_i, ↓K2_gt_i, ↓K2_ge_i, ↓K2_eq_i, ↓K2_ne_i, ↓K2_eq_st, ↓K2_eq_sf, ↓K2_ne_st, ↓K2_ne_sf, ↓K2_eq_b, ↓K2_add_t, ↓K2_add_l, ↓K1_neg_i, ↓K2_isN_n, ↓K2_isN_i, ↓K2_isN_s, ↓K2_isN_t, ↓K2_isN_l, ↓K2_isN_c, ↓K2_notN_n, ↓K2_notN_i, ↓K2_notN_s, ↓K2_notN_t, ↓K2_notN_l, ↓K2_notN_c, ↓K2_ix_t, ↓K2_ix_l, ↓KIx_0, ↓KIx_1, ↓KIx_2, ↓KIx_3, ↓KIx_4, ↓KIx_m1a, ↓KIx_m1b, ↓KIx_m1c, ↓KIx_m1d, ↓KN_len_t, ↓KN_len_l, ↓KN_max2, ↓KN_min2, ↓KN_int_i, ↓KN_int_t, ↓KN_int_f, ↓KN_tuple_l, ↓KN_tuple_t, ↓KN_maxl, ↓KN_suml, ↓K1_isi_n, ↓K1_isi_b, ↓K1_isi_i, ↓K1_isi_s, ↓K1_isi_t, ↓K1_isi_l, ↓KG_put_eq, ↓KG_put_ne, ↓KG_new_eq, ↓KG_new_ne, ↓KG_kill_ne, ↓K2_ix_c, ↓kIxL_at, ↓KN_len_c, ↓kLenL_l, ↓kLenL_d, ↓KN_tuple_c, ↓kTupL_at, ↓KN_max_c, ↓kMaxL_at, ↓KSl_c, ↓kSlL_at, ↓K_appE, ↓kApp1_at, ↓kApp1b_at, ↓kApp2_at, ↓kApp3_at, ↓K_sLput, ↓kPut1_at, ↓kPut2_at, ↓kPut3_at, ↓kPut4_at, ↓K2_dget_i, ↓K2_dget_s, ↓kDgD_at, ↓KVk_eq, ↓KVk_ne, ↓KVd_eq, ↓KVd_ne, ↓KVd_n, ↓K_dget2, ↓kDg1_at, ↓kDg1b_at, ↓kDg2_at, ↓kDg3_at, ↓kDg4_i, ↓kDg4_s, ↓K_sDput, ↓kDp1_at, ↓kDp2_at, ↓kDp3_i, ↓kDp3_s, ↓kDp4_at, ↓K1_fld, ↓kFldO_at, ↓KFl_eq, ↓KFl_ne, ↓K_sFput, ↓kFp1_at, ↓kFp2_at, ↓kFp3_at, ↓kPf_n, ↓kPf_eq, ↓kPu_c, ↓kPu_n, ↓kPf_ne, ↓K_callM, ↓kMt1_at, ↓kMt2_at, ↓kNo_n, ↓kNo_c, ↓kMt3_0, ↓kMt3_1, ↓kMt3_2, ↓kMt3_3, ↓kMt3_4, ↓K_mkE, ↓kMk_1, ↓kMk_2, ↓kMk_3, ↓kMk2_at, ↓K_sFor, ↓kFor_at, ↓K_itRng1, ↓kRng1_nat, ↓K_itRng2, ↓kRng2_at, ↓K_itSeq, ↓kSeqI_t, ↓kSeqI_l, ↓kSeqI_c, ↓kSeqL_at, ↓K_bodyG_nm, ↓K_bodyG_tp, ↓K_sWhile, ↓kComp_at, ↓K_comp, ↓K_compM, ↓kLst_at, ↓kLstM_at, ↓kEx_at, ↓K_exG_nm, ↓K_exG_tp, ↓kAlc_at, ↓K_opNM, ↓kOpNM_at, ↓KN_list_l2, ↓KN_list_t2, ↓KN_list_c, ↓kListL_at, ↓K_op2M, ↓kOp2Ma_at, ↓kOp2Mb_at, ↓K2_rep1, ↓K_prE_n, ↓K_prE_c, ↓kPr1_at, ↓kPr2_at, ↓kPr3_at, ↓K_dspE, ↓kDsp_s1, ↓kDsp_s2, ↓kDsp_s3, ↓kDsp_s4, ↓K_frz, ↓kFrz_c, ↓kFrz_l, ↓kFrz_t, ↓kFrz_n, ↓kFrzL_at, ↓K_extE, ↓kExt1_at, ↓kExt1b_at, ↓kExt2_at, ↓kExt3_at, ↓K_mt0E, ↓kMt0_at, ↓kMt0L_clear, ↓kMt0L_rev, ↓K2_in_t, ↓K2_in_f, ↓K2_notIn_t, ↓K2_notIn_f, ↓K_itZp, ↓kZp1_at, ↓K_itEn, ↓kEnI_t, ↓kEnI_l, ↓K2_din_i, ↓kDinD_at, ↓KR_put_0, ↓KR_put_1, ↓KR_put_2, ↓KR_put_l, ↓KR_put_into, ↓KR_put_end, ↓KR_put_looked, ↓KR_put_cut, ↓KR_move_0, ↓KR_move_1, ↓KR_move_2, ↓KR_move_l, ↓KR_move_into, ↓KR_move_end, ↓KR_move_looked, ↓KR_move_cut, ↓KR_add_0, ↓KR_add_1, ↓KR_add_2, ↓KR_add_3, ↓KR_add_l, ↓KR_add_into, ↓KR_add_end, ↓KR_add_looked, ↓KR_add_cut, ↓KR_take_0, ↓KR_take_1, ↓KR_take_2, ↓KR_take_3, ↓KR_take_l, ↓KR_take_into, ↓KR_take_end, ↓KR_take_looked, ↓KR_take_cut, ↓KR_times_0, ↓KR_times_1, ↓KR_times_2, ↓KR_times_3, ↓KR_times_l, ↓KR_times_into, ↓KR_times_end, ↓KR_times_looked, ↓KR_times_cut, ↓KR_get_0, ↓KR_get_1, ↓KR_get_2, ↓KR_get_l, ↓KR_get_into, ↓KR_get_end, ↓KR_get_looked, ↓KR_get_cut, ↓KR_set_0, ↓KR_set_1, ↓KR_set_2, ↓KR_set_l, ↓KR_set_into, ↓KR_set_end, ↓KR_set_looked, ↓KR_set_cut, ↓KR_say_0, ↓KR_say_1, ↓KR_say_l, ↓KR_say_into, ↓KR_say_end, ↓KR_say_looked, ↓KR_say_cut, ↓KR_rest_0, ↓KR_rest_l, ↓KR_rest_into, ↓KR_rest_end, ↓KR_rest_looked, ↓KR_rest_cut, ↓KR_go_0, ↓KR_go_1, ↓KR_go_l, ↓KR_go_into, ↓KR_go_end, ↓KR_go_looked, ↓KR_go_cut, ↓KR_ifr_0, ↓KR_ifr_1, ↓KR_ifr_2, ↓KR_ifr_l, ↓KR_ifr_into, ↓KR_ifr_end, ↓KR_ifr_looked, ↓KR_ifr_cut, ↓KR_stop_0, ↓KR_stop_l, ↓KR_stop_into, ↓KR_stop_end, ↓KR_stop_looked, ↓KR_stop_cut, ↓KR_late, ↓KR_far, ↓KR_num, ↓KR_mill_0, ↓KR_mill_1, ↓KR_mill_2, ↓KR_mill_3, ↓KR_pi_len, ↓KA_stop, ↓KA_goes, ↓KA_ends, ↓K_mt1E, ↓kM1_l, ↓kM1_s, ↓kM1b_at, ↓K1_isi_c, ↓kIsiL_at, ↓KN_minl, start0, List.map_cons, List.map_nil, List.length_cons, List.length_nil, List.replicate_succ, List.replicate_zero, Nat.reduceSub, Nat.reduceAdd, wipeE, List.set_cons_zero, List.set_cons_succ, List.cons_append, List.nil_append, $as,*])
theorem lst_loc {m : Mem} {c : Nat} {xs : List D} (h : c < m.n) (g : m.get c = some (.lst xs)) : lstOf m (.loc c) = some xs := lstOf_at h g
def rowAt (p : List Row) (i : Nat) : Row := p.getD i .rest
theorem rowAt_of {p : List Row} {i : Nat} (h : i < p.length) : p[i]? = some (rowAt p i) := by
  unfold rowAt
  rw [List.getD_eq_getElem?_getD, List.getElem?_eq_getElem h]
  rfl
theorem eqvs_ints : ∀ xs ys : List Int, eqvs (xs.map D.int) (ys.map D.int) = decide (xs = ys)
  | [], [] => rfl
  | [], _ :: _ => rfl
  | _ :: _, [] => rfl
  | x :: xs, y :: ys => by
    show (x == y && eqvs (xs.map D.int) (ys.map D.int)) = _
    rw [eqvs_ints xs ys, Bool.eq_iff_iff]
    simp
end
end LB

set_option Elab.async false
set_option linter.all false
set_option autoImplicit false
set_option maxRecDepth 100000
set_option maxHeartbeats 1000000
/-! Pure: the program's runner, a step, a run. -/
namespace LB
open PySem
noncomputable section
local macro_rules | `(tactic| simp_arith [$as,*]) => `(tactic| simp -implicitDefEqProofs (disch := first | assumption | decide | omega | (simp only [List.length_cons, List.length_nil, Mem.put_n, Mem.new_n, Mem.kill_n]; omega)) only [↓KO_some, ↓K_vr, ↓kVr_0, ↓kVr_s, ↓K_cn, ↓K_pure, ↓K_op2, ↓kOp2a_at, ↓kOp2b_at, ↓K_op1, ↓kOp1_at, ↓K_argN, ↓K_argC, ↓kArg1_at, ↓kArg2_at, ↓K_opN, ↓kOpN_at, ↓K_call, ↓kCall_1, ↓kCall_2, ↓kCall_3, ↓kCall_4, ↓kCall_5, ↓K_tpl, ↓K_lsl, ↓K_lsm, ↓K_dctE, ↓kTpl_0, ↓kTpl_1, ↓kTpl_2, ↓kTpl_3, ↓kTpl_4, ↓kTpl_5, ↓kLsl_0, ↓kLsl_1, ↓kLsl_2, ↓kLsl_3, ↓kLsl_4, ↓kLsm_0, ↓K_tV, ↓kTV_at, ↓K_tAnd, ↓kTAnd_t, ↓kTAnd_f, ↓K_tOr, ↓kTOr_t, ↓kTOr_f, ↓K_tNot, ↓kTNot_t, ↓kTNot_f, ↓kTNot_at, ↓K_tYes, ↓K_vAnd, ↓kVAnd_t, ↓kVAnd_f, ↓K_vOr, ↓kVOr_t, ↓kVOr_f, ↓K_vNot, ↓kVNot_at, ↓K_ifE, ↓kIfE_t, ↓kIfE_f, ↓K_chn, ↓kChn0_at, ↓kChn1_at, ↓kChn2_t, ↓kChn2_f, ↓K_soN, ↓K_soS, ↓kSoS_at, ↓K_slc, ↓kSlc0_at, ↓kSlc1_at, ↓kSlc2_at, ↓KSl_tup, ↓KSl_lst, ↓K_sNext, ↓K_sSeq, ↓kSeq_nx, ↓kSeq_rt, ↓K_sRet, ↓kRet_at, ↓K_sRetN, ↓K_sExp, ↓kExp_at, ↓K_sIf, ↓kIf_t, ↓kIf_f, ↓kSet_0, ↓kSet_s, ↓kUn_c, ↓kUn_n, ↓K_sAsg, ↓kAsg_nm, ↓kAsg_tp, ↓kNms_c, ↓kNmsC_at, ↓kNms_n, ↓K_sPar, ↓kPar1_at, ↓kPar2_at, ↓K_run, ↓kRun_rt, ↓kRun_nx, ↓K2_add_i, ↓K2_sub_i, ↓K2_mul_i, ↓K2_mod_i, ↓K2_fdiv_i, ↓K2_lt_i, ↓K2_le_i, ↓K2_gt_i, ↓K2_ge_i, ↓K2_eq_i, ↓K2_ne_i, ↓K2_eq_st, ↓K2_eq_sf, ↓K2_ne_st, ↓K2_ne_sf, ↓K2_eq_b, ↓K2_add_t, ↓K2_add_l, ↓K1_neg_i, ↓K2_isN_n, ↓K2_isN_i, ↓K2_isN_s, ↓K2_isN_t, ↓K2_isN_l, ↓K2_isN_c, ↓K2_notN_n, ↓K2_notN_i, ↓K2_notN_s, ↓K2_notN_t, ↓K2_notN_l, ↓K2_notN_c, ↓K2_ix_t, ↓K2_ix_l, ↓KIx_0, ↓KIx_1, ↓KIx_2, ↓KIx_3, ↓KIx_4, ↓KIx_m1a, ↓KIx_m1b, ↓KIx_m1c, ↓KIx_m1d, ↓KN_len_t, ↓KN_len_l, ↓KN_max2, ↓KN_min2, ↓KN_int_i, ↓KN_int_t, ↓KN_int_f, ↓KN_tuple_l, ↓KN_tuple_t, ↓KN_maxl, ↓KN_suml, ↓K1_isi_n, ↓K1_isi_b, ↓K1_isi_i, ↓K1_isi_s, ↓K1_isi_t, ↓K1_isi_l, ↓KG_put_eq, ↓KG_put_ne, ↓KG_new_eq, ↓KG_new_ne, ↓KG_kill_ne, ↓K2_ix_c, ↓kIxL_at, ↓KN_len_c, ↓kLenL_l, ↓kLenL_d, ↓KN_tuple_c, ↓kTupL_at, ↓KN_max_c, ↓kMaxL_at, ↓KSl_c, ↓kSlL_at, ↓K_appE, ↓kApp1_at, ↓kApp1b_at, ↓kApp2_at, ↓kApp3_at, ↓K_sLput, ↓kPut1_at, ↓kPut2_at, ↓kPut3_at, ↓kPut4_at, ↓K2_dget_i, ↓K2_dget_s, ↓kDgD_at, ↓KVk_eq, ↓KVk_ne, ↓KVd_eq, ↓KVd_ne, ↓KVd_n, ↓K_dget2, ↓kDg1_at, ↓kDg1b_at, ↓kDg2_at, ↓kDg3_at, ↓kDg4_i, ↓kDg4_s, ↓K_sDput, ↓kDp1_at, ↓kDp2_at, ↓kDp3_i, ↓kDp3_s, ↓kDp4_at, ↓K1_fld, ↓kFldO_at, ↓KFl_eq, ↓KFl_ne, ↓K_sFput, ↓kFp1_at, ↓kFp2_at, ↓kFp3_at, ↓kPf_n, ↓kPf_eq, ↓kPu_c, ↓kPu_n, ↓kPf_ne, ↓K_callM, ↓kMt1_at, ↓kMt2_at, ↓kNo_n, ↓kNo_c, ↓kMt3_0, ↓kMt3_1, ↓kMt3_2, ↓kMt3_3, ↓kMt3_4, ↓K_mkE, ↓kMk_1, ↓kMk_2, ↓kMk_3, ↓kMk2_at, ↓K_sFor, ↓kFor_at, ↓K_itRng1, ↓kRng1_nat, ↓K_itRng2, ↓kRng2_at, ↓K_itSeq, ↓kSeqI_t, ↓kSeqI_l, ↓kSeqI_c, ↓kSeqL_at, ↓K_bodyG_nm, ↓K_bodyG_tp, ↓K_sWhile, ↓kComp_at, ↓K_comp, ↓K_compM, ↓kLst_at, ↓kLstM_at, ↓kEx_at, ↓K_exG_nm, ↓K_exG_tp, ↓kAlc_at, ↓K_opNM, ↓kOpNM_at, ↓KN_list_l2, ↓KN_list_t2, ↓KN_list_c, ↓kListL_at, ↓K_op2M, ↓kOp2Ma_at, ↓kOp2Mb_at, ↓K2_rep1, ↓K_prE_n, ↓K_prE_c, ↓kPr1_at, ↓kPr2_at, ↓kPr3_at, ↓K_dspE, ↓kDsp_s1, ↓kDsp_s2, ↓kDsp_s3, ↓kDsp_s4, ↓K_frz, ↓kFrz_c, ↓kFrz_l, ↓kFrz_t, ↓kFrz_n, ↓kFrzL_at, ↓K_extE, ↓kExt1_at, ↓kExt1b_at, ↓kExt2_at, ↓kExt3_at, ↓K_mt0E, ↓kMt0_at, ↓kMt0L_clear, ↓kMt0L_rev, ↓K2_in_t, ↓K2_in_f, ↓K2_notIn_t, ↓K2_notIn_f, ↓K_itZp, ↓kZp1_at, ↓K_itEn, ↓kEnI_t, ↓kEnI_l, ↓K2_din_i, ↓kDinD_at, ↓KR_put_0, ↓KR_put_1, ↓KR_put_2, ↓KR_put_l, ↓KR_put_into, ↓KR_put_end, ↓KR_put_looked, ↓KR_put_cut, ↓KR_move_0, ↓KR_move_1, ↓KR_move_2, ↓KR_move_l, ↓KR_move_into, ↓KR_move_end, ↓KR_move_looked, ↓KR_move_cut, ↓KR_add_0, ↓KR_add_1, ↓KR_add_2, ↓KR_add_3, ↓KR_add_l, ↓KR_add_into, ↓KR_add_end, ↓KR_add_looked, ↓KR_add_cut, ↓KR_take_0, ↓KR_take_1, ↓KR_take_2, ↓KR_take_3, ↓KR_take_l, ↓KR_take_into, ↓KR_take_end, ↓KR_take_looked, ↓KR_take_cut, ↓KR_times_0, ↓KR_times_1, ↓KR_times_2, ↓KR_times_3, ↓KR_times_l, ↓KR_times_into, ↓KR_times_end, ↓KR_times_looked, ↓KR_times_cut, ↓KR_get_0, ↓KR_get_1, ↓KR_get_2, ↓KR_get_l, ↓KR_get_into, ↓KR_get_end, ↓KR_get_looked, ↓KR_get_cut, ↓KR_set_0, ↓KR_set_1, ↓KR_set_2, ↓KR_set_l, ↓KR_set_into, ↓KR_set_end, ↓KR_set_looked, ↓KR_set_cut, ↓KR_say_0, ↓KR_say_1, ↓KR_say_l, ↓KR_say_into, ↓KR_say_end, ↓KR_say_looked, ↓KR_say_cut, ↓KR_rest_0, ↓KR_rest_l, ↓KR_rest_into, ↓KR_rest_end, ↓KR_rest_looked, ↓KR_rest_cut, ↓KR_go_0, ↓KR_go_1, ↓KR_go_l, ↓KR_go_into, ↓KR_go_end, ↓KR_go_looked, ↓KR_go_cut, ↓KR_ifr_0, ↓KR_ifr_1, ↓KR_ifr_2, ↓KR_ifr_l, ↓KR_ifr_into, ↓KR_ifr_end, ↓KR_ifr_looked, ↓KR_ifr_cut, ↓KR_stop_0, ↓KR_stop_l, ↓KR_stop_into, ↓KR_stop_end, ↓KR_stop_looked, ↓KR_stop_cut, ↓KR_late, ↓KR_far, ↓KR_num, ↓KR_mill_0, ↓KR_mill_1, ↓KR_mill_2, ↓KR_mill_3, ↓KR_pi_len, ↓KA_stop, ↓KA_goes, ↓KA_ends, ↓K_mt1E, ↓kM1_l, ↓kM1_s, ↓kM1b_at, ↓K1_isi_c, ↓kIsiL_at, ↓KN_minl, start0, List.map_cons, List.map_nil, List.length_cons, List.length_nil, List.replicate_succ, List.replicate_zero, Nat.reduceSub, Nat.reduceAdd, wipeE, List.set_cons_zero, List.set_cons_succ, List.cons_append, List.nil_append, $as,*])
theorem parts8b {r : Row} {rows : Int} (hr : r.okB rows = true) : (∀ x y, r = .set x y → in8 x ∧ in8 y) ∧ (∀ x, r = .say x → in8 x) ∧ (∀ x y, r = .ifr x y → in8 x) := by
  have u := hr
  unfold Row.okB at u
  refine ⟨fun x y e => ?_, fun x e => ?_, fun x y e => ?_⟩
  all_goals
    subst e
    simp only [Row.parts, Row.sorts, List.zip_cons_cons, List.all_cons, Bool.and_eq_true, decide_eq_true_eq, most] at u
    unfold in8
    omega
section
variable {n0 : Nat} {m : Mem} {k : Ks} {p : List Row} {t : Mill} {b : Nat} {s : St} {gm : List (KeyS × D)}
end
end
end LB

set_option Elab.async false
set_option linter.all false
set_option autoImplicit false
set_option maxRecDepth 100000
set_option maxHeartbeats 1000000
/-! Pure: a whole run of the program. -/
namespace LB
open PySem
noncomputable section
local macro_rules | `(tactic| simp_arith [$as,*]) => `(tactic| simp -implicitDefEqProofs (disch := first | assumption | decide | omega | (simp only [List.length_cons, List.length_nil, Mem.put_n, Mem.new_n, Mem.kill_n]; omega)) only [↓KO_some, ↓K_vr, ↓kVr_0, ↓kVr_s, ↓K_cn, ↓K_pure, ↓K_op2, ↓kOp2a_at, ↓kOp2b_at, ↓K_op1, ↓kOp1_at, ↓K_argN, ↓K_argC, ↓kArg1_at, ↓kArg2_at, ↓K_opN, ↓kOpN_at, ↓K_call, ↓kCall_1, ↓kCall_2, ↓kCall_3, ↓kCall_4, ↓kCall_5, ↓K_tpl, ↓K_lsl, ↓K_lsm, ↓K_dctE, ↓kTpl_0, ↓kTpl_1, ↓kTpl_2, ↓kTpl_3, ↓kTpl_4, ↓kTpl_5, ↓kLsl_0, ↓kLsl_1, ↓kLsl_2, ↓kLsl_3, ↓kLsl_4, ↓kLsm_0, ↓K_tV, ↓kTV_at, ↓K_tAnd, ↓kTAnd_t, ↓kTAnd_f, ↓K_tOr, ↓kTOr_t, ↓kTOr_f, ↓K_tNot, ↓kTNot_t, ↓kTNot_f, ↓kTNot_at, ↓K_tYes, ↓K_vAnd, ↓kVAnd_t, ↓kVAnd_f, ↓K_vOr, ↓kVOr_t, ↓kVOr_f, ↓K_vNot, ↓kVNot_at, ↓K_ifE, ↓kIfE_t, ↓kIfE_f, ↓K_chn, ↓kChn0_at, ↓kChn1_at, ↓kChn2_t, ↓kChn2_f, ↓K_soN, ↓K_soS, ↓kSoS_at, ↓K_slc, ↓kSlc0_at, ↓kSlc1_at, ↓kSlc2_at, ↓KSl_tup, ↓KSl_lst, ↓K_sNext, ↓K_sSeq, ↓kSeq_nx, ↓kSeq_rt, ↓K_sRet, ↓kRet_at, ↓K_sRetN, ↓K_sExp, ↓kExp_at, ↓K_sIf, ↓kIf_t, ↓kIf_f, ↓kSet_0, ↓kSet_s, ↓kUn_c, ↓kUn_n, ↓K_sAsg, ↓kAsg_nm, ↓kAsg_tp, ↓kNms_c, ↓kNmsC_at, ↓kNms_n, ↓K_sPar, ↓kPar1_at, ↓kPar2_at, ↓K_run, ↓kRun_rt, ↓kRun_nx, ↓K2_add_i, ↓K2_sub_i, ↓K2_mul_i, ↓K2_mod_i, ↓K2_fdiv_i, ↓K2_lt_i, ↓K2_le_i, ↓K2_gt_i, ↓K2_ge_i, ↓K2_eq_i, ↓K2_ne_i, ↓K2_eq_st, ↓K2_eq_sf, ↓K2_ne_st, ↓K2_ne_sf, ↓K2_eq_b, ↓K2_add_t, ↓K2_add_l, ↓K1_neg_i, ↓K2_isN_n, ↓K2_isN_i, ↓K2_isN_s, ↓K2_isN_t, ↓K2_isN_l, ↓K2_isN_c, ↓K2_notN_n, ↓K2_notN_i, ↓K2_notN_s, ↓K2_notN_t, ↓K2_notN_l, ↓K2_notN_c, ↓K2_ix_t, ↓K2_ix_l, ↓KIx_0, ↓KIx_1, ↓KIx_2, ↓KIx_3, ↓KIx_4, ↓KIx_m1a, ↓KIx_m1b, ↓KIx_m1c, ↓KIx_m1d, ↓KN_len_t, ↓KN_len_l, ↓KN_max2, ↓KN_min2, ↓KN_int_i, ↓KN_int_t, ↓KN_int_f, ↓KN_tuple_l, ↓KN_tuple_t, ↓KN_maxl, ↓KN_suml, ↓K1_isi_n, ↓K1_isi_b, ↓K1_isi_i, ↓K1_isi_s, ↓K1_isi_t, ↓K1_isi_l, ↓KG_put_eq, ↓KG_put_ne, ↓KG_new_eq, ↓KG_new_ne, ↓KG_kill_ne, ↓K2_ix_c, ↓kIxL_at, ↓KN_len_c, ↓kLenL_l, ↓kLenL_d, ↓KN_tuple_c, ↓kTupL_at, ↓KN_max_c, ↓kMaxL_at, ↓KSl_c, ↓kSlL_at, ↓K_appE, ↓kApp1_at, ↓kApp1b_at, ↓kApp2_at, ↓kApp3_at, ↓K_sLput, ↓kPut1_at, ↓kPut2_at, ↓kPut3_at, ↓kPut4_at, ↓K2_dget_i, ↓K2_dget_s, ↓kDgD_at, ↓KVk_eq, ↓KVk_ne, ↓KVd_eq, ↓KVd_ne, ↓KVd_n, ↓K_dget2, ↓kDg1_at, ↓kDg1b_at, ↓kDg2_at, ↓kDg3_at, ↓kDg4_i, ↓kDg4_s, ↓K_sDput, ↓kDp1_at, ↓kDp2_at, ↓kDp3_i, ↓kDp3_s, ↓kDp4_at, ↓K1_fld, ↓kFldO_at, ↓KFl_eq, ↓KFl_ne, ↓K_sFput, ↓kFp1_at, ↓kFp2_at, ↓kFp3_at, ↓kPf_n, ↓kPf_eq, ↓kPu_c, ↓kPu_n, ↓kPf_ne, ↓K_callM, ↓kMt1_at, ↓kMt2_at, ↓kNo_n, ↓kNo_c, ↓kMt3_0, ↓kMt3_1, ↓kMt3_2, ↓kMt3_3, ↓kMt3_4, ↓K_mkE, ↓kMk_1, ↓kMk_2, ↓kMk_3, ↓kMk2_at, ↓K_sFor, ↓kFor_at, ↓K_itRng1, ↓kRng1_nat, ↓K_itRng2, ↓kRng2_at, ↓K_itSeq, ↓kSeqI_t, ↓kSeqI_l, ↓kSeqI_c, ↓kSeqL_at, ↓K_bodyG_nm, ↓K_bodyG_tp, ↓K_sWhile, ↓kComp_at, ↓K_comp, ↓K_compM, ↓kLst_at, ↓kLstM_at, ↓kEx_at, ↓K_exG_nm, ↓K_exG_tp, ↓kAlc_at, ↓K_opNM, ↓kOpNM_at, ↓KN_list_l2, ↓KN_list_t2, ↓KN_list_c, ↓kListL_at, ↓K_op2M, ↓kOp2Ma_at, ↓kOp2Mb_at, ↓K2_rep1, ↓K_prE_n, ↓K_prE_c, ↓kPr1_at, ↓kPr2_at, ↓kPr3_at, ↓K_dspE, ↓kDsp_s1, ↓kDsp_s2, ↓kDsp_s3, ↓kDsp_s4, ↓K_frz, ↓kFrz_c, ↓kFrz_l, ↓kFrz_t, ↓kFrz_n, ↓kFrzL_at, ↓K_extE, ↓kExt1_at, ↓kExt1b_at, ↓kExt2_at, ↓kExt3_at, ↓K_mt0E, ↓kMt0_at, ↓kMt0L_clear, ↓kMt0L_rev, ↓K2_in_t, ↓K2_in_f, ↓K2_notIn_t, ↓K2_notIn_f, ↓K_itZp, ↓kZp1_at, ↓K_itEn, ↓kEnI_t, ↓kEnI_l, ↓K2_din_i, ↓kDinD_at, ↓KR_put_0, ↓KR_put_1, ↓KR_put_2, ↓KR_put_l, ↓KR_put_into, ↓KR_put_end, ↓KR_put_looked, ↓KR_put_cut, ↓KR_move_0, ↓KR_move_1, ↓KR_move_2, ↓KR_move_l, ↓KR_move_into, ↓KR_move_end, ↓KR_move_looked, ↓KR_move_cut, ↓KR_add_0, ↓KR_add_1, ↓KR_add_2, ↓KR_add_3, ↓KR_add_l, ↓KR_add_into, ↓KR_add_end, ↓KR_add_looked, ↓KR_add_cut, ↓KR_take_0, ↓KR_take_1, ↓KR_take_2, ↓KR_take_3, ↓KR_take_l, ↓KR_take_into, ↓KR_take_end, ↓KR_take_looked, ↓KR_take_cut, ↓KR_times_0, ↓KR_times_1, ↓KR_times_2, ↓KR_times_3, ↓KR_times_l, ↓KR_times_into, ↓KR_times_end, ↓KR_times_looked, ↓KR_times_cut, ↓KR_get_0, ↓KR_get_1, ↓KR_get_2, ↓KR_get_l, ↓KR_get_into, ↓KR_get_end, ↓KR_get_looked, ↓KR_get_cut, ↓KR_set_0, ↓KR_set_1, ↓KR_set_2, ↓KR_set_l, ↓KR_set_into, ↓KR_set_end, ↓KR_set_looked, ↓KR_set_cut, ↓KR_say_0, ↓KR_say_1, ↓KR_say_l, ↓KR_say_into, ↓KR_say_end, ↓KR_say_looked, ↓KR_say_cut, ↓KR_rest_0, ↓KR_rest_l, ↓KR_rest_into, ↓KR_rest_end, ↓KR_rest_looked, ↓KR_rest_cut, ↓KR_go_0, ↓KR_go_1, ↓KR_go_l, ↓KR_go_into, ↓KR_go_end, ↓KR_go_looked, ↓KR_go_cut, ↓KR_ifr_0, ↓KR_ifr_1, ↓KR_ifr_2, ↓KR_ifr_l, ↓KR_ifr_into, ↓KR_ifr_end, ↓KR_ifr_looked, ↓KR_ifr_cut, ↓KR_stop_0, ↓KR_stop_l, ↓KR_stop_into, ↓KR_stop_end, ↓KR_stop_looked, ↓KR_stop_cut, ↓KR_late, ↓KR_far, ↓KR_num, ↓KR_mill_0, ↓KR_mill_1, ↓KR_mill_2, ↓KR_mill_3, ↓KR_pi_len, ↓KA_stop, ↓KA_goes, ↓KA_ends, ↓K_mt1E, ↓kM1_l, ↓kM1_s, ↓kM1b_at, ↓K1_isi_c, ↓kIsiL_at, ↓KN_minl, start0, List.map_cons, List.map_nil, List.length_cons, List.length_nil, List.replicate_succ, List.replicate_zero, Nat.reduceSub, Nat.reduceAdd, wipeE, List.set_cons_zero, List.set_cons_succ, List.cons_append, List.nil_append, $as,*])
/-- a run's state behind b beats -/
structure RunI (p : List Row) (b : Nat) (s : St) : Prop where
  ok : StOk p s
  here : s.fin = none → s.here < p.length
  com : s.com.length ≤ b
  said : s.said.length ≤ b
theorem act_lens (t : Mill) (b : Int) (r : Row) (s : St) : (s.act t b r).com.length ≤ s.com.length + 1 ∧ (s.act t b r).said.length ≤ s.said.length + 1 := by
  cases r <;> simp only [St.act, Row.into, List.length_append, List.length_singleton] <;> first
    | omega
    | (split <;> exact ⟨Nat.le_succ _, Nat.le_succ _⟩)
theorem RunI.step {p : List Row} {t : Mill} {b : Nat} {s : St} (h : RunI p b s) (hp : ∀ r, r ∈ p → r.okB p.length = true) (hf : s.fin = none) : RunI p (b + 1) (s.step p t b (rowAt p s.here)) := by
  have hh := h.here hf
  have hr := rowAt_of hh
  have hro := hp _ (List.mem_of_getElem? hr)
  have ha := act_ok (t := t) (b := b) (h.ok.lay (b := b)) hro
  obtain ⟨l1, l2⟩ := act_lens t b (rowAt p s.here) (s.lay b)
  have l3 : (s.lay b).com.length ≤ s.com.length := List.length_filter_le _ _
  have hc := h.com
  have hs := h.said
  have eh : ((s.lay b).act t b (rowAt p s.here)).here = s.here := by
    cases rowAt p s.here <;> first
      | rfl
      | (simp only [St.act]; split <;> rfl)
  refine ⟨⟨ha.cl, ha.bl, ha.cn, ha.bn, ha.cm, ha.go⟩, fun hn => ?_, ?_, ?_⟩
  · show (((s.lay b).act t b (rowAt p s.here)).go (b + 1)).getD (((s.lay b).act t b (rowAt p s.here)).here + 1) < p.length
    have hn2 : (if (rowAt p s.here).stops = true then some (Str.ofString "stop") else if (((s.lay b).act t b (rowAt p s.here)).go (b + 1)).getD (((s.lay b).act t b (rowAt p s.here)).here + 1) = p.length then some (Str.ofString "end") else none) = none := hn
    split at hn2
    · cases hn2
    · split at hn2
      · cases hn2
      · rename_i h1 h2
        rw [eh] at h2 ⊢
        cases hg : ((s.lay b).act t b (rowAt p s.here)).go (b + 1) with
        | none =>
          rw [hg] at h2
          simp only [Option.getD_none] at h2 ⊢
          omega
        | some g =>
          exact ha.go _ _ hg
  · show ((s.lay b).act t b (rowAt p s.here)).com.length ≤ b + 1
    omega
  · show ((s.lay b).act t b (rowAt p s.here)).said.length ≤ b + 1
    have l4 : (s.lay b).said.length = s.said.length := rfl
    omega
/-- on, n beats at the most -/
def goOn (p : List Row) (t : Mill) : Nat → Nat → St → Nat × St
  | 0, b, s => (b, s)
  | n + 1, b, s => match s.fin with
    | none => goOn p t n (b + 1) (s.step p t b (rowAt p s.here))
    | some _ => (b, s)
theorem goOn_some {p : List Row} {t : Mill} {n b : Nat} {s : St} (h : s.fin ≠ none) : goOn p t n b s = (b, s) := by
  cases n with
  | zero => rfl
  | succ n =>
    unfold goOn
    split
    · rename_i h2
      exact (h h2).elim
    · rfl
theorem goOn_none {p : List Row} {t : Mill} {n b : Nat} {s : St} (h : s.fin = none) : goOn p t (n + 1) b s = goOn p t n (b + 1) (s.step p t b (rowAt p s.here)) := by
  rw [goOn, h]
def St0 (cs : List Int) : St := ⟨cs, List.replicate 8 0, [], fun _ => none, 0, [], none⟩
def endZ (o : Option Str) : Str := match o with
  | some z => z
  | none => Str.ofString "long"
structure Ended (p : List Row) (t : Mill) (cs : List Int) (fuel : Nat) (n0 : Nat) (m0 : Mem) (d : D) (m : Mem) : Prop where
  at_ : ∃ ks kc, d = .tup [.loc ks, .str (endZ (goOn p t fuel 0 (St0 cs)).2.fin), .int (goOn p t fuel 0 (St0 cs)).1, .loc kc] ∧ n0 ≤ ks ∧ n0 ≤ kc ∧ ks ≠ kc ∧ ks < m.n ∧ kc < m.n ∧ m.get ks = some (.lst ((goOn p t fuel 0 (St0 cs)).2.said.map D.int)) ∧ m.get kc = some (.lst ((goOn p t fuel 0 (St0 cs)).2.cells.map D.int))
  old : ∀ j, j < n0 → m.get j = m0.get j
  n : n0 ≤ m.n
end
end LB

set_option Elab.async false
set_option linter.all false
set_option autoImplicit false
set_option maxRecDepth 100000
set_option maxHeartbeats 2000000
/-! Pure: the law's own run, beat by beat. -/
namespace LB
open PySem
noncomputable section
local macro_rules | `(tactic| simp_arith [$as,*]) => `(tactic| simp -implicitDefEqProofs (disch := first | assumption | decide | omega | (simp only [List.length_cons, List.length_nil, Mem.put_n, Mem.new_n, Mem.kill_n]; omega)) only [↓KO_some, ↓K_vr, ↓kVr_0, ↓kVr_s, ↓K_cn, ↓K_pure, ↓K_op2, ↓kOp2a_at, ↓kOp2b_at, ↓K_op1, ↓kOp1_at, ↓K_argN, ↓K_argC, ↓kArg1_at, ↓kArg2_at, ↓K_opN, ↓kOpN_at, ↓K_call, ↓kCall_1, ↓kCall_2, ↓kCall_3, ↓kCall_4, ↓kCall_5, ↓K_tpl, ↓K_lsl, ↓K_lsm, ↓K_dctE, ↓kTpl_0, ↓kTpl_1, ↓kTpl_2, ↓kTpl_3, ↓kTpl_4, ↓kTpl_5, ↓kLsl_0, ↓kLsl_1, ↓kLsl_2, ↓kLsl_3, ↓kLsl_4, ↓kLsm_0, ↓K_tV, ↓kTV_at, ↓K_tAnd, ↓kTAnd_t, ↓kTAnd_f, ↓K_tOr, ↓kTOr_t, ↓kTOr_f, ↓K_tNot, ↓kTNot_t, ↓kTNot_f, ↓kTNot_at, ↓K_tYes, ↓K_vAnd, ↓kVAnd_t, ↓kVAnd_f, ↓K_vOr, ↓kVOr_t, ↓kVOr_f, ↓K_vNot, ↓kVNot_at, ↓K_ifE, ↓kIfE_t, ↓kIfE_f, ↓K_chn, ↓kChn0_at, ↓kChn1_at, ↓kChn2_t, ↓kChn2_f, ↓K_soN, ↓K_soS, ↓kSoS_at, ↓K_slc, ↓kSlc0_at, ↓kSlc1_at, ↓kSlc2_at, ↓KSl_tup, ↓KSl_lst, ↓K_sNext, ↓K_sSeq, ↓kSeq_nx, ↓kSeq_rt, ↓K_sRet, ↓kRet_at, ↓K_sRetN, ↓K_sExp, ↓kExp_at, ↓K_sIf, ↓kIf_t, ↓kIf_f, ↓kSet_0, ↓kSet_s, ↓kUn_c, ↓kUn_n, ↓K_sAsg, ↓kAsg_nm, ↓kAsg_tp, ↓kNms_c, ↓kNmsC_at, ↓kNms_n, ↓K_sPar, ↓kPar1_at, ↓kPar2_at, ↓K_run, ↓kRun_rt, ↓kRun_nx, ↓K2_add_i, ↓K2_sub_i, ↓K2_mul_i, ↓K2_mod_i, ↓K2_fdiv_i, ↓K2_lt_i, ↓K2_le_i, ↓K2_gt_i, ↓K2_ge_i, ↓K2_eq_i, ↓K2_ne_i, ↓K2_eq_st, ↓K2_eq_sf, ↓K2_ne_st, ↓K2_ne_sf, ↓K2_eq_b, ↓K2_add_t, ↓K2_add_l, ↓K1_neg_i, ↓K2_isN_n, ↓K2_isN_i, ↓K2_isN_s, ↓K2_isN_t, ↓K2_isN_l, ↓K2_isN_c, ↓K2_notN_n, ↓K2_notN_i, ↓K2_notN_s, ↓K2_notN_t, ↓K2_notN_l, ↓K2_notN_c, ↓K2_ix_t, ↓K2_ix_l, ↓KIx_0, ↓KIx_1, ↓KIx_2, ↓KIx_3, ↓KIx_4, ↓KIx_m1a, ↓KIx_m1b, ↓KIx_m1c, ↓KIx_m1d, ↓KN_len_t, ↓KN_len_l, ↓KN_max2, ↓KN_min2, ↓KN_int_i, ↓KN_int_t, ↓KN_int_f, ↓KN_tuple_l, ↓KN_tuple_t, ↓KN_maxl, ↓KN_suml, ↓K1_isi_n, ↓K1_isi_b, ↓K1_isi_i, ↓K1_isi_s, ↓K1_isi_t, ↓K1_isi_l, ↓KG_put_eq, ↓KG_put_ne, ↓KG_new_eq, ↓KG_new_ne, ↓KG_kill_ne, ↓K2_ix_c, ↓kIxL_at, ↓KN_len_c, ↓kLenL_l, ↓kLenL_d, ↓KN_tuple_c, ↓kTupL_at, ↓KN_max_c, ↓kMaxL_at, ↓KSl_c, ↓kSlL_at, ↓K_appE, ↓kApp1_at, ↓kApp1b_at, ↓kApp2_at, ↓kApp3_at, ↓K_sLput, ↓kPut1_at, ↓kPut2_at, ↓kPut3_at, ↓kPut4_at, ↓K2_dget_i, ↓K2_dget_s, ↓kDgD_at, ↓KVk_eq, ↓KVk_ne, ↓KVd_eq, ↓KVd_ne, ↓KVd_n, ↓K_dget2, ↓kDg1_at, ↓kDg1b_at, ↓kDg2_at, ↓kDg3_at, ↓kDg4_i, ↓kDg4_s, ↓K_sDput, ↓kDp1_at, ↓kDp2_at, ↓kDp3_i, ↓kDp3_s, ↓kDp4_at, ↓K1_fld, ↓kFldO_at, ↓KFl_eq, ↓KFl_ne, ↓K_sFput, ↓kFp1_at, ↓kFp2_at, ↓kFp3_at, ↓kPf_n, ↓kPf_eq, ↓kPu_c, ↓kPu_n, ↓kPf_ne, ↓K_callM, ↓kMt1_at, ↓kMt2_at, ↓kNo_n, ↓kNo_c, ↓kMt3_0, ↓kMt3_1, ↓kMt3_2, ↓kMt3_3, ↓kMt3_4, ↓K_mkE, ↓kMk_1, ↓kMk_2, ↓kMk_3, ↓kMk2_at, ↓K_sFor, ↓kFor_at, ↓K_itRng1, ↓kRng1_nat, ↓K_itRng2, ↓kRng2_at, ↓K_itSeq, ↓kSeqI_t, ↓kSeqI_l, ↓kSeqI_c, ↓kSeqL_at, ↓K_bodyG_nm, ↓K_bodyG_tp, ↓K_sWhile, ↓kComp_at, ↓K_comp, ↓K_compM, ↓kLst_at, ↓kLstM_at, ↓kEx_at, ↓K_exG_nm, ↓K_exG_tp, ↓kAlc_at, ↓K_opNM, ↓kOpNM_at, ↓KN_list_l2, ↓KN_list_t2, ↓KN_list_c, ↓kListL_at, ↓K_op2M, ↓kOp2Ma_at, ↓kOp2Mb_at, ↓K2_rep1, ↓K_prE_n, ↓K_prE_c, ↓kPr1_at, ↓kPr2_at, ↓kPr3_at, ↓K_dspE, ↓kDsp_s1, ↓kDsp_s2, ↓kDsp_s3, ↓kDsp_s4, ↓K_frz, ↓kFrz_c, ↓kFrz_l, ↓kFrz_t, ↓kFrz_n, ↓kFrzL_at, ↓K_extE, ↓kExt1_at, ↓kExt1b_at, ↓kExt2_at, ↓kExt3_at, ↓K_mt0E, ↓kMt0_at, ↓kMt0L_clear, ↓kMt0L_rev, ↓K2_in_t, ↓K2_in_f, ↓K2_notIn_t, ↓K2_notIn_f, ↓K_itZp, ↓kZp1_at, ↓K_itEn, ↓kEnI_t, ↓kEnI_l, ↓K2_din_i, ↓kDinD_at, ↓KR_put_0, ↓KR_put_1, ↓KR_put_2, ↓KR_put_l, ↓KR_put_into, ↓KR_put_end, ↓KR_put_looked, ↓KR_put_cut, ↓KR_move_0, ↓KR_move_1, ↓KR_move_2, ↓KR_move_l, ↓KR_move_into, ↓KR_move_end, ↓KR_move_looked, ↓KR_move_cut, ↓KR_add_0, ↓KR_add_1, ↓KR_add_2, ↓KR_add_3, ↓KR_add_l, ↓KR_add_into, ↓KR_add_end, ↓KR_add_looked, ↓KR_add_cut, ↓KR_take_0, ↓KR_take_1, ↓KR_take_2, ↓KR_take_3, ↓KR_take_l, ↓KR_take_into, ↓KR_take_end, ↓KR_take_looked, ↓KR_take_cut, ↓KR_times_0, ↓KR_times_1, ↓KR_times_2, ↓KR_times_3, ↓KR_times_l, ↓KR_times_into, ↓KR_times_end, ↓KR_times_looked, ↓KR_times_cut, ↓KR_get_0, ↓KR_get_1, ↓KR_get_2, ↓KR_get_l, ↓KR_get_into, ↓KR_get_end, ↓KR_get_looked, ↓KR_get_cut, ↓KR_set_0, ↓KR_set_1, ↓KR_set_2, ↓KR_set_l, ↓KR_set_into, ↓KR_set_end, ↓KR_set_looked, ↓KR_set_cut, ↓KR_say_0, ↓KR_say_1, ↓KR_say_l, ↓KR_say_into, ↓KR_say_end, ↓KR_say_looked, ↓KR_say_cut, ↓KR_rest_0, ↓KR_rest_l, ↓KR_rest_into, ↓KR_rest_end, ↓KR_rest_looked, ↓KR_rest_cut, ↓KR_go_0, ↓KR_go_1, ↓KR_go_l, ↓KR_go_into, ↓KR_go_end, ↓KR_go_looked, ↓KR_go_cut, ↓KR_ifr_0, ↓KR_ifr_1, ↓KR_ifr_2, ↓KR_ifr_l, ↓KR_ifr_into, ↓KR_ifr_end, ↓KR_ifr_looked, ↓KR_ifr_cut, ↓KR_stop_0, ↓KR_stop_l, ↓KR_stop_into, ↓KR_stop_end, ↓KR_stop_looked, ↓KR_stop_cut, ↓KR_late, ↓KR_far, ↓KR_num, ↓KR_mill_0, ↓KR_mill_1, ↓KR_mill_2, ↓KR_mill_3, ↓KR_pi_len, ↓KA_stop, ↓KA_goes, ↓KA_ends, ↓K_mt1E, ↓kM1_l, ↓kM1_s, ↓kM1b_at, ↓K1_isi_c, ↓kIsiL_at, ↓KN_minl, start0, List.map_cons, List.map_nil, List.length_cons, List.length_nil, List.replicate_succ, List.replicate_zero, Nat.reduceSub, Nat.reduceAdd, wipeE, List.set_cons_zero, List.set_cons_succ, List.cons_append, List.nil_append, $as,*])
/-! ### the run -/
structure Ls where
  c : Nat
  b : Nat
  s : Nat
  d : Nat
  g : Nat
def dueL (i : Int) (com : List Cm) : List D := (com.filter fun q => decide (q.1 = i)).map fun q => D.tup [.int q.2.1, .int q.2.2]
structure LawR (n0 : Nat) (m : Mem) (l : Ls) (b : Int) (s : St) (dm gm : List (KeyS × D)) : Prop where
  ap : l.c ≠ l.b ∧ l.c ≠ l.s ∧ l.c ≠ l.d ∧ l.c ≠ l.g ∧ l.b ≠ l.s ∧ l.b ≠ l.d ∧ l.b ≠ l.g ∧ l.s ≠ l.d ∧ l.s ≠ l.g ∧ l.d ≠ l.g
  lo : n0 ≤ l.c ∧ n0 ≤ l.b ∧ n0 ≤ l.s ∧ n0 ≤ l.d ∧ n0 ≤ l.g
  hi : l.c < m.n ∧ l.b < m.n ∧ l.s < m.n ∧ l.d < m.n ∧ l.g < m.n
  cells : m.get l.c = some (.lst (s.cells.map D.int))
  boxes : m.get l.b = some (.lst (s.boxes.map D.int))
  said : m.get l.s = some (.lst (s.said.map D.int))
  due : m.get l.d = some (.dct dm)
  goes : m.get l.g = some (.dct gm)
  com : ∀ i : Int, b ≤ i → (valK dm (.inl i)).getD (.lst []) = .lst (dueL i s.com)
  go : ∀ i, valK gm (.inl i) = (s.go i).map fun x => D.int (x : Nat)
section
variable {n0 : Nat} {m : Mem} {l : Ls} {b : Int} {s : St} {dm gm : List (KeyS × D)}
theorem LawR.keep {m2 : Mem} (R : LawR n0 m l b s dm gm) (k : Keep m m2) : LawR n0 m2 l b s dm gm := by
  obtain ⟨h1, h2, h3, h4, h5⟩ := R.hi
  have hn := k.n
  exact ⟨R.ap, R.lo, ⟨by omega, by omega, by omega, by omega, by omega⟩, (k.at_ _ h1).trans R.cells, (k.at_ _ h2).trans R.boxes, (k.at_ _ h3).trans R.said, (k.at_ _ h4).trans R.due, (k.at_ _ h5).trans R.goes, R.com, R.go⟩
theorem dueL_lay {i b : Int} (com : List Cm) (h : b < i) : dueL i (layC b com) = dueL i com := by
  unfold dueL layC
  rw [List.filter_filter]
  congr 1
  congr 1
  funext q
  by_cases hq : q.1 = i
  · simp [hq, h]
  · simp [hq]
theorem LawR.lay (R : LawR n0 m l b s dm gm) : LawR n0 m l (b + 1) { s with com := layC b s.com } dm gm := ⟨R.ap, R.lo, R.hi, R.cells, R.boxes, R.said, R.due, R.goes, fun i hi => by rw [R.com i (by omega)]; exact congrArg _ (dueL_lay s.com (by omega)).symm, R.go⟩
end
section
variable {n0 : Nat} {m : Mem} {l : Ls} {b : Nat} {s : St} {dm gm : List (KeyS × D)} {p : List Row} {t : Mill} {fuel : Int}
end
end
end LB

set_option Elab.async false
set_option linter.all false
set_option autoImplicit false
set_option maxRecDepth 100000
set_option maxHeartbeats 2000000
/-! Pure: rows whose worths come at once: what they do, and which may change places. -/
namespace LB
open PySem
noncomputable section
structure MS where
  boxes : List Int
  cells : List Int
  said : List Int
def MS.bx (m : MS) (i : Int) : Int := m.boxes.getD i.toNat 0
def MS.worth (m : MS) : Row → Int
  | .put _ n => n
  | .move _ c => m.bx c
  | .get _ c => m.cells.getD (m.bx c % 16).toNat 0
  | .add _ c d => (m.bx c + m.bx d) % 1000
  | .take _ c d => (m.bx c - m.bx d) % 1000
  | .times _ c d => (m.bx c * m.bx d) % 1000
  | _ => 0
def exeR (r : Row) (m : MS) : MS := match r with
  | .set x y => { m with cells := m.cells.set (m.bx x % 16).toNat (m.bx y) }
  | .say x => { m with said := m.said ++ [m.bx x] }
  | r => match r.into with
    | some g => { m with boxes := m.boxes.set g.toNat (m.worth r) }
    | none => m
def Row.isSet : Row → Bool
  | .set .. => true
  | _ => false
def Row.isGet : Row → Bool
  | .get .. => true
  | _ => false
def Row.isSay : Row → Bool
  | .say .. => true
  | _ => false
/-- two rows that may not change places -/
def clash (r s : Row) : Prop :=
  (∃ g, r.into = some g ∧ (∃ c, c ∈ s.looks ∧ c.toNat = g.toNat)) ∨ (∃ g h, r.into = some g ∧ s.into = some h ∧ g.toNat = h.toNat) ∨ (∃ g, s.into = some g ∧ (∃ c, c ∈ r.looks ∧ c.toNat = g.toNat)) ∨
  (r.isSet = true ∧ s.isGet = true) ∨ (r.isGet = true ∧ s.isSet = true) ∨ (r.isSet = true ∧ s.isSet = true) ∨ (r.isSay = true ∧ s.isSay = true)
theorem clash_symm {r s : Row} (h : clash r s) : clash s r := by
  rcases h with ⟨g, h1, c, h2, h3⟩ | ⟨g, h, h1, h2, h3⟩ | ⟨g, h1, c, h2, h3⟩ | ⟨h1, h2⟩ | ⟨h1, h2⟩ | ⟨h1, h2⟩ | ⟨h1, h2⟩
  · exact .inr (.inr (.inl ⟨g, h1, c, h2, h3⟩))
  · exact .inr (.inl ⟨h, g, h2, h1, h3.symm⟩)
  · exact .inl ⟨g, h1, c, h2, h3⟩
  · exact .inr (.inr (.inr (.inr (.inl ⟨h2, h1⟩))))
  · exact .inr (.inr (.inr (.inl ⟨h2, h1⟩)))
  · exact .inr (.inr (.inr (.inr (.inr (.inl ⟨h2, h1⟩)))))
  · exact .inr (.inr (.inr (.inr (.inr (.inr ⟨h2, h1⟩)))))
/-- what a row changes of the boxes -/
theorem exe_boxes (r : Row) (m : MS) : (exeR r m).boxes = match r.into with
    | some g => m.boxes.set g.toNat (m.worth r)
    | none => m.boxes := by cases r <;> rfl
theorem exe_cells (r : Row) (m : MS) : (exeR r m).cells = match r with
    | .set x y => m.cells.set (m.bx x % 16).toNat (m.bx y)
    | _ => m.cells := by cases r <;> rfl
theorem exe_bx {r : Row} {c : Int} (h : ∀ g, r.into = some g → c.toNat ≠ g.toNat) (m : MS) : (exeR r m).bx c = m.bx c := by
  unfold MS.bx
  rw [exe_boxes]
  cases hi : r.into with
  | none => rfl
  | some g =>
    show (m.boxes.set g.toNat _).getD c.toNat 0 = _
    rw [List.getD_eq_getElem?_getD, List.getD_eq_getElem?_getD, List.getElem?_set_ne (fun e => h g hi e.symm)]
theorem worthM_same {r s : Row} (h1 : ∀ g, r.into = some g → ∀ c, c ∈ s.looks → c.toNat ≠ g.toNat) (h2 : ¬ (r.isSet = true ∧ s.isGet = true)) (m : MS) : (exeR r m).worth s = m.worth s := by
  have hb : ∀ c, c ∈ s.looks → (exeR r m).bx c = m.bx c := fun c hc => exe_bx (fun g hg => h1 g hg c hc) m
  cases s with
  | put b n => rfl
  | move b c => exact hb c (by simp [Row.looks])
  | add b c d => show ((exeR r m).bx c + (exeR r m).bx d) % 1000 = _; rw [hb c (by simp [Row.looks]), hb d (by simp [Row.looks])]; rfl
  | take b c d => show ((exeR r m).bx c - (exeR r m).bx d) % 1000 = _; rw [hb c (by simp [Row.looks]), hb d (by simp [Row.looks])]; rfl
  | times b c d => show ((exeR r m).bx c * (exeR r m).bx d) % 1000 = _; rw [hb c (by simp [Row.looks]), hb d (by simp [Row.looks])]; rfl
  | get b c =>
    show (exeR r m).cells.getD ((exeR r m).bx c % 16).toNat 0 = m.cells.getD (m.bx c % 16).toNat 0
    rw [hb c (by simp [Row.looks]), exe_cells]
    cases r <;> first
      | rfl
      | exact (h2 ⟨rfl, rfl⟩).elim
  | set x y => rfl
  | say x => rfl
  | rest => rfl
  | go g => rfl
  | ifr x g => rfl
  | stop => rfl
theorem cells_no {r : Row} (h : r.isSet = false) (m : MS) : (exeR r m).cells = m.cells := by
  cases r <;> first
    | rfl
    | cases h
theorem said_no {r : Row} (h : r.isSay = false) (m : MS) : (exeR r m).said = m.said := by
  cases r <;> first
    | rfl
    | cases h
theorem cells_yes {r s : Row} (hr : r.isSet = false) (hb : ∀ c, c ∈ s.looks → ∀ m : MS, (exeR r m).bx c = m.bx c) (m : MS) : (exeR s (exeR r m)).cells = (exeR s m).cells := by
  cases s with
  | set x y =>
    show (exeR r m).cells.set ((exeR r m).bx x % 16).toNat ((exeR r m).bx y) = m.cells.set (m.bx x % 16).toNat (m.bx y)
    rw [cells_no hr, hb x (by simp [Row.looks]), hb y (by simp [Row.looks])]
  | _ =>
    exact cells_no hr m
theorem said_yes {r s : Row} (hr : r.isSay = false) (hb : ∀ c, c ∈ s.looks → ∀ m : MS, (exeR r m).bx c = m.bx c) (m : MS) : (exeR s (exeR r m)).said = (exeR s m).said := by
  cases s with
  | say x =>
    show (exeR r m).said ++ [(exeR r m).bx x] = m.said ++ [m.bx x]
    rw [said_no hr, hb x (by simp [Row.looks])]
  | _ =>
    exact said_no hr m
theorem exe_comm {r s : Row} (h : ¬ clash r s) (m : MS) : exeR s (exeR r m) = exeR r (exeR s m) := by
  have a1 : ∀ g, r.into = some g → ∀ c, c ∈ s.looks → c.toNat ≠ g.toNat := fun g hg c hc e => h (.inl ⟨g, hg, c, hc, e⟩)
  have a2 : ∀ g, s.into = some g → ∀ c, c ∈ r.looks → c.toNat ≠ g.toNat := fun g hg c hc e => h (.inr (.inr (.inl ⟨g, hg, c, hc, e⟩)))
  have a3 : ∀ g k, r.into = some g → s.into = some k → g.toNat ≠ k.toNat := fun g k hg hk e => h (.inr (.inl ⟨g, k, hg, hk, e⟩))
  have a4 : ¬ (r.isSet = true ∧ s.isGet = true) := fun e => h (.inr (.inr (.inr (.inl e))))
  have a5 : ¬ (r.isGet = true ∧ s.isSet = true) := fun e => h (.inr (.inr (.inr (.inr (.inl e)))))
  have a6 : ¬ (r.isSet = true ∧ s.isSet = true) := fun e => h (.inr (.inr (.inr (.inr (.inr (.inl e))))))
  have a7 : ¬ (r.isSay = true ∧ s.isSay = true) := fun e => h (.inr (.inr (.inr (.inr (.inr (.inr e))))))
  have w1 := worthM_same a1 a4 m
  have w2 := worthM_same a2 (fun e => a5 ⟨e.2, e.1⟩) m
  have b1 : ∀ c, c ∈ s.looks → (exeR r m).bx c = m.bx c := fun c hc => exe_bx (fun g hg => a1 g hg c hc) m
  have b2 : ∀ c, c ∈ r.looks → (exeR s m).bx c = m.bx c := fun c hc => exe_bx (fun g hg => a2 g hg c hc) m
  have eB : (exeR s (exeR r m)).boxes = (exeR r (exeR s m)).boxes := by
    rw [exe_boxes, exe_boxes, exe_boxes r (exeR s m), exe_boxes s m, w1, w2]
    cases hr : r.into with
    | none => rfl
    | some g =>
      cases hs : s.into with
      | none => rfl
      | some k => exact List.set_comm _ _ (a3 g k hr hs)
  have c1 : ∀ c, c ∈ s.looks → ∀ m : MS, (exeR r m).bx c = m.bx c := fun c hc m => exe_bx (fun g hg => a1 g hg c hc) m
  have c2 : ∀ c, c ∈ r.looks → ∀ m : MS, (exeR s m).bx c = m.bx c := fun c hc m => exe_bx (fun g hg => a2 g hg c hc) m
  have eC : (exeR s (exeR r m)).cells = (exeR r (exeR s m)).cells := by
    cases hr : r.isSet with
    | false =>
      rw [cells_yes hr c1, cells_no hr]
    | true =>
      have hs : s.isSet = false := Bool.eq_false_iff.mpr fun e => a6 ⟨hr, e⟩
      rw [cells_yes hs c2, cells_no hs]
  have eS : (exeR s (exeR r m)).said = (exeR r (exeR s m)).said := by
    cases hr : r.isSay with
    | false =>
      rw [said_yes hr c1, said_no hr]
    | true =>
      have hs : s.isSay = false := Bool.eq_false_iff.mpr fun e => a7 ⟨hr, e⟩
      rw [said_yes hs c2, said_no hs]
  cases hx : exeR s (exeR r m)
  cases hy : exeR r (exeR s m)
  rw [hx, hy] at eB eC eS
  dsimp only at eB eC eS
  rw [eB, eC, eS]
/-- rows one behind the other -/
def exeL (rs : List Row) (m : MS) : MS := rs.foldl (fun m r => exeR r m) m
theorem exeL_cons (r : Row) (rs : List Row) (m : MS) : exeL (r :: rs) m = exeL rs (exeR r m) := rfl
theorem exeL_app (xs ys : List Row) (m : MS) : exeL (xs ++ ys) m = exeL ys (exeL xs m) := List.foldl_append ..
theorem exe_front {x : Row} : ∀ (as : List Row), (∀ a, a ∈ as → ¬ clash x a) → ∀ m, exeL as (exeR x m) = exeR x (exeL as m)
  | [], _, m => rfl
  | a :: as, h, m => by
    rw [exeL_cons, exeL_cons, ← exe_comm (fun e => h a List.mem_cons_self (clash_symm e)), exe_front as fun b hb => h b (List.mem_cons_of_mem _ hb)]
/-- rows by their starts: the same, if what clashes keeps its order -/
theorem exe_perm : ∀ (xs ys : List (Row × Int)), ys.Perm xs → xs.Pairwise (fun a b => clash a.1 b.1 → a.2 < b.2) → ys.Pairwise (fun a b => a.2 < b.2) → ∀ m, exeL (ys.map (·.1)) m = exeL (xs.map (·.1)) m
  | [], ys, hp, _, _, m => by
    rw [List.perm_nil.mp hp]
  | x :: xs, ys, hp, hx, hy, m => by
    have hm : x ∈ ys := hp.mem_iff.mpr List.mem_cons_self
    obtain ⟨as, bs, rfl⟩ := List.append_of_mem hm
    have hp2 : (as ++ bs).Perm xs := by
      have h1 : (as ++ x :: bs).Perm (x :: (as ++ bs)) := List.perm_middle
      exact (h1.symm.trans hp).cons_inv
    obtain ⟨hx1, hx2⟩ := List.pairwise_cons.mp hx
    have hy2 : (as ++ bs).Pairwise (fun a b => a.2 < b.2) := hy.sublist (List.append_sublist_append_left as |>.mpr (List.sublist_cons_self x bs))
    have hno : ∀ r, r ∈ as.map (·.1) → ¬ clash x.1 r := fun r hr e => by
      obtain ⟨a, ha, rfl⟩ := List.mem_map.mp hr
      have h1 := hx1 a (hp2.mem_iff.mp (List.mem_append_left _ ha)) e
      have h2 := (List.pairwise_append.mp hy).2.2 a ha x List.mem_cons_self
      omega
    have ih := exe_perm xs (as ++ bs) hp2 hx2 hy2 (exeR x.1 m)
    rw [List.map_append, List.map_cons, exeL_app, exeL_cons, List.map_cons, exeL_cons, ← ih, List.map_append, exeL_app, exe_front _ hno]
end
end LB

set_option Elab.async false
set_option linter.all false
set_option autoImplicit false
set_option maxRecDepth 100000
set_option maxHeartbeats 2000000
/-! The executor: dicts keyed by tuples, backwards, is of truth values. -/
namespace LB
open PySem
variable {α β γ : Type}
theorem K2_isB (a b : Bool) (m : Mem) (k : D → Mem → Rs β) : K2 gIsB (.bl a) (.bl b) m k = k (.bl (decide (a = b))) m := rfl
theorem K2_notB (a b : Bool) (m : Mem) (k : D → Mem → Rs β) : K2 gNotB (.bl a) (.bl b) m k = k (.bl (!decide (a = b))) m := rfl
theorem K1_rev_t (xs : List D) (m : Mem) (k : D → Mem → Rs β) : K1 gRev (.tup xs) m k = k (.tup xs.reverse) m := rfl
theorem K1_rev_l (xs : List D) (m : Mem) (k : D → Mem → Rs β) : K1 gRev (.lst xs) m k = k (.lst xs.reverse) m := rfl
theorem dcn_KG {α : Type} (c : Nat) (m : Mem) (f : List (NestedKey × D) → Option α) (k : α → Mem → Rs β) : KO ((dcnOf m (.loc c)).bind f) m k = KG c m m (fun o m => match o with
  | .dcn xs => KO (f xs) m k
  | _ => .bad) := by
  unfold KG
  show KO ((if c < m.n then (match m.get c with
    | some (.dcn xs) => some xs
    | _ => none) else none).bind f) m k = _
  by_cases h : c < m.n
  · rw [if_pos h, if_pos h]
    cases hg : m.get c with
    | none => rfl
    | some o => cases o <;> rfl
  · rw [if_neg h, if_neg h]
    rfl
/-- in, not in -/
def kNinD (x : D) (k : D → Mem → Rs β) : MO → Mem → Rs β := fun o m => match o with
  | .dcn kvs => KO ((tkOf x).map fun ky => .bl (valN kvs ky).isSome) m k
  | _ => .bad
def kNnotD (x : D) (k : D → Mem → Rs β) : MO → Mem → Rs β := fun o m => match o with
  | .dcn kvs => KO ((tkOf x).map fun ky => .bl (!(valN kvs ky).isSome)) m k
  | _ => .bad
theorem K2_nin (c : Nat) (x : D) (m : Mem) (k : D → Mem → Rs β) : K2 gNin x (.loc c) m k = KG c m m (kNinD x k) := dcn_KG c m (fun kvs => (tkOf x).map fun ky => D.bl (valN kvs ky).isSome) k
theorem K2_nnotin (c : Nat) (x : D) (m : Mem) (k : D → Mem → Rs β) : K2 gNnotin x (.loc c) m k = KG c m m (kNnotD x k) := dcn_KG c m (fun kvs => (tkOf x).map fun ky => D.bl (!(valN kvs ky).isSome)) k
theorem kNinD_of {x : D} {ky : NestedKey} (h : tkOf x = some ky) (k : D → Mem → Rs β) (kvs : List (NestedKey × D)) (m : Mem) : kNinD x k (.dcn kvs) m = k (.bl (valN kvs ky).isSome) m := by
  show KO ((tkOf x).map fun ky => D.bl (valN kvs ky).isSome) m k = _
  rw [h]
  rfl
theorem kNnotD_of {x : D} {ky : NestedKey} (h : tkOf x = some ky) (k : D → Mem → Rs β) (kvs : List (NestedKey × D)) (m : Mem) : kNnotD x k (.dcn kvs) m = k (.bl (!(valN kvs ky).isSome)) m := by
  show KO ((tkOf x).map fun ky => D.bl (!(valN kvs ky).isSome)) m k = _
  rw [h]
  rfl
/-- two numbers as a key -/
def pk (a b : Int) : NestedKey := .tup [.num a, .num b]
theorem tk_pk (a b : Int) : tkOf (.tup [.int a, .int b]) = some (pk a b) := rfl
theorem kNinD_pk (a b : Int) (k : D → Mem → Rs β) (kvs : List (NestedKey × D)) (m : Mem) : kNinD (.tup [.int a, .int b]) k (.dcn kvs) m = k (.bl (valN kvs (pk a b)).isSome) m := kNinD_of (tk_pk a b) k kvs m
theorem kNnotD_pk (a b : Int) (k : D → Mem → Rs β) (kvs : List (NestedKey × D)) (m : Mem) : kNnotD (.tup [.int a, .int b]) k (.dcn kvs) m = k (.bl (!(valN kvs (pk a b)).isSome)) m := kNnotD_of (tk_pk a b) k kvs m
/-! d.get(k, x) -/
def kNg4 (x : D) (key : D) (k : D → Mem → Rs β) : MO → Mem → Rs β := fun o m => match o with
  | .dcn kvs => KO ((tkOf key).map fun q => (valN kvs q).getD x) m k
  | _ => .bad
def kNg3 (c : Nat) (key : D) (k : D → Mem → Rs β) : D → Mem → Rs β := fun x m => KG c m m (kNg4 x key k)
def kNg2 (c : Nat) (x : SE) (ρ : Ev) (k : D → Mem → Rs β) : D → Mem → Rs β := fun key m => K (x ρ) m (kNg3 c key k)
def kNg1b (c : Nat) (i x : SE) (ρ : Ev) (k : D → Mem → Rs β) : MO → Mem → Rs β := fun o m => match o with
  | .dcn _ => K (i ρ) m (kNg2 c x ρ k)
  | _ => .bad
def kNg1 (i x : SE) (ρ : Ev) (k : D → Mem → Rs β) : D → Mem → Rs β := fun d m => match d with
  | .loc c => KG c m m (kNg1b c i x ρ k)
  | _ => .bad
theorem K_nget2 (d i x : SE) (ρ : Ev) (m : Mem) (k : D → Mem → Rs β) : K (nget2 d i x ρ) m k = K (d ρ) m (kNg1 i x ρ k) := by
  unfold nget2
  rw [K_bind]
  congr 1
  funext y m1
  rw [K_bind]
  cases y with
  | loc c =>
    have h1 : ∀ kk : Unit → Mem → Rs β, K (fun m => if isDcn m (.loc c) = true then Rs.ok () m else .bad) m1 kk = KO ((dcnOf m1 (.loc c)).bind fun _ => some ()) m1 kk := by
      intro kk
      cases hl : dcnOf m1 (.loc c) with
      | none => exact K_bad (by unfold isDcn; simp only [hl]; rfl) _
      | some xs => exact K_ok (x := ()) (m1 := m1) (by unfold isDcn; simp only [hl]; rfl) _
    rw [h1, dcn_KG]
    refine KG_congr fun o => ?_
    cases o with
    | lst _ => rfl
    | obj _ _ => rfl
    | dct _ => rfl
    | dcn xs =>
      show K (M.bind (i ρ) fun kk => M.bind (x ρ) fun xx => fun m => lift ((dcnOf m (.loc c)).bind fun kvs => (tkOf kk).map fun k => (valN kvs k).getD xx) m) m1 k = K (i ρ) m1 (kNg2 c x ρ k)
      rw [K_bind]
      congr 1
      funext a m2
      rw [K_bind]
      unfold kNg2
      congr 1
      funext b m3
      show K (lift ((dcnOf m3 (.loc c)).bind fun kvs => (tkOf a).map fun k => (valN kvs k).getD b)) m3 k = _
      rw [K_lift, dcn_KG]
      rfl
  | _ => rfl
theorem kNg1_at (i x : SE) (ρ : Ev) (k : D → Mem → Rs β) (c : Nat) (m : Mem) : kNg1 i x ρ k (.loc c) m = KG c m m (kNg1b c i x ρ k) := rfl
theorem kNg1b_at (c : Nat) (i x : SE) (ρ : Ev) (k : D → Mem → Rs β) (kvs : List (NestedKey × D)) (m : Mem) : kNg1b c i x ρ k (.dcn kvs) m = K (i ρ) m (kNg2 c x ρ k) := rfl
theorem kNg2_at (c : Nat) (x : SE) (ρ : Ev) (k : D → Mem → Rs β) (key : D) (m : Mem) : kNg2 c x ρ k key m = K (x ρ) m (kNg3 c key k) := rfl
theorem kNg3_at (c : Nat) (key : D) (k : D → Mem → Rs β) (x : D) (m : Mem) : kNg3 c key k x m = KG c m m (kNg4 x key k) := rfl
theorem kNg4_of {key : D} {ky : NestedKey} (h : tkOf key = some ky) (x : D) (k : D → Mem → Rs β) (kvs : List (NestedKey × D)) (m : Mem) : kNg4 x key k (.dcn kvs) m = k ((valN kvs ky).getD x) m := by
  show KO ((tkOf key).map fun q => (valN kvs q).getD x) m k = _
  rw [h]
  rfl
theorem kNg4_pk (x : D) (a b : Int) (k : D → Mem → Rs β) (kvs : List (NestedKey × D)) (m : Mem) : kNg4 x (.tup [.int a, .int b]) k (.dcn kvs) m = k ((valN kvs (pk a b)).getD x) m := kNg4_of (tk_pk a b) x k kvs m
/-! dict(pairs) -/
def kNdc (k : D → Mem → Rs β) : D → Mem → Rs β := fun d m => KO ((lstOf m d).bind prsOf) m fun kvs m => k (.loc m.n) (m.new (.dcn (mergeN [] kvs)))
theorem K_ndctE (a : SE) (ρ : Ev) (m : Mem) (k : D → Mem → Rs β) : K (ndctE a ρ) m k = K (a ρ) m (kNdc k) := by
  unfold ndctE
  rw [K_bind]
  congr 1
  funext d m1
  show K (ndctK d) m1 k = _
  unfold kNdc
  cases h : (lstOf m1 d).bind prsOf with
  | none => exact K_bad (by unfold ndctK; rw [h]) _
  | some kvs => exact K_ok (x := D.loc m1.n) (m1 := m1.new (.dcn (mergeN [] kvs))) (by unfold ndctK; rw [h]; rfl) _
/-! d[k] = v -/
def kNp4 (c : Nat) (key : NestedKey) (v : D) (ρ : Ev) (k : KS β) : MO → Mem → Rs β := fun o m => match o with
  | .dcn kvs => if kvs.length < sizeLine then k (.nx, ρ) (m.put c (.dcn (putN kvs key v))) else .bad
  | _ => .bad
def kNp3 (v d : D) (ρ : Ev) (k : KS β) : D → Mem → Rs β := fun kd m => match d, tkOf kd with
  | .loc c, some key => KG c m m (kNp4 c key v ρ k)
  | _, _ => .bad
def kNp2 (i : SE) (v : D) (ρ : Ev) (k : KS β) : D → Mem → Rs β := fun d m => K (i ρ) m (kNp3 v d ρ k)
def kNp1 (d i : SE) (ρ : Ev) (k : KS β) : D → Mem → Rs β := fun v m => K (d ρ) m (kNp2 i v ρ k)
theorem K_sNput (d i v : SE) (ρ : Ev) (m : Mem) (k : KS β) : K (sNput d i v ρ) m k = K (v ρ) m (kNp1 d i ρ k) := by
  unfold sNput
  rw [K_bind]
  congr 1
  funext x m1
  rw [K_bind]
  unfold kNp1
  congr 1
  funext y m2
  rw [K_bind]
  unfold kNp2
  congr 1
  funext z m3
  unfold kNp3
  cases y with
  | loc c =>
    cases hk : tkOf z with
    | none => rfl
    | some key =>
      unfold KG K
      dsimp only
      by_cases h : c < m3.n
      · simp only [h, if_true]
        cases hg : m3.get c with
        | none => rfl
        | some o =>
          cases o with
          | lst _ => rfl
          | obj _ _ => rfl
          | dct _ => rfl
          | dcn kvs =>
            rw [KO_some]
            unfold kNp4
            by_cases hl : kvs.length < sizeLine
            · simp only [hl, if_true]
            · simp only [hl, if_false]
      · simp only [h, if_false]
  | _ => rfl
theorem kNp1_at (d i : SE) (ρ : Ev) (k : KS β) (v : D) (m : Mem) : kNp1 d i ρ k v m = K (d ρ) m (kNp2 i v ρ k) := rfl
theorem kNp2_at (i : SE) (v : D) (ρ : Ev) (k : KS β) (d : D) (m : Mem) : kNp2 i v ρ k d m = K (i ρ) m (kNp3 v d ρ k) := rfl
theorem kNp4_at (c : Nat) (key : NestedKey) (v : D) (ρ : Ev) (k : KS β) (kvs : List (NestedKey × D)) (m : Mem) (h : kvs.length < sizeLine) : kNp4 c key v ρ k (.dcn kvs) m = k (.nx, ρ) (m.put c (.dcn (putN kvs key v))) := if_pos h
/-! a display of one pair, len -/
def kNd2 (kd : D) (k : D → Mem → Rs β) : D → Mem → Rs β := fun vd m => KO (tkOf kd) m fun key m => k (.loc m.n) (m.new (.dcn [(key, vd)]))
def kNd1 (v : SE) (ρ : Ev) (k : D → Mem → Rs β) : D → Mem → Rs β := fun kd m => K (v ρ) m (kNd2 kd k)
theorem K_ndsp1 (i v : SE) (ρ : Ev) (m : Mem) (k : D → Mem → Rs β) : K (ndsp1 i v ρ) m k = K (i ρ) m (kNd1 v ρ k) := by
  unfold ndsp1
  rw [K_bind]
  congr 1
  funext x m1
  rw [K_bind]
  unfold kNd1
  congr 1
  funext y m2
  unfold kNd2
  cases h : tkOf x with
  | none => exact K_bad (by unfold nk1; rw [h]) _
  | some key => exact K_ok (x := D.loc m2.n) (m1 := m2.new (.dcn [(key, y)])) (by unfold nk1; rw [h]; rfl) _
theorem kNd1_at (v : SE) (ρ : Ev) (k : D → Mem → Rs β) (kd : D) (m : Mem) : kNd1 v ρ k kd m = K (v ρ) m (kNd2 kd k) := rfl
def kNlenL (k : D → Mem → Rs β) : MO → Mem → Rs β := fun o m => match o with
  | .dcn xs => k (.int xs.length) m
  | _ => .bad
theorem KN_nlen_c (c : Nat) (m : Mem) (k : D → Mem → Rs β) : KN gNlenN [.loc c] m k = KG c m m (kNlenL k) := by
  have h := dcn_KG c m (fun kvs => some (D.int kvs.length)) k
  have e : KN gNlenN [.loc c] m k = KO ((dcnOf m (.loc c)).bind fun kvs => some (D.int kvs.length)) m k := by
    show KO ((dcnOf m (.loc c)).map fun kvs => D.int kvs.length) m k = _
    congr 1
    cases dcnOf m (.loc c) <;> rfl
  rw [e, h]
  refine KG_congr fun o => ?_
  cases o <;> rfl
theorem kNlenL_at (k : D → Mem → Rs β) (xs : List (NestedKey × D)) (m : Mem) : kNlenL k (.dcn xs) m = k (.int xs.length) m := rfl
end LB

set_option Elab.async false
set_option linter.all false
set_option autoImplicit false
set_option maxRecDepth 100000
set_option maxHeartbeats 2000000
/-! Pure: states of a look, and the look itself. -/
namespace LB
open PySem
noncomputable section
/-- a state of a look: the row; how many rows ahead a going is, and where to; the waits -/
structure LS where
  here : Nat
  go : Option (Nat × Nat)
  ws : List Nat
def goD : Option (Nat × Nat) → D
  | none => .non
  | some q => .tup [.int q.1, .int q.2]
def natD (w : Nat) : D := .int w
def LS.enc (s : LS) : D := .tup [.int s.here, goD s.go, .tup (s.ws.map natD)]
def goK : Option (Nat × Nat) → NestedKey
  | none => .none
  | some q => .tup [.num q.1, .num q.2]
def natK (w : Nat) : NestedKey := .num w
def LS.key (s : LS) : NestedKey := .tup [.num s.here, goK s.go, .tup (s.ws.map natK)]
theorem natK_inj : ∀ {a b : List Nat}, a.map natK = b.map natK → a = b
  | [], [], _ => rfl
  | x :: a, y :: b, h => by
    rw [List.map_cons, List.map_cons] at h
    injection h with h1 h2
    injection h1 with h3
    rw [Int.natCast_inj.mp h3, natK_inj h2]
  | [], _ :: _, h => by cases h
  | _ :: _, [], h => by cases h
theorem LS.key_inj {s u : LS} (h : s.key = u.key) : s = u := by
  obtain ⟨h1, g1, w1⟩ := s
  obtain ⟨h2, g2, w2⟩ := u
  unfold LS.key at h
  injection h with h
  injection h with e1 h
  injection h with e2 h
  injection h with e3 _
  injection e1 with e1
  injection e3 with e3
  have a1 : h1 = h2 := Int.natCast_inj.mp e1
  have a3 : w1 = w2 := natK_inj e3
  have a2 : g1 = g2 := by
    cases g1 <;> cases g2
    · rfl
    · cases e2
    · cases e2
    · rename_i p q
      obtain ⟨p1, p2⟩ := p
      obtain ⟨q1, q2⟩ := q
      have e2 : NestedKey.tup [.num p1, .num p2] = .tup [.num q1, .num q2] := e2
      injection e2 with e2
      injection e2 with b1 e2
      injection e2 with b2 _
      injection b1 with b1
      injection b2 with b2
      rw [Int.natCast_inj.mp b1, Int.natCast_inj.mp b2]
  rw [a1, a2, a3]
structure LS.Ok (n : Nat) (s : LS) : Prop where
  here : s.here < n
  ws : s.ws.length = 8
  go : ∀ q, s.go = some q → 1 ≤ q.1 ∧ q.2 < n
def wAt (ws : List Nat) (b : Int) : Nat := ws.getD b.toNat 0
def overB (t : Mill) (r : Row) (ws : List Nat) : Bool := match r.into with
  | some g => decide (r.late t + 1 ≤ wAt ws g)
  | none => false
def underB (go : Option (Nat × Nat)) : Bool := match go with
  | some q => decide (1 < q.1)
  | none => false
def openB (t : Mill) (r : Row) (go : Option (Nat × Nat)) : Bool := (r.goes && decide (0 < t.j)) || underB go
/-- why a state's row breaks -/
def brkT (p : List Row) (t : Mill) (s : LS) : Option (Str × Int) :=
  if (s.go.isSome && (rowAt p s.here).ends || decide (s.here + 1 = p.length) && openB t (rowAt p s.here) s.go) = true then some ("jump", -1) else none
def brkO (p : List Row) (t : Mill) (s : LS) : Option (Str × Int) :=
  if overB t (rowAt p s.here) s.ws = true then some ("over", (rowAt p s.here).into.getD 0) else brkT p t s
def brk (p : List Row) (t : Mill) (s : LS) : Option (Str × Int) :=
  match (rowAt p s.here).looks.find? fun b => decide (0 < wAt s.ws b) with
  | some b => some ("early", b)
  | none => brkO p t s
def goalR (r : Row) : Nat := match r with
  | .go g => g.toNat
  | .ifr _ g => g.toNat
  | _ => 0
def wentL (r : Row) : List Nat := match r with
  | .go _ => [1]
  | .ifr _ _ => [0, 1]
  | .stop => []
  | _ => [0]
def leftOf (t : Mill) (r : Row) (go : Option (Nat × Nat)) (w : Nat) : Option (Nat × Nat) := if w = 1 then some (t.j + 1, goalR r) else go
def afterH (here : Nat) (l : Option (Nat × Nat)) : Nat := match l with
  | some q => if q.1 = 1 then q.2 else here + 1
  | none => here + 1
def afterG (l : Option (Nat × Nat)) : Option (Nat × Nat) := match l with
  | some q => if q.1 = 1 then none else some (q.1 - 1, q.2)
  | none => none
def waits (t : Mill) (r : Row) (ws : List Nat) : List Nat := match r.into with
  | some g => (ws.map fun w => w - 1).set g.toNat (r.late t)
  | none => ws.map fun w => w - 1
def nxt (p : List Row) (t : Mill) (s : LS) (w : Nat) : LS :=
  ⟨afterH s.here (leftOf t (rowAt p s.here) s.go w), afterG (leftOf t (rowAt p s.here) s.go w), waits t (rowAt p s.here) s.ws⟩
def nxts (p : List Row) (t : Mill) (s : LS) : List (Nat × LS) :=
  ((wentL (rowAt p s.here)).map fun w => (w, nxt p t s w)).filter fun q => decide (q.2.here < p.length)
abbrev Way := List (Nat × Nat)
abbrev KV := List (NestedKey × D)
def stepD (q : Nat × Nat) : D := .tup [.int q.1, .int q.2]
def wayD (w : Way) : D := .lst (w.map stepD)
def lvD (q : Way × LS) : D := .tup [wayD q.1, q.2.enc]
def addN (way : Way) (h : Nat) (a : KV × List (Way × LS)) (q : Nat × LS) : KV × List (Way × LS) :=
  if (valN a.1 q.2.key).isSome = true then a else (putN a.1 q.2.key (.bl true), a.2 ++ [(way ++ [(h, q.1)], q.2)])
/-- goes on from all states of a level -/
def goLv (p : List Row) (t : Mill) : List (Way × LS) → KV × List (Way × LS) → Except (Way × Str × Int) (KV × List (Way × LS))
  | [], a => .ok a
  | (w, s) :: rest, a => match brk p t s with
    | some q => .error (w ++ [(s.here, 0)], q)
    | none => goLv p t rest ((nxts p t s).foldl (addN w s.here) a)
inductive LRes where
  | clear | many | found (w : Way) (q : Str × Int)
def lookF (p : List Row) (t : Mill) : Nat → List (Way × LS) → KV → LRes
  | 0, _, _ => .many
  | n + 1, lv, kvs => if lv.isEmpty = true then .clear else match goLv p t lv (kvs, []) with
    | .error q => .found q.1 q.2
    | .ok a => if 250 < a.1.length then .many else lookF p t n a.2 a.1
def LS0 : LS := ⟨0, none, [0, 0, 0, 0, 0, 0, 0, 0]⟩
def lookP (p : List Row) (t : Mill) : LRes := lookF p t 300 [([], LS0)] [(LS0.key, .bl true)]
end
end LB

set_option Elab.async false
set_option linter.all false
set_option autoImplicit false
set_option maxRecDepth 100000
set_option maxHeartbeats 2000000
/-! Pure: what a clear look tells. -/
namespace LB
open PySem
noncomputable section
theorem valN_app {α : Type} (kvs more : List (NestedKey × α)) (k : NestedKey) : (valN (kvs ++ more) k).isSome = ((valN kvs k).isSome || (valN more k).isSome) := by
  unfold valN
  rw [List.find?_append]
  cases kvs.find? _ <;> simp
theorem valN_one (k k2 : NestedKey) (v : D) : (valN [(k, v)] k2).isSome = decide (k = k2) := by
  unfold valN
  rw [List.find?_cons]
  cases h : decide (k = k2) <;> simp [h]
def Has (kvs : KV) (L : List LS) : Prop := ∀ s : LS, (valN kvs s.key).isSome = true ↔ s ∈ L
theorem putN_new {kvs : KV} {k : NestedKey} (h : (valN kvs k).isSome = false) (v : D) : putN kvs k v = kvs ++ [(k, v)] := by
  unfold putN
  rw [if_neg (by rw [h]; exact Bool.false_ne_true)]
theorem Has.put {kvs : KV} {L : List LS} (h : Has kvs L) (s : LS) : Has (kvs ++ [(s.key, .bl true)]) (L ++ [s]) := fun u => by
  rw [valN_app, valN_one, Bool.or_eq_true, h u, decide_eq_true_eq, List.mem_append, List.mem_singleton]
  exact or_congr Iff.rfl ⟨fun e => (LS.key_inj e).symm, fun e => by rw [e]⟩
abbrev sts (f : List (Way × LS)) : List LS := f.map (·.2)
/-! states that come of good ones are good -/
theorem goalR_lt {rows : Nat} {r : Row} (hr : r.okB rows = true) (h : 1 ∈ wentL r) : goalR r < rows := by
  cases r <;> simp [wentL] at h
  · rename_i g
    have := goal_ok hr (.inl rfl)
    show g.toNat < rows
    omega
  · rename_i x g
    have := goal_ok hr (.inr ⟨x, rfl⟩)
    show g.toNat < rows
    omega
theorem waits_len (t : Mill) (r : Row) (ws : List Nat) : (waits t r ws).length = ws.length := by
  unfold waits
  cases r.into <;> simp
theorem mem_nxts {p : List Row} {t : Mill} {s : LS} {q : Nat × LS} (h : q ∈ nxts p t s) : q.1 ∈ wentL (rowAt p s.here) ∧ q.2 = nxt p t s q.1 ∧ q.2.here < p.length := by
  obtain ⟨h1, h2⟩ := List.mem_filter.mp h
  obtain ⟨w, hw, e⟩ := List.mem_map.mp h1
  rw [← e]
  exact ⟨hw, rfl, by rw [← e] at h2; exact of_decide_eq_true h2⟩
theorem left_ok {p : List Row} {t : Mill} {s : LS} (hs : s.Ok p.length) (hr : (rowAt p s.here).okB p.length = true) {w : Nat} (hw : w ∈ wentL (rowAt p s.here)) : ∀ q, leftOf t (rowAt p s.here) s.go w = some q → 1 ≤ q.1 ∧ q.2 < p.length := fun q hq => by
  unfold leftOf at hq
  split at hq
  · rename_i e
    subst e
    cases hq
    exact ⟨by show 1 ≤ t.j + 1; omega, goalR_lt hr hw⟩
  · exact hs.go q hq
theorem nxts_ok {p : List Row} {t : Mill} {s : LS} (hp : ProgOk p) (hs : s.Ok p.length) {q : Nat × LS} (h : q ∈ nxts p t s) : q.2.Ok p.length := by
  obtain ⟨h1, h2, h3⟩ := mem_nxts h
  have hr : (rowAt p s.here).okB p.length = true := hp.rows _ (List.mem_of_getElem? (rowAt_of hs.here))
  refine ⟨h3, ?_, fun g hg => ?_⟩
  · rw [h2]
    show (waits t _ s.ws).length = 8
    rw [waits_len, hs.ws]
  · rw [h2] at hg
    have hg : afterG (leftOf t (rowAt p s.here) s.go q.1) = some g := hg
    cases hl : leftOf t (rowAt p s.here) s.go q.1 with
    | none => rw [hl] at hg; cases hg
    | some l =>
      rw [hl] at hg
      have := left_ok hs hr h1 l hl
      unfold afterG at hg
      dsimp only at hg
      split at hg
      · cases hg
      · cases hg
        exact ⟨by show 1 ≤ l.1 - 1; omega, this.2⟩
end
end LB

set_option Elab.async false
set_option linter.all false
set_option autoImplicit false
set_option maxRecDepth 100000
set_option maxHeartbeats 2000000
/-! Pure: where a look is clear, a run tells what it tells when worths come at once. -/
namespace LB
open PySem
noncomputable section
theorem layB_cons (b : Int) (bs : List Int) (q : Cm) (com : List Cm) : layB b bs (q :: com) = layB b (if q.1 = b then bs.set q.2.1 q.2.2 else bs) com := rfl
theorem layB_len (b : Int) : ∀ (com : List Cm) (bs : List Int), (layB b bs com).length = bs.length
  | [], bs => rfl
  | q :: com, bs => by
    rw [layB_cons, layB_len b com]
    split
    · rw [List.length_set]
    · rfl
theorem set_ne' {bs : List Int} {i c : Nat} {v : Int} (h : i ≠ c) : (bs.set i v).getD c 0 = bs.getD c 0 := by
  rw [List.getD_eq_getElem?_getD, List.getD_eq_getElem?_getD, List.getElem?_set_ne h]
theorem set_eq' {bs : List Int} {c : Nat} {v : Int} (h : c < bs.length) : (bs.set c v).getD c 0 = v := by
  rw [List.getD_eq_getElem?_getD, List.getElem?_set_self h]
  rfl
theorem layB_no {b : Int} {c : Nat} : ∀ (com : List Cm) (bs : List Int), (∀ q, q ∈ com → q.1 = b → q.2.1 ≠ c) → (layB b bs com).getD c 0 = bs.getD c 0
  | [], bs, _ => rfl
  | q :: com, bs, h => by
    rw [layB_cons, layB_no com _ fun x hx => h x (List.mem_cons_of_mem _ hx)]
    split
    · rename_i e
      exact set_ne' (h q (List.mem_cons_self ..) e)
    · rfl
theorem layB_same {b : Int} {c : Nat} {v : Int} : ∀ (com : List Cm) (bs : List Int), bs.getD c 0 = v → c < bs.length → (∀ q, q ∈ com → q.1 = b → q.2.1 = c → q.2.2 = v) → (layB b bs com).getD c 0 = v
  | [], bs, h, _, _ => h
  | q :: com, bs, h, hc, hq => by
    rw [layB_cons]
    refine layB_same com _ ?_ ?_ fun x hx => hq x (List.mem_cons_of_mem _ hx)
    · split
      · rename_i e
        by_cases e2 : q.2.1 = c
        · rw [e2, set_eq' hc]
          exact hq q (List.mem_cons_self ..) e e2
        · rw [set_ne' e2]
          exact h
      · exact h
    · split
      · rw [List.length_set]
        exact hc
      · exact hc
theorem layB_val {b : Int} {c : Nat} {v : Int} : ∀ (com : List Cm) (bs : List Int), c < bs.length → (∀ q, q ∈ com → q.1 = b → q.2.1 = c → q.2.2 = v) → (∃ q, q ∈ com ∧ q.1 = b ∧ q.2.1 = c) → (layB b bs com).getD c 0 = v
  | [], bs, _, _, h => by obtain ⟨q, h, _⟩ := h; cases h
  | q :: com, bs, hc, hq, hx => by
    rw [layB_cons]
    by_cases e : q.1 = b ∧ q.2.1 = c
    · rw [if_pos e.1]
      refine layB_same com _ ?_ (by rw [List.length_set]; exact hc) fun x hx => hq x (List.mem_cons_of_mem _ hx)
      rw [e.2, set_eq' hc]
      exact hq q (List.mem_cons_self ..) e.1 e.2
    · refine layB_val com _ ?_ (fun x hx => hq x (List.mem_cons_of_mem _ hx)) ?_
      · split
        · rw [List.length_set]; exact hc
        · exact hc
      · obtain ⟨x, h1, h2⟩ := hx
        rcases List.mem_cons.mp h1 with h1 | h1
        · rw [h1] at h2
          exact (e h2).elim
        · exact ⟨x, h1, h2⟩
theorem mem_layC {b : Int} {com : List Cm} {q : Cm} : q ∈ layC b com ↔ q ∈ com ∧ b < q.1 := by
  unfold layC
  rw [List.mem_filter, decide_eq_true_eq]
def wN (ws : List Nat) (c : Nat) : Nat := ws.getD c 0
/-- what is under way, and the boxes of a run and of one by which worths come at once -/
structure BoxI (b : Int) (ws : List Nat) (com : List Cm) (sb zb : List Int) : Prop where
  com1 : ∀ q, q ∈ com → q.2.1 < 8 ∧ b < q.1 ∧ q.1 ≤ b + wN ws q.2.1
  com2 : ∀ q, q ∈ com → q.1 = b + wN ws q.2.1 → q.2.2 = zb.getD q.2.1 0
  com3 : ∀ c, c < 8 → 0 < wN ws c → ∃ q, q ∈ com ∧ q.2.1 = c ∧ q.1 = b + wN ws c
  box : ∀ c, c < 8 → wN ws c = 0 → sb.getD c 0 = zb.getD c 0
  sl : sb.length = 8
  zl : zb.length = 8
theorem set_wne {ws : List Nat} {i c : Nat} {v : Nat} (h : i ≠ c) : wN (ws.set i v) c = wN ws c := by
  unfold wN
  rw [List.getD_eq_getElem?_getD, List.getD_eq_getElem?_getD, List.getElem?_set_ne h]
theorem set_weq {ws : List Nat} {c : Nat} {v : Nat} (h : c < ws.length) : wN (ws.set c v) c = v := by
  unfold wN
  rw [List.getD_eq_getElem?_getD, List.getElem?_set_self h]
  rfl
theorem map_wN (ws : List Nat) (c : Nat) : wN (ws.map fun w => w - 1) c = wN ws c - 1 := by
  unfold wN
  rw [List.getD_eq_getElem?_getD, List.getD_eq_getElem?_getD, List.getElem?_map]
  cases ws[c]? <;> rfl
theorem BoxI.rest {b : Int} {ws : List Nat} {com : List Cm} {sb zb : List Int} (h : BoxI b ws com sb zb) : BoxI (b + 1) (ws.map fun w => w - 1) (layC (b + 1) com) (layB (b + 1) sb com) zb := by
  refine ⟨fun q hq => ?_, fun q hq e => ?_, fun c hc hw => ?_, fun c hc hw => ?_, by rw [layB_len]; exact h.sl, h.zl⟩
  · obtain ⟨h1, h2⟩ := mem_layC.mp hq
    obtain ⟨a1, a2, a3⟩ := h.com1 q h1
    rw [map_wN]
    exact ⟨a1, h2, by omega⟩
  · obtain ⟨h1, h2⟩ := mem_layC.mp hq
    obtain ⟨a1, a2, a3⟩ := h.com1 q h1
    rw [map_wN] at e
    exact h.com2 q h1 (by omega)
  · rw [map_wN] at hw
    obtain ⟨q, h1, h2, h3⟩ := h.com3 c hc (by omega)
    exact ⟨q, mem_layC.mpr ⟨h1, by omega⟩, h2, by rw [map_wN]; omega⟩
  · rw [map_wN] at hw
    by_cases h0 : wN ws c = 0
    · rw [layB_no com sb fun q hq e1 e2 => ?_]
      · exact h.box c hc h0
      · obtain ⟨a1, a2, a3⟩ := h.com1 q hq
        rw [e2, h0] at a3
        omega
    · obtain ⟨q, h1, h2, h3⟩ := h.com3 c hc (by omega)
      refine layB_val com sb (by rw [h.sl]; exact hc) (fun x hx e1 e2 => ?_) ⟨q, h1, by omega, h2⟩
      have := h.com2 x hx (by rw [e2]; omega)
      rw [this, e2]
theorem layB_app (b : Int) (bs : List Int) (xs ys : List Cm) : layB b bs (xs ++ ys) = layB b (layB b bs xs) ys := by
  unfold layB
  rw [List.foldl_append]
theorem BoxI.put {b : Int} {ws : List Nat} {com : List Cm} {sb zb : List Int} (h : BoxI b ws com sb zb) (hw8 : ws.length = 8) {g k : Nat} (hg : g < 8) (hk : wN ws g ≤ k) (v : Int) :
    BoxI (b + 1) ((ws.map fun w => w - 1).set g k) (layC (b + 1) (com ++ [(b + k + 1, g, v)])) (layB (b + 1) sb (com ++ [(b + k + 1, g, v)])) (layB (b + 1) zb [(b + (0 : Nat) + 1, g, v)]) := by
  have w0 : (ws.map fun w => w - 1).length = 8 := by rw [List.length_map, hw8]
  have wg : wN ((ws.map fun w => w - 1).set g k) g = k := set_weq (by rw [w0]; exact hg)
  have wo : ∀ c, g ≠ c → wN ((ws.map fun w => w - 1).set g k) c = wN ws c - 1 := fun c hc => by rw [set_wne hc, map_wN]
  have zg : (layB (b + 1) zb [(b + (0 : Nat) + 1, g, v)]).getD g 0 = v := layB_val _ zb (by rw [h.zl]; exact hg) (fun q hq _ _ => by rw [List.mem_singleton.mp hq]) ⟨_, List.mem_singleton.mpr rfl, by show b + ((0 : Nat) : Int) + 1 = b + 1; omega, rfl⟩
  have zo : ∀ c, g ≠ c → (layB (b + 1) zb [(b + (0 : Nat) + 1, g, v)]).getD c 0 = zb.getD c 0 := fun c hc => layB_no _ zb fun q hq _ => by
    rw [List.mem_singleton.mp hq]
    exact hc
  refine ⟨fun q hq => ?_, fun q hq e => ?_, fun c hc hw => ?_, fun c hc hw => ?_, by rw [layB_len]; exact h.sl, by rw [layB_len]; exact h.zl⟩
  · obtain ⟨h1, h2⟩ := mem_layC.mp hq
    rcases List.mem_append.mp h1 with h1 | h1
    · obtain ⟨a1, a2, a3⟩ := h.com1 q h1
      by_cases e : g = q.2.1
      · rw [← e, wg]
        rw [← e] at a3
        exact ⟨hg, h2, by omega⟩
      · rw [wo _ e]
        exact ⟨a1, h2, by omega⟩
    · rw [List.mem_singleton.mp h1] at h2 ⊢
      refine ⟨hg, h2, ?_⟩
      show b + (k : Int) + 1 ≤ b + 1 + ((wN ((ws.map fun w => w - 1).set g k) g : Nat) : Int)
      rw [wg]
      omega
  · obtain ⟨h1, h2⟩ := mem_layC.mp hq
    rcases List.mem_append.mp h1 with h1 | h1
    · obtain ⟨a1, a2, a3⟩ := h.com1 q h1
      by_cases eg : g = q.2.1
      · rw [← eg, wg] at e
        rw [← eg] at a3
        omega
      · rw [wo _ eg] at e
        rw [zo _ eg]
        exact h.com2 q h1 (by omega)
    · rw [List.mem_singleton.mp h1]
      exact zg.symm
  · by_cases e : g = c
    · subst e
      rw [wg] at hw ⊢
      exact ⟨(b + k + 1, g, v), mem_layC.mpr ⟨List.mem_append.mpr (.inr (List.mem_singleton.mpr rfl)), by show b + 1 < b + (k : Int) + 1; omega⟩, rfl, by show b + (k : Int) + 1 = b + 1 + k; omega⟩
    · rw [wo _ e] at hw ⊢
      obtain ⟨q, h1, h2, h3⟩ := h.com3 c hc (by omega)
      exact ⟨q, mem_layC.mpr ⟨List.mem_append.mpr (.inl h1), by omega⟩, h2, by omega⟩
  · by_cases e : g = c
    · subst e
      rw [wg] at hw
      rw [zg]
      subst hw
      refine layB_val _ sb (by rw [h.sl]; exact hg) (fun q hq e1 e2 => ?_) ⟨_, List.mem_append.mpr (.inr (List.mem_singleton.mpr rfl)), by show b + ((0 : Nat) : Int) + 1 = b + 1; omega, rfl⟩
      rcases List.mem_append.mp hq with hq | hq
      · obtain ⟨a1, a2, a3⟩ := h.com1 q hq
        rw [e2] at a3
        omega
      · rw [List.mem_singleton.mp hq]
    · rw [wo _ e] at hw
      rw [zo _ e, layB_app, layB_no [(b + k + 1, g, v)] _ fun q hq _ => by
        rw [List.mem_singleton.mp hq]
        exact e]
      have := h.rest.box c hc (by rw [map_wN]; exact hw)
      exact this
theorem looks8 {r : Row} {rows : Int} (hr : r.okB rows = true) : ∀ c, c ∈ r.looks → in8 c := by
  obtain ⟨a1, a2, a3⟩ := parts8 hr
  obtain ⟨b1, b2, b3⟩ := parts8b hr
  cases r with
  | move x y => intro c hc; cases List.mem_singleton.mp hc; exact a1 _ _ rfl
  | get x y => intro c hc; cases List.mem_singleton.mp hc; exact a2 _ _ rfl
  | say x => intro c hc; cases List.mem_singleton.mp hc; exact b2 _ rfl
  | ifr x y => intro c hc; cases List.mem_singleton.mp hc; exact b3 _ _ rfl
  | add x y z =>
    intro c hc
    have := a3 x y z (.inl rfl)
    rcases List.mem_cons.mp hc with hc | hc
    · rw [hc]; exact this.1
    · cases List.mem_singleton.mp hc; exact this.2
  | take x y z =>
    intro c hc
    have := a3 x y z (.inr (.inl rfl))
    rcases List.mem_cons.mp hc with hc | hc
    · rw [hc]; exact this.1
    · cases List.mem_singleton.mp hc; exact this.2
  | times x y z =>
    intro c hc
    have := a3 x y z (.inr (.inr rfl))
    rcases List.mem_cons.mp hc with hc | hc
    · rw [hc]; exact this.1
    · cases List.mem_singleton.mp hc; exact this.2
  | set x y =>
    intro c hc
    have := b1 x y rfl
    rcases List.mem_cons.mp hc with hc | hc
    · rw [hc]; exact this.1
    · cases List.mem_singleton.mp hc; exact this.2
  | put x n => intro c hc; cases hc
  | rest => intro c hc; cases hc
  | stop => intro c hc; cases hc
  | go g => intro c hc; cases hc
structure SameEnd (x y : Nat × St) : Prop where
  beats : x.1 = y.1
  said : x.2.said = y.2.said
  cells : x.2.cells = y.2.cells
  fin : x.2.fin = y.2.fin
end
end LB

set_option Elab.async false
set_option linter.all false
set_option autoImplicit false
set_option maxRecDepth 100000
set_option maxHeartbeats 2000000
/-! Pure: a machine whose worths come at once. -/
namespace LB
open PySem
noncomputable section
structure ZS where
  here : Nat
  go : Option (Nat × Nat)
  m : MS
def wentM (r : Row) (m : MS) : Nat := match r with
  | .go _ => 1
  | .ifr x _ => if m.bx x ≠ 0 then 1 else 0
  | _ => 0
def zafter (t : Mill) (r : Row) (z : ZS) : ZS := ⟨afterH z.here (leftOf t r z.go (wentM r z.m)), afterG (leftOf t r z.go (wentM r z.m)), exeR r z.m⟩
/-- how it ends, and what is then -/
def zgo (p : List Row) (t : Mill) : Nat → ZS → Option Str × MS
  | 0, z => (none, z.m)
  | n + 1, z => if (rowAt p z.here).stops = true then (some "stop", z.m) else if (zafter t (rowAt p z.here) z).here = p.length then (some "end", exeR (rowAt p z.here) z.m) else zgo p t n (zafter t (rowAt p z.here) z)
end
end LB

set_option Elab.async false
set_option linter.all false
set_option autoImplicit false
set_option maxRecDepth 100000
set_option maxHeartbeats 2000000
/-! Pure: the machine gone on by blocks. -/
namespace LB
open PySem
noncomputable section
variable {p : List Row} {t : Mill}
def zFin (p : List Row) (t : Mill) (z : ZS) (e : Str) (m1 : MS) : Prop := ∃ n, zgo p t n z = (some e, m1)
theorem zgo_mono : ∀ (n k : Nat) (z : ZS) (e : Str) (m1 : MS), zgo p t n z = (some e, m1) → zgo p t (n + k) z = (some e, m1)
  | 0, k, z, e, m1, h => by cases h
  | n + 1, k, z, e, m1, h => by
    rw [Nat.add_right_comm]
    unfold zgo at h ⊢
    split at h
    · rename_i c
      rw [if_pos c]
      exact h
    · rename_i c
      rw [if_neg c]
      split at h
      · rename_i c2
        rw [if_pos c2]
        exact h
      · rename_i c2
        rw [if_neg c2]
        exact zgo_mono n k _ e m1 h
theorem zFin.det {z : ZS} {e e2 : Str} {m1 m2 : MS} (h : zFin p t z e m1) (g : zFin p t z e2 m2) : e = e2 ∧ m1 = m2 := by
  obtain ⟨n, h⟩ := h
  obtain ⟨k, g⟩ := g
  have h2 := zgo_mono n k z e m1 h
  have g2 := zgo_mono k n z e2 m2 g
  rw [Nat.add_comm] at g2
  rw [h2] at g2
  injection g2 with a b
  injection a with a
  exact ⟨a, b⟩
theorem zFin.at_ {z : ZS} {e : Str} {m1 m2 : MS} {n : Nat} {o : Option Str} (h : zFin p t z e m1) (g : zgo p t n z = (o, m2)) (ho : o ≠ none) : o = some e ∧ m2 = m1 := by
  cases o with
  | none => exact (ho rfl).elim
  | some e2 =>
    obtain ⟨a, b⟩ := h.det ⟨n, g⟩
    exact ⟨by rw [a], b.symm⟩
/-- the rows from h on -/
def At (p : List Row) (h : Nat) (rs : List Row) : Prop := ∀ i r, rs[i]? = some r → p[h + i]? = some r
theorem At.head {h : Nat} {r : Row} {rs : List Row} (a : At p h (r :: rs)) : rowAt p h = r ∧ h < p.length := by
  have z := a 0 r rfl
  rw [Nat.add_zero] at z
  refine ⟨?_, (List.getElem?_eq_some_iff.mp z).1⟩
  unfold rowAt
  rw [List.getD_eq_getElem?_getD, z]
  rfl
theorem At.tail {h : Nat} {r : Row} {rs : List Row} (a : At p h (r :: rs)) : At p (h + 1) rs := fun i x hx => by
  have z := a (i + 1) x hx
  rw [← z]
  congr 1
  omega
theorem At.len {h : Nat} : ∀ {rs : List Row}, At p h rs → rs ≠ [] → h + rs.length ≤ p.length := fun {rs} a hne => by
  have hl : 0 < rs.length := List.length_pos_iff.mpr hne
  have z := a (rs.length - 1) (rs[rs.length - 1]) (List.getElem?_eq_getElem (by omega))
  have := (List.getElem?_eq_some_iff.mp z).1
  omega
/-! the same, told of a run that has come to its end -/
end
end LB

set_option Elab.async false
set_option linter.all false
set_option autoImplicit false
set_option maxRecDepth 100000
set_option maxHeartbeats 1000000
/-! Pure: tails, beats, starts that are kept. -/
namespace LB
open PySem
noncomputable section
def Row.tailR (t : Mill) (r : Row) : Nat := if r.goes = true then t.j else r.late t
/-- the beats of a piece by starts: its last row, its last start apart -/
def beatsZ (t : Mill) (p : List Row) (r : Row) (ss : List Int) (b : Int) : Int :=
  if r.ends = true then b + r.tailR t + 1 else ((maxL (List.zipWith (fun r b => b + (r.tailR t : Int)) (p ++ [r]) (ss ++ [b]))).getD 0) + 1
/-! ### kept -/
def beatsP (t : Mill) (P : List Row) (ss : List Int) : Int := match P.getLast?, ss.getLast? with
  | some r, some b => beatsZ t P.dropLast r ss.dropLast b
  | _, _ => 0
end
end LB

set_option Elab.async false
set_option linter.all false
set_option autoImplicit false
set_option maxRecDepth 100000
set_option maxHeartbeats 1000000
/-! Pure: the law's own took. -/
namespace LB
open PySem
noncomputable section
end
end LB

set_option Elab.async false
set_option linter.all false
set_option autoImplicit false
set_option maxRecDepth 100000
set_option maxHeartbeats 1000000
/-! Pure: the soonest starts by pairs; they are bounded. -/
namespace LB
open PySem
noncomputable section
/-! ### a potential pressed together -/
/-- pairs: (one, other, far) -/
abbrev Pr := Nat × Nat × Int
def Pr.enc (q : Pr) : D := .tup [.int q.1, .int q.2.1, .int q.2.2]
def Feas (L : List Pr) (f : Nat → Int) : Prop := ∀ q, q ∈ L → f q.1 + q.2.2 ≤ f q.2.1
/-- below each potential -/
def Low (L : List Pr) (ss : List Int) : Prop := (∀ v, v ∈ ss → 0 ≤ v) ∧ ∀ f : Nat → Int, (∀ i, 0 ≤ f i) → Feas L f → ∀ i, i < ss.length → ss.getD i 0 ≤ f i
theorem getD_mem {ss : List Int} {i : Nat} (h : i < ss.length) : ss.getD i 0 ∈ ss := by
  rw [List.getD_eq_getElem?_getD, List.getElem?_eq_getElem h]
  exact List.getElem_mem h
theorem getD_set {ss : List Int} {i j : Nat} {v : Int} (h : j < ss.length) : (ss.set j v).getD i 0 = if i = j then v else ss.getD i 0 := by
  rw [List.getD_eq_getElem?_getD, List.getD_eq_getElem?_getD, List.getElem?_set]
  by_cases c : j = i
  · subst c
    rw [if_pos rfl, if_pos h, if_pos rfl]
    rfl
  · rw [if_neg c, if_neg (fun h => c h.symm)]
theorem low_step {L : List Pr} {ss : List Int} (h : Low L ss) {q : Pr} (hq : q ∈ L) (h1 : q.1 < ss.length) (h2 : q.2.1 < ss.length) (hlt : ss.getD q.2.1 0 < ss.getD q.1 0 + q.2.2) : Low L (ss.set q.2.1 (ss.getD q.1 0 + q.2.2)) := by
  refine ⟨fun v hv => ?_, fun f f0 hF i hi => ?_⟩
  · rcases List.mem_or_eq_of_mem_set hv with hv | rfl
    · exact h.1 v hv
    · have := h.1 _ (getD_mem h2)
      omega
  · rw [List.length_set] at hi
    rw [getD_set h2]
    by_cases c : i = q.2.1
    · rw [if_pos c, c]
      have := h.2 f f0 hF q.1 h1
      have := hF q hq
      omega
    · rw [if_neg c]
      exact h.2 f f0 hF i hi
/-! ### how far at most -/
end
end LB

set_option Elab.async false
set_option linter.all false
set_option autoImplicit false
set_option maxRecDepth 100000
set_option maxHeartbeats 1000000
/-! Pure: the law's own soonest. -/
namespace LB
open PySem
noncomputable section
end
end LB

set_option Elab.async false
set_option linter.all false
set_option autoImplicit false
set_option maxRecDepth 100000
set_option maxHeartbeats 1000000
/-! Plain: earliest starts by pairs: they are found if there are any; what holds back. -/
namespace LB
open PySem
noncomputable section
/-! ### one round, all rounds -/
structure Bf where
  ss : List Int
  hs : List (Option Nat)
  pu : Option Nat
def push (x : Bf) (q : Pr) : Bf := ⟨x.ss.set q.2.1 (x.ss.getD q.1 0 + q.2.2), x.hs.set q.2.1 (some q.1), some q.2.1⟩
def less (x : Bf) (q : Pr) : Bool := decide (x.ss.getD q.2.1 0 < x.ss.getD q.1 0 + q.2.2)
def relax (x : Bf) (q : Pr) : Bf := if less x q = true then push x q else x
def round (L : List Pr) (x : Bf) : Bf := L.foldl relax { x with pu := none }
/-- what stays so -/
structure BfOk (L : List Pr) (n : Nat) (x : Bf) : Prop where
  sl : x.ss.length = n
  hl : x.hs.length = n
  low : Low L x.ss
  pu : ∀ v, x.pu = some v → v < n
  hold : ∀ v u, x.hs.getD v none = some u → u < n ∧ ∃ q, q ∈ L ∧ q.1 = u ∧ q.2.1 = v ∧ x.ss.getD v 0 ≤ x.ss.getD u 0 + q.2.2
  zero : ∀ v, x.hs.getD v none = none → x.ss.getD v 0 = 0
def InL (L : List Pr) (n : Nat) : Prop := ∀ q, q ∈ L → q.1 < n ∧ q.2.1 < n
theorem getD_setO {hs : List (Option Nat)} {i j : Nat} {v : Option Nat} (h : j < hs.length) : (hs.set j v).getD i none = if i = j then v else hs.getD i none := by
  rw [List.getD_eq_getElem?_getD, List.getD_eq_getElem?_getD, List.getElem?_set]
  by_cases c : j = i
  · subst c
    rw [if_pos rfl, if_pos h, if_pos rfl]
    rfl
  · rw [if_neg c, if_neg (fun h => c h.symm)]
theorem BfOk.push {L : List Pr} {n : Nat} {x : Bf} (h : BfOk L n x) (hL : InL L n) {q : Pr} (hq : q ∈ L) (hlt : less x q = true) (hne : q.1 ≠ q.2.1) : BfOk L n (push x q) := by
  obtain ⟨q1, q2⟩ := hL q hq
  have hlt2 := of_decide_eq_true hlt
  have s1 := h.sl
  have s2 := h.hl
  have gs : ∀ i, (LB.push x q).ss.getD i 0 = if i = q.2.1 then x.ss.getD q.1 0 + q.2.2 else x.ss.getD i 0 := fun i => getD_set (by omega)
  have gh : ∀ i, (LB.push x q).hs.getD i none = if i = q.2.1 then some q.1 else x.hs.getD i none := fun i => getD_setO (by omega)
  have up : ∀ i, x.ss.getD i 0 ≤ (LB.push x q).ss.getD i 0 := fun i => by
    rw [gs]
    split
    · rename_i e
      rw [e]
      omega
    · exact Int.le_refl _
  refine ⟨by show (x.ss.set _ _).length = n; rw [List.length_set, s1], by show (x.hs.set _ _).length = n; rw [List.length_set, s2], low_step h.low hq (by omega) (by omega) hlt2, fun v hv => by cases hv; exact q2, fun v u hu => ?_, fun v hv => ?_⟩
  · rw [gh] at hu
    by_cases e : v = q.2.1
    · rw [if_pos e] at hu
      cases hu
      refine ⟨q1, q, hq, rfl, e.symm, ?_⟩
      rw [gs, if_pos e, gs, if_neg hne]
      exact Int.le_refl _
    · rw [if_neg e] at hu
      obtain ⟨h1, r, hr, e1, e2, e3⟩ := h.hold v u hu
      refine ⟨h1, r, hr, e1, e2, ?_⟩
      have z := up u
      rw [gs v, if_neg e]
      omega
  · rw [gh] at hv
    by_cases e : v = q.2.1
    · rw [if_pos e] at hv
      cases hv
    · rw [if_neg e] at hv
      rw [gs, if_neg e]
      exact h.zero v hv

theorem BfOk.relax {L : List Pr} {n : Nat} {x : Bf} (h : BfOk L n x) (hL : InL L n) (hne : ∀ q, q ∈ L → q.1 ≠ q.2.1) {q : Pr} (hq : q ∈ L) : BfOk L n (relax x q) := by
  unfold LB.relax
  split
  · rename_i hlt
    exact h.push hL hq hlt (hne q hq)
  · exact h
theorem BfOk.fold {L : List Pr} {n : Nat} (hL : InL L n) (hne : ∀ q, q ∈ L → q.1 ≠ q.2.1) : ∀ (M : List Pr) (x : Bf), (∀ q, q ∈ M → q ∈ L) → BfOk L n x → BfOk L n (M.foldl LB.relax x)
  | [], _, _, h => h
  | q :: M, x, hM, h => BfOk.fold hL hne M _ (fun r hr => hM r (List.mem_cons_of_mem _ hr)) (h.relax hL hne (hM q List.mem_cons_self))
theorem BfOk.none_ {L : List Pr} {n : Nat} {x : Bf} (h : BfOk L n x) : BfOk L n { x with pu := none } := ⟨h.sl, h.hl, h.low, (fun v hv => by cases hv), h.hold, h.zero⟩
theorem BfOk.round {L : List Pr} {n : Nat} {x : Bf} (h : BfOk L n x) (hL : InL L n) (hne : ∀ q, q ∈ L → q.1 ≠ q.2.1) : BfOk L n (round L x) := BfOk.fold hL hne L _ (fun _ h => h) h.none_
/-! ### where there are any, they are found -/
end
end LB

set_option Elab.async false
set_option linter.all false
set_option autoImplicit false
set_option maxRecDepth 100000
set_option maxHeartbeats 1000000
/-! Plain: what holds rows back: chains and rings. -/
namespace LB
open PySem
noncomputable section
abbrev Hs := List (Option Nat)
def upk (hs : Hs) : Nat → Nat → Option Nat
  | 0, v => some v
  | k + 1, v => (hs.getD v none).bind (upk hs k)
def sumUp (wt : Nat → Nat → Int) (hs : Hs) : Nat → Nat → Int
  | 0, _ => 0
  | k + 1, v => match hs.getD v none with
    | some u => wt u v + sumUp wt hs k u
    | none => 0
theorem upk_add (hs : Hs) : ∀ (a b v : Nat), upk hs (a + b) v = (upk hs a v).bind (upk hs b)
  | 0, b, v => by rw [Nat.zero_add]; rfl
  | a + 1, b, v => by
    rw [Nat.succ_add]
    show (hs.getD v none).bind (upk hs (a + b)) = ((hs.getD v none).bind (upk hs a)).bind (upk hs b)
    cases hs.getD v none with
    | none => rfl
    | some u => exact upk_add hs a b u
theorem sumUp_add (wt : Nat → Nat → Int) (hs : Hs) : ∀ (a b v x : Nat), upk hs a v = some x → sumUp wt hs (a + b) v = sumUp wt hs a v + sumUp wt hs b x
  | 0, b, v, x, h => by
    cases h
    rw [Nat.zero_add]
    show _ = 0 + _
    omega
  | a + 1, b, v, x, h => by
    rw [Nat.succ_add]
    have h2 : (hs.getD v none).bind (upk hs a) = some x := h
    show (match hs.getD v none with
      | some u => wt u v + sumUp wt hs (a + b) u
      | none => 0) = (match hs.getD v none with
      | some u => wt u v + sumUp wt hs a u
      | none => 0) + sumUp wt hs b x
    cases hu : hs.getD v none with
    | none => rw [hu] at h2; cases h2
    | some u =>
      rw [hu] at h2
      have := sumUp_add wt hs a b u x h2
      show wt u v + sumUp wt hs (a + b) u = wt u v + sumUp wt hs a u + sumUp wt hs b x
      omega
structure WtOk (L : List Pr) (wt : Nat → Nat → Int) : Prop where
  ge : ∀ q, q ∈ L → q.2.2 ≤ wt q.1 q.2.1
  at_ : ∀ q, q ∈ L → (q.1, q.2.1, wt q.1 q.2.1) ∈ L
section
variable {L : List Pr} {n : Nat} {x : Bf} {wt : Nat → Nat → Int}
theorem BfOk.up_le (h : BfOk L n x) (hw : WtOk L wt) : ∀ (k v u : Nat), upk x.hs k v = some u → x.ss.getD v 0 ≤ x.ss.getD u 0 + sumUp wt x.hs k v
  | 0, v, u, e => by
    cases e
    show _ ≤ _ + (0 : Int)
    omega
  | k + 1, v, u, e => by
    have e2 : (x.hs.getD v none).bind (upk x.hs k) = some u := e
    show _ ≤ _ + (match x.hs.getD v none with
      | some u => wt u v + sumUp wt x.hs k u
      | none => 0)
    cases hu : x.hs.getD v none with
    | none => rw [hu] at e2; cases e2
    | some y =>
      rw [hu] at e2
      obtain ⟨_, q, hq, q1, q2, q3⟩ := h.hold v y hu
      have a := BfOk.up_le h hw k y u e2
      have b := hw.ge q hq
      rw [q1, q2] at b
      show _ ≤ _ + (wt y v + sumUp wt x.hs k y)
      omega
/-- each ring comes to more than nought -/
def Pos (wt : Nat → Nat → Int) (hs : Hs) : Prop := ∀ k v, upk hs (k + 1) v = some v → 0 < sumUp wt hs (k + 1) v
theorem set_split {hs : Hs} {v u : Nat} (hv : v < hs.length) : ∀ (k a b : Nat), upk (hs.set v (some u)) k a = some b → (upk hs k a = some b ∧ sumUp wt (hs.set v (some u)) k a = sumUp wt hs k a) ∨ ∃ j, j < k ∧ upk hs j a = some v ∧ upk (hs.set v (some u)) j a = some v ∧ sumUp wt (hs.set v (some u)) j a = sumUp wt hs j a
  | 0, a, b, e => .inl ⟨e, rfl⟩
  | k + 1, a, b, e => by
    by_cases hav : a = v
    · subst hav
      exact .inr ⟨0, by omega, rfl, rfl, rfl⟩
    · have e2 : ((hs.set v (some u)).getD a none).bind (upk (hs.set v (some u)) k) = some b := e
      have g : (hs.set v (some u)).getD a none = hs.getD a none := by rw [getD_setO hv, if_neg hav]
      rw [g] at e2
      cases hy : hs.getD a none with
      | none => rw [hy] at e2; cases e2
      | some y =>
        rw [hy] at e2
        have s1 : ∀ j, sumUp wt (hs.set v (some u)) (j + 1) a = wt y a + sumUp wt (hs.set v (some u)) j y := fun j => by
          show (match (hs.set v (some u)).getD a none with
            | some u' => wt u' a + sumUp wt (hs.set v (some u)) j u'
            | none => 0) = _
          rw [g, hy]
        have s2 : ∀ j, sumUp wt hs (j + 1) a = wt y a + sumUp wt hs j y := fun j => by
          show (match hs.getD a none with
            | some u' => wt u' a + sumUp wt hs j u'
            | none => 0) = _
          rw [hy]
        have u1 : ∀ j, upk (hs.set v (some u)) (j + 1) a = upk (hs.set v (some u)) j y := fun j => by
          show ((hs.set v (some u)).getD a none).bind _ = _
          rw [g, hy]
          rfl
        have u2 : ∀ j, upk hs (j + 1) a = upk hs j y := fun j => by
          show (hs.getD a none).bind _ = _
          rw [hy]
          rfl
        rcases set_split hv k y b e2 with ⟨h1, h2⟩ | ⟨j, h1, h2, h3, h4⟩
        · exact .inl ⟨by rw [u2]; exact h1, by rw [s1, s2, h2]⟩
        · exact .inr ⟨j + 1, by omega, by rw [u2]; exact h2, by rw [u1]; exact h3, by rw [s1, s2, h4]⟩
theorem Pos.push (h : BfOk L n x) (hw : WtOk L wt) (hp : Pos wt x.hs) (hL : InL L n) {q : Pr} (hq : q ∈ L) (hlt : less x q = true) : Pos wt (push x q).hs := by
  have hv : q.2.1 < x.hs.length := by rw [h.hl]; exact (hL q hq).2
  have hlt2 := of_decide_eq_true hlt
  have hwt := hw.ge q hq
  let hs' : Hs := x.hs.set q.2.1 (some q.1)
  have gv : hs'.getD q.2.1 none = some q.1 := by
    show (x.hs.set q.2.1 (some q.1)).getD q.2.1 none = _
    rw [getD_setO hv, if_pos rfl]
  have uv : ∀ j, upk hs' (j + 1) q.2.1 = upk hs' j q.1 := fun j => by
    show (hs'.getD q.2.1 none).bind _ = _
    rw [gv]
    rfl
  have sv : ∀ j, sumUp wt hs' (j + 1) q.2.1 = wt q.1 q.2.1 + sumUp wt hs' j q.1 := fun j => by
    show (match hs'.getD q.2.1 none with
      | some u' => wt u' q.2.1 + sumUp wt hs' j u'
      | none => 0) = _
    rw [gv]
  -- rings through the new place
  have thru : ∀ N k, k < N → upk hs' (k + 1) q.2.1 = some q.2.1 → 0 < sumUp wt hs' (k + 1) q.2.1 := by
    intro N
    induction N with
    | zero => intro k hk; omega
    | succ N ih =>
      intro k hk e
      rw [uv] at e
      rw [sv]
      rcases set_split (wt := wt) hv k q.1 q.2.1 e with ⟨h1, h2⟩ | ⟨j, h1, h2, h3, h4⟩
      · have a := h.up_le hw k q.1 q.2.1 h1
        have h2' : sumUp wt hs' k q.1 = sumUp wt x.hs k q.1 := h2
        omega
      · have a := h.up_le hw j q.1 q.2.1 h2
        have h4' : sumUp wt hs' j q.1 = sumUp wt x.hs j q.1 := h4
        have h3' : upk hs' j q.1 = some q.2.1 := h3
        have hk2 : k = j + ((k - j - 1) + 1) := by omega
        rw [hk2, upk_add, h3'] at e
        have e3 : upk hs' ((k - j - 1) + 1) q.2.1 = some q.2.1 := e
        have b := ih (k - j - 1) (by omega) e3
        have c := sumUp_add wt hs' j ((k - j - 1) + 1) q.1 q.2.1 h3'
        rw [← hk2] at c
        omega
  intro k v e
  have e' : upk hs' (k + 1) v = some v := e
  show 0 < sumUp wt hs' (k + 1) v
  rcases set_split (wt := wt) hv (k + 1) v v e' with ⟨h1, h2⟩ | ⟨j, h1, h2, h3, h4⟩
  · have h2' : sumUp wt hs' (k + 1) v = sumUp wt x.hs (k + 1) v := h2
    rw [h2']
    exact hp k v h1
  · have h3' : upk hs' j v = some q.2.1 := h3
    have hk2 : k + 1 = j + (k + 1 - j) := by omega
    have e2 := e'
    rw [hk2, upk_add, h3'] at e2
    have e3 : upk hs' (k + 1 - j) q.2.1 = some v := e2
    have e4 : upk hs' ((k + 1 - j) + j) q.2.1 = some q.2.1 := by rw [upk_add, e3]; exact h3'
    have hk3 : (k + 1 - j) + j = k + 1 := by omega
    rw [hk3] at e4
    have a := thru (k + 1) k (by omega) e4
    have b := sumUp_add wt hs' j (k + 1 - j) v q.2.1 h3'
    rw [← hk2] at b
    have c := sumUp_add wt hs' (k + 1 - j) j q.2.1 v e3
    rw [hk3] at c
    omega
theorem Pos.relax (h : BfOk L n x) (hw : WtOk L wt) (hp : Pos wt x.hs) (hL : InL L n) {q : Pr} (hq : q ∈ L) : Pos wt (relax x q).hs := by
  unfold LB.relax
  split
  · rename_i hlt
    exact hp.push h hw hL hq hlt
  · exact hp
end
theorem Pos.fold {L : List Pr} {n : Nat} {wt : Nat → Nat → Int} (hw : WtOk L wt) (hL : InL L n) (hne : ∀ q, q ∈ L → q.1 ≠ q.2.1) : ∀ (M : List Pr) (x : Bf), (∀ q, q ∈ M → q ∈ L) → BfOk L n x → Pos wt x.hs → Pos wt (M.foldl LB.relax x).hs
  | [], _, _, _, h => h
  | q :: M, x, hM, h, hp => Pos.fold hw hL hne M _ (fun r hr => hM r (List.mem_cons_of_mem _ hr)) (h.relax hL hne (hM q List.mem_cons_self)) (hp.relax h hw hL (hM q List.mem_cons_self))
/-! ### the round in which a row was pushed last -/
structure Lu (L : List Pr) (r : Nat) (M : List Pr) (x : Bf) (lu : Nat → Nat) : Prop where
  le : ∀ v, lu v ≤ r
  one : ∀ v, 1 ≤ lu v → x.hs.getD v none ≠ none
  step : ∀ v u, x.hs.getD v none = some u → lu v ≤ lu u + 1
  old : ∀ q, q ∈ L → lu q.1 + 2 ≤ r → x.ss.getD q.1 0 + q.2.2 ≤ x.ss.getD q.2.1 0
  cur : ∀ q, q ∈ M → lu q.1 + 1 ≤ r → x.ss.getD q.1 0 + q.2.2 ≤ x.ss.getD q.2.1 0
  pu : ∀ v, x.pu = some v → lu v = r
theorem Lu.relax {L : List Pr} {n r : Nat} {M : List Pr} {x : Bf} {lu : Nat → Nat} (h : Lu L r M x lu) (ok : BfOk L n x) (hL : InL L n) (hne : ∀ q, q ∈ L → q.1 ≠ q.2.1) (hM : ∀ q, q ∈ M → q ∈ L) (hr : 1 ≤ r) {q : Pr} (hq : q ∈ L) : ∃ lu2, Lu L r (M ++ [q]) (relax x q) lu2 := by
  unfold LB.relax
  split
  · rename_i hlt
    have hlt2 := of_decide_eq_true hlt
    obtain ⟨q1, q2⟩ := hL q hq
    have hs1 := ok.sl
    have hs2 := ok.hl
    have gs : ∀ i, (push x q).ss.getD i 0 = if i = q.2.1 then x.ss.getD q.1 0 + q.2.2 else x.ss.getD i 0 := fun i => getD_set (by omega)
    have gh : ∀ i, (push x q).hs.getD i none = if i = q.2.1 then some q.1 else x.hs.getD i none := fun i => getD_setO (by omega)
    have up : ∀ i, x.ss.getD i 0 ≤ (push x q).ss.getD i 0 := fun i => by
      rw [gs]
      split
      · rename_i e
        rw [e]
        omega
      · exact Int.le_refl _
    have q1r : r ≤ lu q.1 + 1 := by
      refine Classical.byContradiction fun hc => ?_
      have := h.old q hq (by omega)
      omega
    refine ⟨fun v => if v = q.2.1 then r else lu v, fun v => ?_, fun v hv => ?_, fun v u hu => ?_, fun e he hle => ?_, fun e he hle => ?_, fun v hv => ?_⟩
    · show (if v = q.2.1 then r else lu v) ≤ r
      have := h.le v
      split <;> omega
    · rw [gh]
      have hv2 : 1 ≤ (if v = q.2.1 then r else lu v) := hv
      by_cases e : v = q.2.1
      · rw [if_pos e]
        exact fun h => by cases h
      · rw [if_neg e] at hv2 ⊢
        exact h.one v hv2
    · rw [gh] at hu
      show (if v = q.2.1 then r else lu v) ≤ (if u = q.2.1 then r else lu u) + 1
      have hu3 := h.le u
      by_cases e : v = q.2.1
      · rw [if_pos e] at hu ⊢
        cases hu
        rw [if_neg (hne q hq)]
        exact q1r
      · rw [if_neg e] at hu ⊢
        have := h.step v u hu
        split <;> omega
    · have hle2 : (if e.1 = q.2.1 then r else lu e.1) + 2 ≤ r := hle
      have hne1 : e.1 ≠ q.2.1 := fun hc => by rw [if_pos hc] at hle2; omega
      rw [if_neg hne1] at hle2
      rw [gs e.1, if_neg hne1]
      exact Int.le_trans (h.old e he hle2) (up _)
    · have hle2 : (if e.1 = q.2.1 then r else lu e.1) + 1 ≤ r := hle
      have hne1 : e.1 ≠ q.2.1 := fun hc => by rw [if_pos hc] at hle2; omega
      rw [if_neg hne1] at hle2
      rw [gs e.1, if_neg hne1]
      rcases List.mem_append.mp he with he | he
      · exact Int.le_trans (h.cur e he hle2) (up _)
      · cases List.mem_singleton.mp he
        rw [gs, if_pos rfl]
        exact Int.le_refl _
    · cases hv
      show (if q.2.1 = q.2.1 then r else lu q.2.1) = r
      rw [if_pos rfl]
  · rename_i hlt
    have hlt2 := of_decide_eq_false (Bool.eq_false_iff.mpr hlt)
    refine ⟨lu, h.le, h.one, h.step, h.old, fun e he hle => ?_, h.pu⟩
    rcases List.mem_append.mp he with he | he
    · exact h.cur e he hle
    · cases List.mem_singleton.mp he
      omega
theorem Lu.fold {L : List Pr} {n r : Nat} (hL : InL L n) (hne : ∀ q, q ∈ L → q.1 ≠ q.2.1) (hr : 1 ≤ r) : ∀ (N M : List Pr) (x : Bf) (lu : Nat → Nat), (∀ q, q ∈ M → q ∈ L) → (∀ q, q ∈ N → q ∈ L) → BfOk L n x → Lu L r M x lu → ∃ lu2, Lu L r (M ++ N) (N.foldl LB.relax x) lu2
  | [], M, x, lu, _, _, _, h => ⟨lu, by rw [List.append_nil]; exact h⟩
  | q :: N, M, x, lu, hM, hN, ok, h => by
    obtain ⟨lu1, h1⟩ := h.relax ok hL hne hM hr (hN q List.mem_cons_self)
    have z := Lu.fold hL hne hr N (M ++ [q]) _ lu1 (fun e he => by
      rcases List.mem_append.mp he with he | he
      · exact hM e he
      · cases List.mem_singleton.mp he
        exact hN _ List.mem_cons_self) (fun e he => hN e (List.mem_cons_of_mem _ he)) (ok.relax hL hne (hN q List.mem_cons_self)) h1
    rw [List.append_assoc] at z
    exact z
theorem Lu.round {L : List Pr} {n r : Nat} (hL : InL L n) (hne : ∀ q, q ∈ L → q.1 ≠ q.2.1) {x : Bf} {lu : Nat → Nat} (ok : BfOk L n x) (h : Lu L r L x lu) : ∃ lu2, Lu L (r + 1) L (round L x) lu2 := by
  have z := Lu.fold hL hne (r := r + 1) (by omega) L [] { x with pu := none } lu (fun _ h => by cases h) (fun _ h => h) ok.none_ ⟨fun v => Nat.le_succ_of_le (h.le v), h.one, h.step, fun q hq hle => h.cur q hq (by omega), (fun q hq => by cases hq), (fun v hv => by cases hv)⟩
  exact z
end
end LB

set_option Elab.async false
set_option linter.all false
set_option autoImplicit false
set_option maxRecDepth 100000
set_option maxHeartbeats 2000000
/-! Pure: the search's earliest, ways, rings in the store. -/
namespace LB
open PySem
noncomputable section
local macro_rules | `(tactic| simp_arith [$as,*]) => `(tactic| simp -implicitDefEqProofs (disch := first | assumption | decide | omega | (simp only [List.length_cons, List.length_nil, Mem.put_n, Mem.new_n, Mem.kill_n]; omega)) only [↓KO_some, ↓K_vr, ↓kVr_0, ↓kVr_s, ↓K_cn, ↓K_pure, ↓K_op2, ↓kOp2a_at, ↓kOp2b_at, ↓K_op1, ↓kOp1_at, ↓K_argN, ↓K_argC, ↓kArg1_at, ↓kArg2_at, ↓K_opN, ↓kOpN_at, ↓K_call, ↓kCall_1, ↓kCall_2, ↓kCall_3, ↓kCall_4, ↓kCall_5, ↓K_tpl, ↓K_lsl, ↓K_lsm, ↓K_dctE, ↓kTpl_0, ↓kTpl_1, ↓kTpl_2, ↓kTpl_3, ↓kTpl_4, ↓kTpl_5, ↓kLsl_0, ↓kLsl_1, ↓kLsl_2, ↓kLsl_3, ↓kLsl_4, ↓kLsm_0, ↓K_tV, ↓kTV_at, ↓K_tAnd, ↓kTAnd_t, ↓kTAnd_f, ↓K_tOr, ↓kTOr_t, ↓kTOr_f, ↓K_tNot, ↓kTNot_t, ↓kTNot_f, ↓kTNot_at, ↓K_tYes, ↓K_vAnd, ↓kVAnd_t, ↓kVAnd_f, ↓K_vOr, ↓kVOr_t, ↓kVOr_f, ↓K_vNot, ↓kVNot_at, ↓K_ifE, ↓kIfE_t, ↓kIfE_f, ↓K_chn, ↓kChn0_at, ↓kChn1_at, ↓kChn2_t, ↓kChn2_f, ↓K_soN, ↓K_soS, ↓kSoS_at, ↓K_slc, ↓kSlc0_at, ↓kSlc1_at, ↓kSlc2_at, ↓KSl_tup, ↓KSl_lst, ↓K_sNext, ↓K_sSeq, ↓kSeq_nx, ↓kSeq_rt, ↓K_sRet, ↓kRet_at, ↓K_sRetN, ↓K_sExp, ↓kExp_at, ↓K_sIf, ↓kIf_t, ↓kIf_f, ↓kSet_0, ↓kSet_s, ↓kUn_c, ↓kUn_n, ↓K_sAsg, ↓kAsg_nm, ↓kAsg_tp, ↓kNms_c, ↓kNmsC_at, ↓kNms_n, ↓K_sPar, ↓kPar1_at, ↓kPar2_at, ↓K_run, ↓kRun_rt, ↓kRun_nx, ↓K2_add_i, ↓K2_sub_i, ↓K2_mul_i, ↓K2_mod_i, ↓K2_fdiv_i, ↓K2_lt_i, ↓K2_le_i, ↓K2_gt_i, ↓K2_ge_i, ↓K2_eq_i, ↓K2_ne_i, ↓K2_eq_st, ↓K2_eq_sf, ↓K2_ne_st, ↓K2_ne_sf, ↓K2_eq_b, ↓K2_add_t, ↓K2_add_l, ↓K1_neg_i, ↓K2_isN_n, ↓K2_isN_i, ↓K2_isN_s, ↓K2_isN_t, ↓K2_isN_l, ↓K2_isN_c, ↓K2_notN_n, ↓K2_notN_i, ↓K2_notN_s, ↓K2_notN_t, ↓K2_notN_l, ↓K2_notN_c, ↓K2_ix_t, ↓K2_ix_l, ↓KIx_0, ↓KIx_1, ↓KIx_2, ↓KIx_3, ↓KIx_4, ↓KIx_m1a, ↓KIx_m1b, ↓KIx_m1c, ↓KIx_m1d, ↓KN_len_t, ↓KN_len_l, ↓KN_max2, ↓KN_min2, ↓KN_int_i, ↓KN_int_t, ↓KN_int_f, ↓KN_tuple_l, ↓KN_tuple_t, ↓KN_maxl, ↓KN_suml, ↓K1_isi_n, ↓K1_isi_b, ↓K1_isi_i, ↓K1_isi_s, ↓K1_isi_t, ↓K1_isi_l, ↓KG_put_eq, ↓KG_put_ne, ↓KG_new_eq, ↓KG_new_ne, ↓KG_kill_ne, ↓K2_ix_c, ↓kIxL_at, ↓KN_len_c, ↓kLenL_l, ↓kLenL_d, ↓KN_tuple_c, ↓kTupL_at, ↓KN_max_c, ↓kMaxL_at, ↓KSl_c, ↓kSlL_at, ↓K_appE, ↓kApp1_at, ↓kApp1b_at, ↓kApp2_at, ↓kApp3_at, ↓K_sLput, ↓kPut1_at, ↓kPut2_at, ↓kPut3_at, ↓kPut4_at, ↓K2_dget_i, ↓K2_dget_s, ↓kDgD_at, ↓KVk_eq, ↓KVk_ne, ↓KVd_eq, ↓KVd_ne, ↓KVd_n, ↓K_dget2, ↓kDg1_at, ↓kDg1b_at, ↓kDg2_at, ↓kDg3_at, ↓kDg4_i, ↓kDg4_s, ↓K_sDput, ↓kDp1_at, ↓kDp2_at, ↓kDp3_i, ↓kDp3_s, ↓kDp4_at, ↓K1_fld, ↓kFldO_at, ↓KFl_eq, ↓KFl_ne, ↓K_sFput, ↓kFp1_at, ↓kFp2_at, ↓kFp3_at, ↓kPf_n, ↓kPf_eq, ↓kPu_c, ↓kPu_n, ↓kPf_ne, ↓K_callM, ↓kMt1_at, ↓kMt2_at, ↓kNo_n, ↓kNo_c, ↓kMt3_0, ↓kMt3_1, ↓kMt3_2, ↓kMt3_3, ↓kMt3_4, ↓K_mkE, ↓kMk_1, ↓kMk_2, ↓kMk_3, ↓kMk2_at, ↓K_sFor, ↓kFor_at, ↓K_itRng1, ↓kRng1_nat, ↓K_itRng2, ↓kRng2_at, ↓K_itSeq, ↓kSeqI_t, ↓kSeqI_l, ↓kSeqI_c, ↓kSeqL_at, ↓K_bodyG_nm, ↓K_bodyG_tp, ↓K_sWhile, ↓kComp_at, ↓K_comp, ↓K_compM, ↓kLst_at, ↓kLstM_at, ↓kEx_at, ↓K_exG_nm, ↓K_exG_tp, ↓kAlc_at, ↓K_opNM, ↓kOpNM_at, ↓KN_list_l2, ↓KN_list_t2, ↓KN_list_c, ↓kListL_at, ↓K_op2M, ↓kOp2Ma_at, ↓kOp2Mb_at, ↓K2_rep1, ↓K_prE_n, ↓K_prE_c, ↓kPr1_at, ↓kPr2_at, ↓kPr3_at, ↓K_dspE, ↓kDsp_s1, ↓kDsp_s2, ↓kDsp_s3, ↓kDsp_s4, ↓K_frz, ↓kFrz_c, ↓kFrz_l, ↓kFrz_t, ↓kFrz_n, ↓kFrzL_at, ↓K_extE, ↓kExt1_at, ↓kExt1b_at, ↓kExt2_at, ↓kExt3_at, ↓K_mt0E, ↓kMt0_at, ↓kMt0L_clear, ↓kMt0L_rev, ↓K2_in_t, ↓K2_in_f, ↓K2_notIn_t, ↓K2_notIn_f, ↓K_itZp, ↓kZp1_at, ↓K_itEn, ↓kEnI_t, ↓kEnI_l, ↓K2_din_i, ↓kDinD_at, ↓KR_put_0, ↓KR_put_1, ↓KR_put_2, ↓KR_put_l, ↓KR_put_into, ↓KR_put_end, ↓KR_put_looked, ↓KR_put_cut, ↓KR_move_0, ↓KR_move_1, ↓KR_move_2, ↓KR_move_l, ↓KR_move_into, ↓KR_move_end, ↓KR_move_looked, ↓KR_move_cut, ↓KR_add_0, ↓KR_add_1, ↓KR_add_2, ↓KR_add_3, ↓KR_add_l, ↓KR_add_into, ↓KR_add_end, ↓KR_add_looked, ↓KR_add_cut, ↓KR_take_0, ↓KR_take_1, ↓KR_take_2, ↓KR_take_3, ↓KR_take_l, ↓KR_take_into, ↓KR_take_end, ↓KR_take_looked, ↓KR_take_cut, ↓KR_times_0, ↓KR_times_1, ↓KR_times_2, ↓KR_times_3, ↓KR_times_l, ↓KR_times_into, ↓KR_times_end, ↓KR_times_looked, ↓KR_times_cut, ↓KR_get_0, ↓KR_get_1, ↓KR_get_2, ↓KR_get_l, ↓KR_get_into, ↓KR_get_end, ↓KR_get_looked, ↓KR_get_cut, ↓KR_set_0, ↓KR_set_1, ↓KR_set_2, ↓KR_set_l, ↓KR_set_into, ↓KR_set_end, ↓KR_set_looked, ↓KR_set_cut, ↓KR_say_0, ↓KR_say_1, ↓KR_say_l, ↓KR_say_into, ↓KR_say_end, ↓KR_say_looked, ↓KR_say_cut, ↓KR_rest_0, ↓KR_rest_l, ↓KR_rest_into, ↓KR_rest_end, ↓KR_rest_looked, ↓KR_rest_cut, ↓KR_go_0, ↓KR_go_1, ↓KR_go_l, ↓KR_go_into, ↓KR_go_end, ↓KR_go_looked, ↓KR_go_cut, ↓KR_ifr_0, ↓KR_ifr_1, ↓KR_ifr_2, ↓KR_ifr_l, ↓KR_ifr_into, ↓KR_ifr_end, ↓KR_ifr_looked, ↓KR_ifr_cut, ↓KR_stop_0, ↓KR_stop_l, ↓KR_stop_into, ↓KR_stop_end, ↓KR_stop_looked, ↓KR_stop_cut, ↓KR_late, ↓KR_far, ↓KR_num, ↓KR_mill_0, ↓KR_mill_1, ↓KR_mill_2, ↓KR_mill_3, ↓KR_pi_len, ↓KA_stop, ↓KA_goes, ↓KA_ends, ↓K_mt1E, ↓kM1_l, ↓kM1_s, ↓kM1b_at, ↓K1_isi_c, ↓kIsiL_at, ↓KN_minl, start0, List.map_cons, List.map_nil, List.length_cons, List.length_nil, List.replicate_succ, List.replicate_zero, Nat.reduceSub, Nat.reduceAdd, wipeE, List.set_cons_zero, List.set_cons_succ, List.cons_append, List.nil_append, $as,*])
abbrev Od := Nat × Nat
def Od.enc (q : Od) : D := .tup [.int q.1, .int q.2]
/-! ### chains, rings -/
end
end LB

set_option Elab.async false
set_option linter.all false
set_option autoImplicit false
set_option maxRecDepth 100000
set_option maxHeartbeats 2000000
/-! Pure: beats of starts in the store, ways. -/
namespace LB
open PySem
noncomputable section
local macro_rules | `(tactic| simp_arith [$as,*]) => `(tactic| simp -implicitDefEqProofs (disch := first | assumption | decide | omega | (simp only [List.length_cons, List.length_nil, Mem.put_n, Mem.new_n, Mem.kill_n]; omega)) only [↓KO_some, ↓K_vr, ↓kVr_0, ↓kVr_s, ↓K_cn, ↓K_pure, ↓K_op2, ↓kOp2a_at, ↓kOp2b_at, ↓K_op1, ↓kOp1_at, ↓K_argN, ↓K_argC, ↓kArg1_at, ↓kArg2_at, ↓K_opN, ↓kOpN_at, ↓K_call, ↓kCall_1, ↓kCall_2, ↓kCall_3, ↓kCall_4, ↓kCall_5, ↓K_tpl, ↓K_lsl, ↓K_lsm, ↓K_dctE, ↓kTpl_0, ↓kTpl_1, ↓kTpl_2, ↓kTpl_3, ↓kTpl_4, ↓kTpl_5, ↓kLsl_0, ↓kLsl_1, ↓kLsl_2, ↓kLsl_3, ↓kLsl_4, ↓kLsm_0, ↓K_tV, ↓kTV_at, ↓K_tAnd, ↓kTAnd_t, ↓kTAnd_f, ↓K_tOr, ↓kTOr_t, ↓kTOr_f, ↓K_tNot, ↓kTNot_t, ↓kTNot_f, ↓kTNot_at, ↓K_tYes, ↓K_vAnd, ↓kVAnd_t, ↓kVAnd_f, ↓K_vOr, ↓kVOr_t, ↓kVOr_f, ↓K_vNot, ↓kVNot_at, ↓K_ifE, ↓kIfE_t, ↓kIfE_f, ↓K_chn, ↓kChn0_at, ↓kChn1_at, ↓kChn2_t, ↓kChn2_f, ↓K_soN, ↓K_soS, ↓kSoS_at, ↓K_slc, ↓kSlc0_at, ↓kSlc1_at, ↓kSlc2_at, ↓KSl_tup, ↓KSl_lst, ↓K_sNext, ↓K_sSeq, ↓kSeq_nx, ↓kSeq_rt, ↓K_sRet, ↓kRet_at, ↓K_sRetN, ↓K_sExp, ↓kExp_at, ↓K_sIf, ↓kIf_t, ↓kIf_f, ↓kSet_0, ↓kSet_s, ↓kUn_c, ↓kUn_n, ↓K_sAsg, ↓kAsg_nm, ↓kAsg_tp, ↓kNms_c, ↓kNmsC_at, ↓kNms_n, ↓K_sPar, ↓kPar1_at, ↓kPar2_at, ↓K_run, ↓kRun_rt, ↓kRun_nx, ↓K2_add_i, ↓K2_sub_i, ↓K2_mul_i, ↓K2_mod_i, ↓K2_fdiv_i, ↓K2_lt_i, ↓K2_le_i, ↓K2_gt_i, ↓K2_ge_i, ↓K2_eq_i, ↓K2_ne_i, ↓K2_eq_st, ↓K2_eq_sf, ↓K2_ne_st, ↓K2_ne_sf, ↓K2_eq_b, ↓K2_add_t, ↓K2_add_l, ↓K1_neg_i, ↓K2_isN_n, ↓K2_isN_i, ↓K2_isN_s, ↓K2_isN_t, ↓K2_isN_l, ↓K2_isN_c, ↓K2_notN_n, ↓K2_notN_i, ↓K2_notN_s, ↓K2_notN_t, ↓K2_notN_l, ↓K2_notN_c, ↓K2_ix_t, ↓K2_ix_l, ↓KIx_0, ↓KIx_1, ↓KIx_2, ↓KIx_3, ↓KIx_4, ↓KIx_m1a, ↓KIx_m1b, ↓KIx_m1c, ↓KIx_m1d, ↓KN_len_t, ↓KN_len_l, ↓KN_max2, ↓KN_min2, ↓KN_int_i, ↓KN_int_t, ↓KN_int_f, ↓KN_tuple_l, ↓KN_tuple_t, ↓KN_maxl, ↓KN_suml, ↓K1_isi_n, ↓K1_isi_b, ↓K1_isi_i, ↓K1_isi_s, ↓K1_isi_t, ↓K1_isi_l, ↓KG_put_eq, ↓KG_put_ne, ↓KG_new_eq, ↓KG_new_ne, ↓KG_kill_ne, ↓K2_ix_c, ↓kIxL_at, ↓KN_len_c, ↓kLenL_l, ↓kLenL_d, ↓KN_tuple_c, ↓kTupL_at, ↓KN_max_c, ↓kMaxL_at, ↓KSl_c, ↓kSlL_at, ↓K_appE, ↓kApp1_at, ↓kApp1b_at, ↓kApp2_at, ↓kApp3_at, ↓K_sLput, ↓kPut1_at, ↓kPut2_at, ↓kPut3_at, ↓kPut4_at, ↓K2_dget_i, ↓K2_dget_s, ↓kDgD_at, ↓KVk_eq, ↓KVk_ne, ↓KVd_eq, ↓KVd_ne, ↓KVd_n, ↓K_dget2, ↓kDg1_at, ↓kDg1b_at, ↓kDg2_at, ↓kDg3_at, ↓kDg4_i, ↓kDg4_s, ↓K_sDput, ↓kDp1_at, ↓kDp2_at, ↓kDp3_i, ↓kDp3_s, ↓kDp4_at, ↓K1_fld, ↓kFldO_at, ↓KFl_eq, ↓KFl_ne, ↓K_sFput, ↓kFp1_at, ↓kFp2_at, ↓kFp3_at, ↓kPf_n, ↓kPf_eq, ↓kPu_c, ↓kPu_n, ↓kPf_ne, ↓K_callM, ↓kMt1_at, ↓kMt2_at, ↓kNo_n, ↓kNo_c, ↓kMt3_0, ↓kMt3_1, ↓kMt3_2, ↓kMt3_3, ↓kMt3_4, ↓K_mkE, ↓kMk_1, ↓kMk_2, ↓kMk_3, ↓kMk2_at, ↓K_sFor, ↓kFor_at, ↓K_itRng1, ↓kRng1_nat, ↓K_itRng2, ↓kRng2_at, ↓K_itSeq, ↓kSeqI_t, ↓kSeqI_l, ↓kSeqI_c, ↓kSeqL_at, ↓K_bodyG_nm, ↓K_bodyG_tp, ↓K_sWhile, ↓kComp_at, ↓K_comp, ↓K_compM, ↓kLst_at, ↓kLstM_at, ↓kEx_at, ↓K_exG_nm, ↓K_exG_tp, ↓kAlc_at, ↓K_opNM, ↓kOpNM_at, ↓KN_list_l2, ↓KN_list_t2, ↓KN_list_c, ↓kListL_at, ↓K_op2M, ↓kOp2Ma_at, ↓kOp2Mb_at, ↓K2_rep1, ↓K_prE_n, ↓K_prE_c, ↓kPr1_at, ↓kPr2_at, ↓kPr3_at, ↓K_dspE, ↓kDsp_s1, ↓kDsp_s2, ↓kDsp_s3, ↓kDsp_s4, ↓K_frz, ↓kFrz_c, ↓kFrz_l, ↓kFrz_t, ↓kFrz_n, ↓kFrzL_at, ↓K_extE, ↓kExt1_at, ↓kExt1b_at, ↓kExt2_at, ↓kExt3_at, ↓K_mt0E, ↓kMt0_at, ↓kMt0L_clear, ↓kMt0L_rev, ↓K2_in_t, ↓K2_in_f, ↓K2_notIn_t, ↓K2_notIn_f, ↓K_itZp, ↓kZp1_at, ↓K_itEn, ↓kEnI_t, ↓kEnI_l, ↓K2_din_i, ↓kDinD_at, ↓KR_put_0, ↓KR_put_1, ↓KR_put_2, ↓KR_put_l, ↓KR_put_into, ↓KR_put_end, ↓KR_put_looked, ↓KR_put_cut, ↓KR_move_0, ↓KR_move_1, ↓KR_move_2, ↓KR_move_l, ↓KR_move_into, ↓KR_move_end, ↓KR_move_looked, ↓KR_move_cut, ↓KR_add_0, ↓KR_add_1, ↓KR_add_2, ↓KR_add_3, ↓KR_add_l, ↓KR_add_into, ↓KR_add_end, ↓KR_add_looked, ↓KR_add_cut, ↓KR_take_0, ↓KR_take_1, ↓KR_take_2, ↓KR_take_3, ↓KR_take_l, ↓KR_take_into, ↓KR_take_end, ↓KR_take_looked, ↓KR_take_cut, ↓KR_times_0, ↓KR_times_1, ↓KR_times_2, ↓KR_times_3, ↓KR_times_l, ↓KR_times_into, ↓KR_times_end, ↓KR_times_looked, ↓KR_times_cut, ↓KR_get_0, ↓KR_get_1, ↓KR_get_2, ↓KR_get_l, ↓KR_get_into, ↓KR_get_end, ↓KR_get_looked, ↓KR_get_cut, ↓KR_set_0, ↓KR_set_1, ↓KR_set_2, ↓KR_set_l, ↓KR_set_into, ↓KR_set_end, ↓KR_set_looked, ↓KR_set_cut, ↓KR_say_0, ↓KR_say_1, ↓KR_say_l, ↓KR_say_into, ↓KR_say_end, ↓KR_say_looked, ↓KR_say_cut, ↓KR_rest_0, ↓KR_rest_l, ↓KR_rest_into, ↓KR_rest_end, ↓KR_rest_looked, ↓KR_rest_cut, ↓KR_go_0, ↓KR_go_1, ↓KR_go_l, ↓KR_go_into, ↓KR_go_end, ↓KR_go_looked, ↓KR_go_cut, ↓KR_ifr_0, ↓KR_ifr_1, ↓KR_ifr_2, ↓KR_ifr_l, ↓KR_ifr_into, ↓KR_ifr_end, ↓KR_ifr_looked, ↓KR_ifr_cut, ↓KR_stop_0, ↓KR_stop_l, ↓KR_stop_into, ↓KR_stop_end, ↓KR_stop_looked, ↓KR_stop_cut, ↓KR_late, ↓KR_far, ↓KR_num, ↓KR_mill_0, ↓KR_mill_1, ↓KR_mill_2, ↓KR_mill_3, ↓KR_pi_len, ↓KA_stop, ↓KA_goes, ↓KA_ends, ↓K_mt1E, ↓kM1_l, ↓kM1_s, ↓kM1b_at, ↓K1_isi_c, ↓kIsiL_at, ↓KN_minl, start0, List.map_cons, List.map_nil, List.length_cons, List.length_nil, List.replicate_succ, List.replicate_zero, Nat.reduceSub, Nat.reduceAdd, wipeE, List.set_cons_zero, List.set_cons_succ, List.cons_append, List.nil_append, $as,*])
/-- how late it is behind its rows -/
def endL (t : Mill) (p : List Row) (ss : List Int) : List Int := List.zipWith (fun r b => b + (r.tailR t : Int)) p ss
theorem beatsP_end {t : Mill} {p : List Row} {ss : List Int} {r : Row} {b : Int} (hr : p.getLast? = some r) (hb : ss.getLast? = some b) : beatsP t p ss = if r.ends = true then b + r.tailR t + 1 else ((maxL (endL t p ss)).getD 0) + 1 := by
  unfold beatsP
  rw [hr, hb]
  unfold beatsZ endL
  have e1 : p.dropLast ++ [r] = p := by
    rw [List.getLast?_eq_some_iff] at hr
    obtain ⟨q, rfl⟩ := hr
    rw [List.dropLast_concat]
  have e2 : ss.dropLast ++ [b] = ss := by
    rw [List.getLast?_eq_some_iff] at hb
    obtain ⟨q, rfl⟩ := hb
    rw [List.dropLast_concat]
  simp only [e1, e2]
theorem last_of {α : Type} {xs : List α} (h : 1 ≤ xs.length) : ∃ x, xs.getLast? = some x := by
  cases hx : xs.getLast? with
  | some x => exact ⟨x, rfl⟩
  | none =>
    rw [List.getLast?_eq_none_iff] at hx
    rw [hx] at h
    exact absurd h (by simp)
theorem maxL_ex : ∀ {xs : List Int}, 1 ≤ xs.length → ∃ k, maxL xs = some k
  | [], h => absurd h (by simp)
  | i :: r, _ => by
    unfold maxL
    split <;> exact ⟨_, rfl⟩
theorem maxL_ge : ∀ {xs : List Int} {k : Int}, maxL xs = some k → ∀ v, v ∈ xs → v ≤ k
  | [], k, h, v, hv => by cases hv
  | i :: r, k, h, v, hv => by
    have h2 : (match maxL r with
      | none => some i
      | some j => some (if j > i then j else i)) = some k := h
    cases hm : maxL r with
    | none =>
      rw [hm] at h2
      cases h2
      rcases List.mem_cons.mp hv with rfl | hv
      · exact Int.le_refl _
      · cases r with
        | nil => cases hv
        | cons a b =>
          obtain ⟨z, hz⟩ := maxL_ex (xs := a :: b) (by simp)
          rw [hz] at hm
          cases hm
    | some j =>
      rw [hm] at h2
      have h3 := Option.some.inj h2
      have h4 : k = if j > i then j else i := h3.symm
      rcases List.mem_cons.mp hv with rfl | hv
      · rw [h4]
        split <;> omega
      · have := maxL_ge hm v hv
        rw [h4]
        split <;> omega
end
end LB

set_option Elab.async false
set_option linter.all false
set_option autoImplicit false
set_option maxRecDepth 100000
set_option maxHeartbeats 2000000
/-! Plain: where blocks begin and end. -/
namespace LB
open PySem
noncomputable section
local macro_rules | `(tactic| simp_arith [$as,*]) => `(tactic| simp -implicitDefEqProofs (disch := first | assumption | decide | omega | (simp only [List.length_cons, List.length_nil, Mem.put_n, Mem.new_n, Mem.kill_n]; omega)) only [↓KO_some, ↓K_vr, ↓kVr_0, ↓kVr_s, ↓K_cn, ↓K_pure, ↓K_op2, ↓kOp2a_at, ↓kOp2b_at, ↓K_op1, ↓kOp1_at, ↓K_argN, ↓K_argC, ↓kArg1_at, ↓kArg2_at, ↓K_opN, ↓kOpN_at, ↓K_call, ↓kCall_1, ↓kCall_2, ↓kCall_3, ↓kCall_4, ↓kCall_5, ↓K_tpl, ↓K_lsl, ↓K_lsm, ↓K_dctE, ↓kTpl_0, ↓kTpl_1, ↓kTpl_2, ↓kTpl_3, ↓kTpl_4, ↓kTpl_5, ↓kLsl_0, ↓kLsl_1, ↓kLsl_2, ↓kLsl_3, ↓kLsl_4, ↓kLsm_0, ↓K_tV, ↓kTV_at, ↓K_tAnd, ↓kTAnd_t, ↓kTAnd_f, ↓K_tOr, ↓kTOr_t, ↓kTOr_f, ↓K_tNot, ↓kTNot_t, ↓kTNot_f, ↓kTNot_at, ↓K_tYes, ↓K_vAnd, ↓kVAnd_t, ↓kVAnd_f, ↓K_vOr, ↓kVOr_t, ↓kVOr_f, ↓K_vNot, ↓kVNot_at, ↓K_ifE, ↓kIfE_t, ↓kIfE_f, ↓K_chn, ↓kChn0_at, ↓kChn1_at, ↓kChn2_t, ↓kChn2_f, ↓K_soN, ↓K_soS, ↓kSoS_at, ↓K_slc, ↓kSlc0_at, ↓kSlc1_at, ↓kSlc2_at, ↓KSl_tup, ↓KSl_lst, ↓K_sNext, ↓K_sSeq, ↓kSeq_nx, ↓kSeq_rt, ↓K_sRet, ↓kRet_at, ↓K_sRetN, ↓K_sExp, ↓kExp_at, ↓K_sIf, ↓kIf_t, ↓kIf_f, ↓kSet_0, ↓kSet_s, ↓kUn_c, ↓kUn_n, ↓K_sAsg, ↓kAsg_nm, ↓kAsg_tp, ↓kNms_c, ↓kNmsC_at, ↓kNms_n, ↓K_sPar, ↓kPar1_at, ↓kPar2_at, ↓K_run, ↓kRun_rt, ↓kRun_nx, ↓K2_add_i, ↓K2_sub_i, ↓K2_mul_i, ↓K2_mod_i, ↓K2_fdiv_i, ↓K2_lt_i, ↓K2_le_i, ↓K2_gt_i, ↓K2_ge_i, ↓K2_eq_i, ↓K2_ne_i, ↓K2_eq_st, ↓K2_eq_sf, ↓K2_ne_st, ↓K2_ne_sf, ↓K2_eq_b, ↓K2_add_t, ↓K2_add_l, ↓K1_neg_i, ↓K2_isN_n, ↓K2_isN_i, ↓K2_isN_s, ↓K2_isN_t, ↓K2_isN_l, ↓K2_isN_c, ↓K2_notN_n, ↓K2_notN_i, ↓K2_notN_s, ↓K2_notN_t, ↓K2_notN_l, ↓K2_notN_c, ↓K2_ix_t, ↓K2_ix_l, ↓KIx_0, ↓KIx_1, ↓KIx_2, ↓KIx_3, ↓KIx_4, ↓KIx_m1a, ↓KIx_m1b, ↓KIx_m1c, ↓KIx_m1d, ↓KN_len_t, ↓KN_len_l, ↓KN_max2, ↓KN_min2, ↓KN_int_i, ↓KN_int_t, ↓KN_int_f, ↓KN_tuple_l, ↓KN_tuple_t, ↓KN_maxl, ↓KN_suml, ↓K1_isi_n, ↓K1_isi_b, ↓K1_isi_i, ↓K1_isi_s, ↓K1_isi_t, ↓K1_isi_l, ↓KG_put_eq, ↓KG_put_ne, ↓KG_new_eq, ↓KG_new_ne, ↓KG_kill_ne, ↓K2_ix_c, ↓kIxL_at, ↓KN_len_c, ↓kLenL_l, ↓kLenL_d, ↓KN_tuple_c, ↓kTupL_at, ↓KN_max_c, ↓kMaxL_at, ↓KSl_c, ↓kSlL_at, ↓K_appE, ↓kApp1_at, ↓kApp1b_at, ↓kApp2_at, ↓kApp3_at, ↓K_sLput, ↓kPut1_at, ↓kPut2_at, ↓kPut3_at, ↓kPut4_at, ↓K2_dget_i, ↓K2_dget_s, ↓kDgD_at, ↓KVk_eq, ↓KVk_ne, ↓KVd_eq, ↓KVd_ne, ↓KVd_n, ↓K_dget2, ↓kDg1_at, ↓kDg1b_at, ↓kDg2_at, ↓kDg3_at, ↓kDg4_i, ↓kDg4_s, ↓K_sDput, ↓kDp1_at, ↓kDp2_at, ↓kDp3_i, ↓kDp3_s, ↓kDp4_at, ↓K1_fld, ↓kFldO_at, ↓KFl_eq, ↓KFl_ne, ↓K_sFput, ↓kFp1_at, ↓kFp2_at, ↓kFp3_at, ↓kPf_n, ↓kPf_eq, ↓kPu_c, ↓kPu_n, ↓kPf_ne, ↓K_callM, ↓kMt1_at, ↓kMt2_at, ↓kNo_n, ↓kNo_c, ↓kMt3_0, ↓kMt3_1, ↓kMt3_2, ↓kMt3_3, ↓kMt3_4, ↓K_mkE, ↓kMk_1, ↓kMk_2, ↓kMk_3, ↓kMk2_at, ↓K_sFor, ↓kFor_at, ↓K_itRng1, ↓kRng1_nat, ↓K_itRng2, ↓kRng2_at, ↓K_itSeq, ↓kSeqI_t, ↓kSeqI_l, ↓kSeqI_c, ↓kSeqL_at, ↓K_bodyG_nm, ↓K_bodyG_tp, ↓K_sWhile, ↓kComp_at, ↓K_comp, ↓K_compM, ↓kLst_at, ↓kLstM_at, ↓kEx_at, ↓K_exG_nm, ↓K_exG_tp, ↓kAlc_at, ↓K_opNM, ↓kOpNM_at, ↓KN_list_l2, ↓KN_list_t2, ↓KN_list_c, ↓kListL_at, ↓K_op2M, ↓kOp2Ma_at, ↓kOp2Mb_at, ↓K2_rep1, ↓K_prE_n, ↓K_prE_c, ↓kPr1_at, ↓kPr2_at, ↓kPr3_at, ↓K_dspE, ↓kDsp_s1, ↓kDsp_s2, ↓kDsp_s3, ↓kDsp_s4, ↓K_frz, ↓kFrz_c, ↓kFrz_l, ↓kFrz_t, ↓kFrz_n, ↓kFrzL_at, ↓K_extE, ↓kExt1_at, ↓kExt1b_at, ↓kExt2_at, ↓kExt3_at, ↓K_mt0E, ↓kMt0_at, ↓kMt0L_clear, ↓kMt0L_rev, ↓K2_in_t, ↓K2_in_f, ↓K2_notIn_t, ↓K2_notIn_f, ↓K_itZp, ↓kZp1_at, ↓K_itEn, ↓kEnI_t, ↓kEnI_l, ↓K2_din_i, ↓kDinD_at, ↓KR_put_0, ↓KR_put_1, ↓KR_put_2, ↓KR_put_l, ↓KR_put_into, ↓KR_put_end, ↓KR_put_looked, ↓KR_put_cut, ↓KR_move_0, ↓KR_move_1, ↓KR_move_2, ↓KR_move_l, ↓KR_move_into, ↓KR_move_end, ↓KR_move_looked, ↓KR_move_cut, ↓KR_add_0, ↓KR_add_1, ↓KR_add_2, ↓KR_add_3, ↓KR_add_l, ↓KR_add_into, ↓KR_add_end, ↓KR_add_looked, ↓KR_add_cut, ↓KR_take_0, ↓KR_take_1, ↓KR_take_2, ↓KR_take_3, ↓KR_take_l, ↓KR_take_into, ↓KR_take_end, ↓KR_take_looked, ↓KR_take_cut, ↓KR_times_0, ↓KR_times_1, ↓KR_times_2, ↓KR_times_3, ↓KR_times_l, ↓KR_times_into, ↓KR_times_end, ↓KR_times_looked, ↓KR_times_cut, ↓KR_get_0, ↓KR_get_1, ↓KR_get_2, ↓KR_get_l, ↓KR_get_into, ↓KR_get_end, ↓KR_get_looked, ↓KR_get_cut, ↓KR_set_0, ↓KR_set_1, ↓KR_set_2, ↓KR_set_l, ↓KR_set_into, ↓KR_set_end, ↓KR_set_looked, ↓KR_set_cut, ↓KR_say_0, ↓KR_say_1, ↓KR_say_l, ↓KR_say_into, ↓KR_say_end, ↓KR_say_looked, ↓KR_say_cut, ↓KR_rest_0, ↓KR_rest_l, ↓KR_rest_into, ↓KR_rest_end, ↓KR_rest_looked, ↓KR_rest_cut, ↓KR_go_0, ↓KR_go_1, ↓KR_go_l, ↓KR_go_into, ↓KR_go_end, ↓KR_go_looked, ↓KR_go_cut, ↓KR_ifr_0, ↓KR_ifr_1, ↓KR_ifr_2, ↓KR_ifr_l, ↓KR_ifr_into, ↓KR_ifr_end, ↓KR_ifr_looked, ↓KR_ifr_cut, ↓KR_stop_0, ↓KR_stop_l, ↓KR_stop_into, ↓KR_stop_end, ↓KR_stop_looked, ↓KR_stop_cut, ↓KR_late, ↓KR_far, ↓KR_num, ↓KR_mill_0, ↓KR_mill_1, ↓KR_mill_2, ↓KR_mill_3, ↓KR_pi_len, ↓KA_stop, ↓KA_goes, ↓KA_ends, ↓K_mt1E, ↓kM1_l, ↓kM1_s, ↓kM1b_at, ↓K1_isi_c, ↓kIsiL_at, ↓KN_minl, start0, List.map_cons, List.map_nil, List.length_cons, List.length_nil, List.replicate_succ, List.replicate_zero, Nat.reduceSub, Nat.reduceAdd, wipeE, List.set_cons_zero, List.set_cons_succ, List.cons_append, List.nil_append, $as,*])
def Row.goal : Row → Int
  | .go r => r
  | .ifr _ r => r
  | _ => 0
theorem goal_okY {n : Nat} {r : Row} (h : r.okB n = true) (hg : r.goes = true) : r.goal < n := by
  cases r <;> first
    | cases hg
    | skip
  · simp [Row.okB, Row.parts, Row.sorts, most] at h
    simp only [Row.goal]
    omega
  · simp [Row.okB, Row.parts, Row.sorts, most] at h
    simp only [Row.goal]
    omega
/-- what the rows ahead of the i-th tell of where a block begins -/
def Tells (p : List Row) (i : Nat) (x : Int) : Prop := x = 0 ∨ ∃ j r, j < i ∧ p[j]? = some r ∧ ((r.goes = true ∧ x = r.goal) ∨ (r.ends = true ∧ x = (j : Nat) + 1))
/-- the beginnings, rising -/
structure Begs (p : List Row) (L : List Int) : Prop where
  rise : L.Pairwise (· ≤ ·)
  nd : L.Nodup
  mem : ∀ x, x ∈ L ↔ Tells p p.length x ∧ x < p.length
  len : L.length ≤ 1 + 2 * p.length
theorem Begs.last {p : List Row} {L : List Int} (h : Begs p L) : (L ++ [(p.length : Int)]).Pairwise (· ≤ ·) ∧ (L ++ [(p.length : Int)]).Nodup ∧ ∀ x, x ∈ L ++ [(p.length : Int)] ↔ (Tells p p.length x ∧ x < p.length) ∨ x = p.length := by
  refine ⟨List.pairwise_append.mpr ⟨h.rise, List.pairwise_singleton _ _, fun a ha b hb => ?_⟩, List.nodup_append.mpr ⟨h.nd, by simp, fun a ha b hb => ?_⟩, fun x => ?_⟩
  · rw [List.mem_singleton.mp hb]
    have := ((h.mem a).mp ha).2
    omega
  · rw [List.mem_singleton.mp hb]
    have := ((h.mem a).mp ha).2
    omega
  · rw [List.mem_append, List.mem_singleton, h.mem x]
/-! a dict of numbers -/
section
variable {β : Type}
end
end
end LB

set_option Elab.async false
set_option linter.all false
set_option autoImplicit false
set_option maxRecDepth 100000
set_option maxHeartbeats 2000000
/-! Pure: starts in turn, each as soon as may be. -/
namespace LB
open PySem
noncomputable section
/-- the tie of two rows -/
def tieP (p : List Row) (t : Mill) (i j : Nat) : List Pr := match p[i]?, p[j]? with
  | some r, some s => match maxL (farL r s t) with
    | some f => [(i, j, f)]
    | none => []
  | _, _ => []
def tiesP (p : List Row) (t : Mill) : List Pr := (List.range p.length).flatMap fun a => (List.range (p.length - (a + 1))).flatMap fun d => tieP p t a (a + 1 + d)
theorem mem_tiesP {p : List Row} {t : Mill} {q : Pr} : q ∈ tiesP p t ↔ q.1 < q.2.1 ∧ ∃ r s, p[q.1]? = some r ∧ p[q.2.1]? = some s ∧ maxL (farL r s t) = some q.2.2 := by
  unfold tiesP
  rw [List.mem_flatMap]
  constructor
  · rintro ⟨a, _, h⟩
    obtain ⟨d, _, h⟩ := List.mem_flatMap.mp h
    unfold tieP at h
    split at h
    · rename_i r s hr hs
      split at h
      · rename_i f hf
        rw [List.mem_singleton.mp h]
        exact ⟨by show a < a + 1 + d; omega, r, s, hr, hs, hf⟩
      · cases h
    · cases h
  · rintro ⟨hl, r, s, hr, hs, hf⟩
    have h1 := (List.getElem?_eq_some_iff.mp hr).1
    have h2 := (List.getElem?_eq_some_iff.mp hs).1
    refine ⟨q.1, List.mem_range.mpr h1, List.mem_flatMap.mpr ⟨q.2.1 - (q.1 + 1), List.mem_range.mpr (by omega), ?_⟩⟩
    have e : q.1 + 1 + (q.2.1 - (q.1 + 1)) = q.2.1 := by omega
    rw [e]
    unfold tieP
    rw [hr, hs]
    dsimp only
    rw [hf]
    exact List.mem_singleton.mpr rfl
/-! ### the next start -/
def back (p : List Row) (t : Mill) (s : List Int) (k : Nat) : List Int := ((tiesP p t).filter fun q => decide (q.2.1 = k)).map fun q => s.getD q.1 0 + q.2.2
end
end LB

set_option Elab.async false
set_option linter.all false
set_option autoImplicit false
set_option maxRecDepth 100000
set_option maxHeartbeats 4000000
/-! Pure: Look's methods on one state. -/
namespace LB
open PySem
noncomputable section
local macro_rules | `(tactic| simp_arith [$as,*]) => `(tactic| simp -implicitDefEqProofs (disch := first | assumption | decide | omega | (simp only [List.length_cons, List.length_nil, Mem.put_n, Mem.new_n, Mem.kill_n]; omega)) only [↓KO_some, ↓K_vr, ↓kVr_0, ↓kVr_s, ↓K_cn, ↓K_pure, ↓K_op2, ↓kOp2a_at, ↓kOp2b_at, ↓K_op1, ↓kOp1_at, ↓K_argN, ↓K_argC, ↓kArg1_at, ↓kArg2_at, ↓K_opN, ↓kOpN_at, ↓K_call, ↓kCall_1, ↓kCall_2, ↓kCall_3, ↓kCall_4, ↓kCall_5, ↓K_tpl, ↓K_lsl, ↓K_lsm, ↓K_dctE, ↓kTpl_0, ↓kTpl_1, ↓kTpl_2, ↓kTpl_3, ↓kTpl_4, ↓kTpl_5, ↓kLsl_0, ↓kLsl_1, ↓kLsl_2, ↓kLsl_3, ↓kLsl_4, ↓kLsm_0, ↓K_tV, ↓kTV_at, ↓K_tAnd, ↓kTAnd_t, ↓kTAnd_f, ↓K_tOr, ↓kTOr_t, ↓kTOr_f, ↓K_tNot, ↓kTNot_t, ↓kTNot_f, ↓kTNot_at, ↓K_tYes, ↓K_vAnd, ↓kVAnd_t, ↓kVAnd_f, ↓K_vOr, ↓kVOr_t, ↓kVOr_f, ↓K_vNot, ↓kVNot_at, ↓K_ifE, ↓kIfE_t, ↓kIfE_f, ↓K_chn, ↓kChn0_at, ↓kChn1_at, ↓kChn2_t, ↓kChn2_f, ↓K_soN, ↓K_soS, ↓kSoS_at, ↓K_slc, ↓kSlc0_at, ↓kSlc1_at, ↓kSlc2_at, ↓KSl_tup, ↓KSl_lst, ↓K_sNext, ↓K_sSeq, ↓kSeq_nx, ↓kSeq_rt, ↓K_sRet, ↓kRet_at, ↓K_sRetN, ↓K_sExp, ↓kExp_at, ↓K_sIf, ↓kIf_t, ↓kIf_f, ↓kSet_0, ↓kSet_s, ↓kUn_c, ↓kUn_n, ↓K_sAsg, ↓kAsg_nm, ↓kAsg_tp, ↓kNms_c, ↓kNmsC_at, ↓kNms_n, ↓K_sPar, ↓kPar1_at, ↓kPar2_at, ↓K_run, ↓kRun_rt, ↓kRun_nx, ↓K2_add_i, ↓K2_sub_i, ↓K2_mul_i, ↓K2_mod_i, ↓K2_fdiv_i, ↓K2_lt_i, ↓K2_le_i, ↓K2_gt_i, ↓K2_ge_i, ↓K2_eq_i, ↓K2_ne_i, ↓K2_eq_st, ↓K2_eq_sf, ↓K2_ne_st, ↓K2_ne_sf, ↓K2_eq_b, ↓K2_add_t, ↓K2_add_l, ↓K1_neg_i, ↓K2_isN_n, ↓K2_isN_i, ↓K2_isN_s, ↓K2_isN_t, ↓K2_isN_l, ↓K2_isN_c, ↓K2_notN_n, ↓K2_notN_i, ↓K2_notN_s, ↓K2_notN_t, ↓K2_notN_l, ↓K2_notN_c, ↓K2_ix_t, ↓K2_ix_l, ↓KIx_0, ↓KIx_1, ↓KIx_2, ↓KIx_3, ↓KIx_4, ↓KIx_m1a, ↓KIx_m1b, ↓KIx_m1c, ↓KIx_m1d, ↓KN_len_t, ↓KN_len_l, ↓KN_max2, ↓KN_min2, ↓KN_int_i, ↓KN_int_t, ↓KN_int_f, ↓KN_tuple_l, ↓KN_tuple_t, ↓KN_maxl, ↓KN_suml, ↓K1_isi_n, ↓K1_isi_b, ↓K1_isi_i, ↓K1_isi_s, ↓K1_isi_t, ↓K1_isi_l, ↓KG_put_eq, ↓KG_put_ne, ↓KG_new_eq, ↓KG_new_ne, ↓KG_kill_ne, ↓K2_ix_c, ↓kIxL_at, ↓KN_len_c, ↓kLenL_l, ↓kLenL_d, ↓KN_tuple_c, ↓kTupL_at, ↓KN_max_c, ↓kMaxL_at, ↓KSl_c, ↓kSlL_at, ↓K_appE, ↓kApp1_at, ↓kApp1b_at, ↓kApp2_at, ↓kApp3_at, ↓K_sLput, ↓kPut1_at, ↓kPut2_at, ↓kPut3_at, ↓kPut4_at, ↓K2_dget_i, ↓K2_dget_s, ↓kDgD_at, ↓KVk_eq, ↓KVk_ne, ↓KVd_eq, ↓KVd_ne, ↓KVd_n, ↓K_dget2, ↓kDg1_at, ↓kDg1b_at, ↓kDg2_at, ↓kDg3_at, ↓kDg4_i, ↓kDg4_s, ↓K_sDput, ↓kDp1_at, ↓kDp2_at, ↓kDp3_i, ↓kDp3_s, ↓kDp4_at, ↓K1_fld, ↓kFldO_at, ↓KFl_eq, ↓KFl_ne, ↓K_sFput, ↓kFp1_at, ↓kFp2_at, ↓kFp3_at, ↓kPf_n, ↓kPf_eq, ↓kPu_c, ↓kPu_n, ↓kPf_ne, ↓K_callM, ↓kMt1_at, ↓kMt2_at, ↓kNo_n, ↓kNo_c, ↓kMt3_0, ↓kMt3_1, ↓kMt3_2, ↓kMt3_3, ↓kMt3_4, ↓K_mkE, ↓kMk_1, ↓kMk_2, ↓kMk_3, ↓kMk2_at, ↓K_sFor, ↓kFor_at, ↓K_itRng1, ↓kRng1_nat, ↓K_itRng2, ↓kRng2_at, ↓K_itSeq, ↓kSeqI_t, ↓kSeqI_l, ↓kSeqI_c, ↓kSeqL_at, ↓K_bodyG_nm, ↓K_bodyG_tp, ↓K_sWhile, ↓kComp_at, ↓K_comp, ↓K_compM, ↓kLst_at, ↓kLstM_at, ↓kEx_at, ↓K_exG_nm, ↓K_exG_tp, ↓kAlc_at, ↓K_opNM, ↓kOpNM_at, ↓KN_list_l2, ↓KN_list_t2, ↓KN_list_c, ↓kListL_at, ↓K_op2M, ↓kOp2Ma_at, ↓kOp2Mb_at, ↓K2_rep1, ↓K_prE_n, ↓K_prE_c, ↓kPr1_at, ↓kPr2_at, ↓kPr3_at, ↓K_dspE, ↓kDsp_s1, ↓kDsp_s2, ↓kDsp_s3, ↓kDsp_s4, ↓K_frz, ↓kFrz_c, ↓kFrz_l, ↓kFrz_t, ↓kFrz_n, ↓kFrzL_at, ↓K_extE, ↓kExt1_at, ↓kExt1b_at, ↓kExt2_at, ↓kExt3_at, ↓K_mt0E, ↓kMt0_at, ↓kMt0L_clear, ↓kMt0L_rev, ↓K2_in_t, ↓K2_in_f, ↓K2_notIn_t, ↓K2_notIn_f, ↓K_itZp, ↓kZp1_at, ↓K_itEn, ↓kEnI_t, ↓kEnI_l, ↓K2_din_i, ↓kDinD_at, ↓KR_put_0, ↓KR_put_1, ↓KR_put_2, ↓KR_put_l, ↓KR_put_into, ↓KR_put_end, ↓KR_put_looked, ↓KR_put_cut, ↓KR_move_0, ↓KR_move_1, ↓KR_move_2, ↓KR_move_l, ↓KR_move_into, ↓KR_move_end, ↓KR_move_looked, ↓KR_move_cut, ↓KR_add_0, ↓KR_add_1, ↓KR_add_2, ↓KR_add_3, ↓KR_add_l, ↓KR_add_into, ↓KR_add_end, ↓KR_add_looked, ↓KR_add_cut, ↓KR_take_0, ↓KR_take_1, ↓KR_take_2, ↓KR_take_3, ↓KR_take_l, ↓KR_take_into, ↓KR_take_end, ↓KR_take_looked, ↓KR_take_cut, ↓KR_times_0, ↓KR_times_1, ↓KR_times_2, ↓KR_times_3, ↓KR_times_l, ↓KR_times_into, ↓KR_times_end, ↓KR_times_looked, ↓KR_times_cut, ↓KR_get_0, ↓KR_get_1, ↓KR_get_2, ↓KR_get_l, ↓KR_get_into, ↓KR_get_end, ↓KR_get_looked, ↓KR_get_cut, ↓KR_set_0, ↓KR_set_1, ↓KR_set_2, ↓KR_set_l, ↓KR_set_into, ↓KR_set_end, ↓KR_set_looked, ↓KR_set_cut, ↓KR_say_0, ↓KR_say_1, ↓KR_say_l, ↓KR_say_into, ↓KR_say_end, ↓KR_say_looked, ↓KR_say_cut, ↓KR_rest_0, ↓KR_rest_l, ↓KR_rest_into, ↓KR_rest_end, ↓KR_rest_looked, ↓KR_rest_cut, ↓KR_go_0, ↓KR_go_1, ↓KR_go_l, ↓KR_go_into, ↓KR_go_end, ↓KR_go_looked, ↓KR_go_cut, ↓KR_ifr_0, ↓KR_ifr_1, ↓KR_ifr_2, ↓KR_ifr_l, ↓KR_ifr_into, ↓KR_ifr_end, ↓KR_ifr_looked, ↓KR_ifr_cut, ↓KR_stop_0, ↓KR_stop_l, ↓KR_stop_into, ↓KR_stop_end, ↓KR_stop_looked, ↓KR_stop_cut, ↓KR_late, ↓KR_far, ↓KR_num, ↓KR_mill_0, ↓KR_mill_1, ↓KR_mill_2, ↓KR_mill_3, ↓KR_pi_len, ↓KA_stop, ↓KA_goes, ↓KA_ends, ↓K_mt1E, ↓kM1_l, ↓kM1_s, ↓kM1b_at, ↓K1_isi_c, ↓kIsiL_at, ↓KN_minl, ↓K2_isB, ↓K2_notB, ↓K1_rev_t, ↓K1_rev_l, ↓K2_nin, ↓K2_nnotin, ↓kNinD_pk, ↓kNnotD_pk, ↓K_nget2, ↓kNg1_at, ↓kNg1b_at, ↓kNg2_at, ↓kNg3_at, ↓kNg4_pk, ↓K_ndctE, ↓K_sNput, ↓kNp1_at, ↓kNp2_at, ↓kNp4_at, ↓K_ndsp1, ↓kNd1_at, ↓KN_nlen_c, ↓kNlenL_at, start0, List.map_cons, List.map_nil, List.length_cons, List.length_nil, List.replicate_succ, List.replicate_zero, Nat.reduceSub, Nat.reduceAdd, wipeE, List.set_cons_zero, List.set_cons_succ, List.cons_append, List.nil_append, $as,*])
local macro_rules | `(tactic| simp_arith [$as,*] at $h:ident) => `(tactic| simp -implicitDefEqProofs (disch := first | assumption | decide | omega | (simp only [List.length_cons, List.length_nil, Mem.put_n, Mem.new_n, Mem.kill_n]; omega)) only [↓KO_some, ↓K_vr, ↓kVr_0, ↓kVr_s, ↓K_cn, ↓K_pure, ↓K_op2, ↓kOp2a_at, ↓kOp2b_at, ↓K_op1, ↓kOp1_at, ↓K_argN, ↓K_argC, ↓kArg1_at, ↓kArg2_at, ↓K_opN, ↓kOpN_at, ↓K_call, ↓kCall_1, ↓kCall_2, ↓kCall_3, ↓kCall_4, ↓kCall_5, ↓K_tpl, ↓K_lsl, ↓K_lsm, ↓K_dctE, ↓kTpl_0, ↓kTpl_1, ↓kTpl_2, ↓kTpl_3, ↓kTpl_4, ↓kTpl_5, ↓kLsl_0, ↓kLsl_1, ↓kLsl_2, ↓kLsl_3, ↓kLsl_4, ↓kLsm_0, ↓K_tV, ↓kTV_at, ↓K_tAnd, ↓kTAnd_t, ↓kTAnd_f, ↓K_tOr, ↓kTOr_t, ↓kTOr_f, ↓K_tNot, ↓kTNot_t, ↓kTNot_f, ↓kTNot_at, ↓K_tYes, ↓K_vAnd, ↓kVAnd_t, ↓kVAnd_f, ↓K_vOr, ↓kVOr_t, ↓kVOr_f, ↓K_vNot, ↓kVNot_at, ↓K_ifE, ↓kIfE_t, ↓kIfE_f, ↓K_chn, ↓kChn0_at, ↓kChn1_at, ↓kChn2_t, ↓kChn2_f, ↓K_soN, ↓K_soS, ↓kSoS_at, ↓K_slc, ↓kSlc0_at, ↓kSlc1_at, ↓kSlc2_at, ↓KSl_tup, ↓KSl_lst, ↓K_sNext, ↓K_sSeq, ↓kSeq_nx, ↓kSeq_rt, ↓K_sRet, ↓kRet_at, ↓K_sRetN, ↓K_sExp, ↓kExp_at, ↓K_sIf, ↓kIf_t, ↓kIf_f, ↓kSet_0, ↓kSet_s, ↓kUn_c, ↓kUn_n, ↓K_sAsg, ↓kAsg_nm, ↓kAsg_tp, ↓kNms_c, ↓kNmsC_at, ↓kNms_n, ↓K_sPar, ↓kPar1_at, ↓kPar2_at, ↓K_run, ↓kRun_rt, ↓kRun_nx, ↓K2_add_i, ↓K2_sub_i, ↓K2_mul_i, ↓K2_mod_i, ↓K2_fdiv_i, ↓K2_lt_i, ↓K2_le_i, ↓K2_gt_i, ↓K2_ge_i, ↓K2_eq_i, ↓K2_ne_i, ↓K2_eq_st, ↓K2_eq_sf, ↓K2_ne_st, ↓K2_ne_sf, ↓K2_eq_b, ↓K2_add_t, ↓K2_add_l, ↓K1_neg_i, ↓K2_isN_n, ↓K2_isN_i, ↓K2_isN_s, ↓K2_isN_t, ↓K2_isN_l, ↓K2_isN_c, ↓K2_notN_n, ↓K2_notN_i, ↓K2_notN_s, ↓K2_notN_t, ↓K2_notN_l, ↓K2_notN_c, ↓K2_ix_t, ↓K2_ix_l, ↓KIx_0, ↓KIx_1, ↓KIx_2, ↓KIx_3, ↓KIx_4, ↓KIx_m1a, ↓KIx_m1b, ↓KIx_m1c, ↓KIx_m1d, ↓KN_len_t, ↓KN_len_l, ↓KN_max2, ↓KN_min2, ↓KN_int_i, ↓KN_int_t, ↓KN_int_f, ↓KN_tuple_l, ↓KN_tuple_t, ↓KN_maxl, ↓KN_suml, ↓K1_isi_n, ↓K1_isi_b, ↓K1_isi_i, ↓K1_isi_s, ↓K1_isi_t, ↓K1_isi_l, ↓KG_put_eq, ↓KG_put_ne, ↓KG_new_eq, ↓KG_new_ne, ↓KG_kill_ne, ↓K2_ix_c, ↓kIxL_at, ↓KN_len_c, ↓kLenL_l, ↓kLenL_d, ↓KN_tuple_c, ↓kTupL_at, ↓KN_max_c, ↓kMaxL_at, ↓KSl_c, ↓kSlL_at, ↓K_appE, ↓kApp1_at, ↓kApp1b_at, ↓kApp2_at, ↓kApp3_at, ↓K_sLput, ↓kPut1_at, ↓kPut2_at, ↓kPut3_at, ↓kPut4_at, ↓K2_dget_i, ↓K2_dget_s, ↓kDgD_at, ↓KVk_eq, ↓KVk_ne, ↓KVd_eq, ↓KVd_ne, ↓KVd_n, ↓K_dget2, ↓kDg1_at, ↓kDg1b_at, ↓kDg2_at, ↓kDg3_at, ↓kDg4_i, ↓kDg4_s, ↓K_sDput, ↓kDp1_at, ↓kDp2_at, ↓kDp3_i, ↓kDp3_s, ↓kDp4_at, ↓K1_fld, ↓kFldO_at, ↓KFl_eq, ↓KFl_ne, ↓K_sFput, ↓kFp1_at, ↓kFp2_at, ↓kFp3_at, ↓kPf_n, ↓kPf_eq, ↓kPu_c, ↓kPu_n, ↓kPf_ne, ↓K_callM, ↓kMt1_at, ↓kMt2_at, ↓kNo_n, ↓kNo_c, ↓kMt3_0, ↓kMt3_1, ↓kMt3_2, ↓kMt3_3, ↓kMt3_4, ↓K_mkE, ↓kMk_1, ↓kMk_2, ↓kMk_3, ↓kMk2_at, ↓K_sFor, ↓kFor_at, ↓K_itRng1, ↓kRng1_nat, ↓K_itRng2, ↓kRng2_at, ↓K_itSeq, ↓kSeqI_t, ↓kSeqI_l, ↓kSeqI_c, ↓kSeqL_at, ↓K_bodyG_nm, ↓K_bodyG_tp, ↓K_sWhile, ↓kComp_at, ↓K_comp, ↓K_compM, ↓kLst_at, ↓kLstM_at, ↓kEx_at, ↓K_exG_nm, ↓K_exG_tp, ↓kAlc_at, ↓K_opNM, ↓kOpNM_at, ↓KN_list_l2, ↓KN_list_t2, ↓KN_list_c, ↓kListL_at, ↓K_op2M, ↓kOp2Ma_at, ↓kOp2Mb_at, ↓K2_rep1, ↓K_prE_n, ↓K_prE_c, ↓kPr1_at, ↓kPr2_at, ↓kPr3_at, ↓K_dspE, ↓kDsp_s1, ↓kDsp_s2, ↓kDsp_s3, ↓kDsp_s4, ↓K_frz, ↓kFrz_c, ↓kFrz_l, ↓kFrz_t, ↓kFrz_n, ↓kFrzL_at, ↓K_extE, ↓kExt1_at, ↓kExt1b_at, ↓kExt2_at, ↓kExt3_at, ↓K_mt0E, ↓kMt0_at, ↓kMt0L_clear, ↓kMt0L_rev, ↓K2_in_t, ↓K2_in_f, ↓K2_notIn_t, ↓K2_notIn_f, ↓K_itZp, ↓kZp1_at, ↓K_itEn, ↓kEnI_t, ↓kEnI_l, ↓K2_din_i, ↓kDinD_at, ↓KR_put_0, ↓KR_put_1, ↓KR_put_2, ↓KR_put_l, ↓KR_put_into, ↓KR_put_end, ↓KR_put_looked, ↓KR_put_cut, ↓KR_move_0, ↓KR_move_1, ↓KR_move_2, ↓KR_move_l, ↓KR_move_into, ↓KR_move_end, ↓KR_move_looked, ↓KR_move_cut, ↓KR_add_0, ↓KR_add_1, ↓KR_add_2, ↓KR_add_3, ↓KR_add_l, ↓KR_add_into, ↓KR_add_end, ↓KR_add_looked, ↓KR_add_cut, ↓KR_take_0, ↓KR_take_1, ↓KR_take_2, ↓KR_take_3, ↓KR_take_l, ↓KR_take_into, ↓KR_take_end, ↓KR_take_looked, ↓KR_take_cut, ↓KR_times_0, ↓KR_times_1, ↓KR_times_2, ↓KR_times_3, ↓KR_times_l, ↓KR_times_into, ↓KR_times_end, ↓KR_times_looked, ↓KR_times_cut, ↓KR_get_0, ↓KR_get_1, ↓KR_get_2, ↓KR_get_l, ↓KR_get_into, ↓KR_get_end, ↓KR_get_looked, ↓KR_get_cut, ↓KR_set_0, ↓KR_set_1, ↓KR_set_2, ↓KR_set_l, ↓KR_set_into, ↓KR_set_end, ↓KR_set_looked, ↓KR_set_cut, ↓KR_say_0, ↓KR_say_1, ↓KR_say_l, ↓KR_say_into, ↓KR_say_end, ↓KR_say_looked, ↓KR_say_cut, ↓KR_rest_0, ↓KR_rest_l, ↓KR_rest_into, ↓KR_rest_end, ↓KR_rest_looked, ↓KR_rest_cut, ↓KR_go_0, ↓KR_go_1, ↓KR_go_l, ↓KR_go_into, ↓KR_go_end, ↓KR_go_looked, ↓KR_go_cut, ↓KR_ifr_0, ↓KR_ifr_1, ↓KR_ifr_2, ↓KR_ifr_l, ↓KR_ifr_into, ↓KR_ifr_end, ↓KR_ifr_looked, ↓KR_ifr_cut, ↓KR_stop_0, ↓KR_stop_l, ↓KR_stop_into, ↓KR_stop_end, ↓KR_stop_looked, ↓KR_stop_cut, ↓KR_late, ↓KR_far, ↓KR_num, ↓KR_mill_0, ↓KR_mill_1, ↓KR_mill_2, ↓KR_mill_3, ↓KR_pi_len, ↓KA_stop, ↓KA_goes, ↓KA_ends, ↓K_mt1E, ↓kM1_l, ↓kM1_s, ↓kM1b_at, ↓K1_isi_c, ↓kIsiL_at, ↓KN_minl, ↓K2_isB, ↓K2_notB, ↓K1_rev_t, ↓K1_rev_l, ↓K2_nin, ↓K2_nnotin, ↓kNinD_pk, ↓kNnotD_pk, ↓K_nget2, ↓kNg1_at, ↓kNg1b_at, ↓kNg2_at, ↓kNg3_at, ↓kNg4_pk, ↓K_ndctE, ↓K_sNput, ↓kNp1_at, ↓kNp2_at, ↓kNp4_at, ↓K_ndsp1, ↓kNd1_at, ↓KN_nlen_c, ↓kNlenL_at, start0, List.map_cons, List.map_nil, List.length_cons, List.length_nil, List.replicate_succ, List.replicate_zero, Nat.reduceSub, Nat.reduceAdd, wipeE, List.set_cons_zero, List.set_cons_succ, List.cons_append, List.nil_append, $as,*] at $h:ident)
section
variable {m : Mem} {o : Nat} {p : List Row} {t : Mill} {met fnd : D}
end
end
end LB

set_option Elab.async false
set_option linter.all false
set_option autoImplicit false
set_option maxRecDepth 100000
set_option maxHeartbeats 4000000
/-! Pure: Look goes on, level by level. -/
namespace LB
open PySem
noncomputable section
local macro_rules | `(tactic| simp_arith [$as,*]) => `(tactic| simp -implicitDefEqProofs (disch := first | assumption | decide | omega | (simp only [List.length_cons, List.length_nil, Mem.put_n, Mem.new_n, Mem.kill_n]; omega)) only [↓KO_some, ↓K_vr, ↓kVr_0, ↓kVr_s, ↓K_cn, ↓K_pure, ↓K_op2, ↓kOp2a_at, ↓kOp2b_at, ↓K_op1, ↓kOp1_at, ↓K_argN, ↓K_argC, ↓kArg1_at, ↓kArg2_at, ↓K_opN, ↓kOpN_at, ↓K_call, ↓kCall_1, ↓kCall_2, ↓kCall_3, ↓kCall_4, ↓kCall_5, ↓K_tpl, ↓K_lsl, ↓K_lsm, ↓K_dctE, ↓kTpl_0, ↓kTpl_1, ↓kTpl_2, ↓kTpl_3, ↓kTpl_4, ↓kTpl_5, ↓kLsl_0, ↓kLsl_1, ↓kLsl_2, ↓kLsl_3, ↓kLsl_4, ↓kLsm_0, ↓K_tV, ↓kTV_at, ↓K_tAnd, ↓kTAnd_t, ↓kTAnd_f, ↓K_tOr, ↓kTOr_t, ↓kTOr_f, ↓K_tNot, ↓kTNot_t, ↓kTNot_f, ↓kTNot_at, ↓K_tYes, ↓K_vAnd, ↓kVAnd_t, ↓kVAnd_f, ↓K_vOr, ↓kVOr_t, ↓kVOr_f, ↓K_vNot, ↓kVNot_at, ↓K_ifE, ↓kIfE_t, ↓kIfE_f, ↓K_chn, ↓kChn0_at, ↓kChn1_at, ↓kChn2_t, ↓kChn2_f, ↓K_soN, ↓K_soS, ↓kSoS_at, ↓K_slc, ↓kSlc0_at, ↓kSlc1_at, ↓kSlc2_at, ↓KSl_tup, ↓KSl_lst, ↓K_sNext, ↓K_sSeq, ↓kSeq_nx, ↓kSeq_rt, ↓K_sRet, ↓kRet_at, ↓K_sRetN, ↓K_sExp, ↓kExp_at, ↓K_sIf, ↓kIf_t, ↓kIf_f, ↓kSet_0, ↓kSet_s, ↓kUn_c, ↓kUn_n, ↓K_sAsg, ↓kAsg_nm, ↓kAsg_tp, ↓kNms_c, ↓kNmsC_at, ↓kNms_n, ↓K_sPar, ↓kPar1_at, ↓kPar2_at, ↓K_run, ↓kRun_rt, ↓kRun_nx, ↓K2_add_i, ↓K2_sub_i, ↓K2_mul_i, ↓K2_mod_i, ↓K2_fdiv_i, ↓K2_lt_i, ↓K2_le_i, ↓K2_gt_i, ↓K2_ge_i, ↓K2_eq_i, ↓K2_ne_i, ↓K2_eq_st, ↓K2_eq_sf, ↓K2_ne_st, ↓K2_ne_sf, ↓K2_eq_b, ↓K2_add_t, ↓K2_add_l, ↓K1_neg_i, ↓K2_isN_n, ↓K2_isN_i, ↓K2_isN_s, ↓K2_isN_t, ↓K2_isN_l, ↓K2_isN_c, ↓K2_notN_n, ↓K2_notN_i, ↓K2_notN_s, ↓K2_notN_t, ↓K2_notN_l, ↓K2_notN_c, ↓K2_ix_t, ↓K2_ix_l, ↓KIx_0, ↓KIx_1, ↓KIx_2, ↓KIx_3, ↓KIx_4, ↓KIx_m1a, ↓KIx_m1b, ↓KIx_m1c, ↓KIx_m1d, ↓KN_len_t, ↓KN_len_l, ↓KN_max2, ↓KN_min2, ↓KN_int_i, ↓KN_int_t, ↓KN_int_f, ↓KN_tuple_l, ↓KN_tuple_t, ↓KN_maxl, ↓KN_suml, ↓K1_isi_n, ↓K1_isi_b, ↓K1_isi_i, ↓K1_isi_s, ↓K1_isi_t, ↓K1_isi_l, ↓KG_put_eq, ↓KG_put_ne, ↓KG_new_eq, ↓KG_new_ne, ↓KG_kill_ne, ↓K2_ix_c, ↓kIxL_at, ↓KN_len_c, ↓kLenL_l, ↓kLenL_d, ↓KN_tuple_c, ↓kTupL_at, ↓KN_max_c, ↓kMaxL_at, ↓KSl_c, ↓kSlL_at, ↓K_appE, ↓kApp1_at, ↓kApp1b_at, ↓kApp2_at, ↓kApp3_at, ↓K_sLput, ↓kPut1_at, ↓kPut2_at, ↓kPut3_at, ↓kPut4_at, ↓K2_dget_i, ↓K2_dget_s, ↓kDgD_at, ↓KVk_eq, ↓KVk_ne, ↓KVd_eq, ↓KVd_ne, ↓KVd_n, ↓K_dget2, ↓kDg1_at, ↓kDg1b_at, ↓kDg2_at, ↓kDg3_at, ↓kDg4_i, ↓kDg4_s, ↓K_sDput, ↓kDp1_at, ↓kDp2_at, ↓kDp3_i, ↓kDp3_s, ↓kDp4_at, ↓K1_fld, ↓kFldO_at, ↓KFl_eq, ↓KFl_ne, ↓K_sFput, ↓kFp1_at, ↓kFp2_at, ↓kFp3_at, ↓kPf_n, ↓kPf_eq, ↓kPu_c, ↓kPu_n, ↓kPf_ne, ↓K_callM, ↓kMt1_at, ↓kMt2_at, ↓kNo_n, ↓kNo_c, ↓kMt3_0, ↓kMt3_1, ↓kMt3_2, ↓kMt3_3, ↓kMt3_4, ↓K_mkE, ↓kMk_1, ↓kMk_2, ↓kMk_3, ↓kMk2_at, ↓K_sFor, ↓kFor_at, ↓K_itRng1, ↓kRng1_nat, ↓K_itRng2, ↓kRng2_at, ↓K_itSeq, ↓kSeqI_t, ↓kSeqI_l, ↓kSeqI_c, ↓kSeqL_at, ↓K_bodyG_nm, ↓K_bodyG_tp, ↓K_sWhile, ↓kComp_at, ↓K_comp, ↓K_compM, ↓kLst_at, ↓kLstM_at, ↓kEx_at, ↓K_exG_nm, ↓K_exG_tp, ↓kAlc_at, ↓K_opNM, ↓kOpNM_at, ↓KN_list_l2, ↓KN_list_t2, ↓KN_list_c, ↓kListL_at, ↓K_op2M, ↓kOp2Ma_at, ↓kOp2Mb_at, ↓K2_rep1, ↓K_prE_n, ↓K_prE_c, ↓kPr1_at, ↓kPr2_at, ↓kPr3_at, ↓K_dspE, ↓kDsp_s1, ↓kDsp_s2, ↓kDsp_s3, ↓kDsp_s4, ↓K_frz, ↓kFrz_c, ↓kFrz_l, ↓kFrz_t, ↓kFrz_n, ↓kFrzL_at, ↓K_extE, ↓kExt1_at, ↓kExt1b_at, ↓kExt2_at, ↓kExt3_at, ↓K_mt0E, ↓kMt0_at, ↓kMt0L_clear, ↓kMt0L_rev, ↓K2_in_t, ↓K2_in_f, ↓K2_notIn_t, ↓K2_notIn_f, ↓K_itZp, ↓kZp1_at, ↓K_itEn, ↓kEnI_t, ↓kEnI_l, ↓K2_din_i, ↓kDinD_at, ↓KR_put_0, ↓KR_put_1, ↓KR_put_2, ↓KR_put_l, ↓KR_put_into, ↓KR_put_end, ↓KR_put_looked, ↓KR_put_cut, ↓KR_move_0, ↓KR_move_1, ↓KR_move_2, ↓KR_move_l, ↓KR_move_into, ↓KR_move_end, ↓KR_move_looked, ↓KR_move_cut, ↓KR_add_0, ↓KR_add_1, ↓KR_add_2, ↓KR_add_3, ↓KR_add_l, ↓KR_add_into, ↓KR_add_end, ↓KR_add_looked, ↓KR_add_cut, ↓KR_take_0, ↓KR_take_1, ↓KR_take_2, ↓KR_take_3, ↓KR_take_l, ↓KR_take_into, ↓KR_take_end, ↓KR_take_looked, ↓KR_take_cut, ↓KR_times_0, ↓KR_times_1, ↓KR_times_2, ↓KR_times_3, ↓KR_times_l, ↓KR_times_into, ↓KR_times_end, ↓KR_times_looked, ↓KR_times_cut, ↓KR_get_0, ↓KR_get_1, ↓KR_get_2, ↓KR_get_l, ↓KR_get_into, ↓KR_get_end, ↓KR_get_looked, ↓KR_get_cut, ↓KR_set_0, ↓KR_set_1, ↓KR_set_2, ↓KR_set_l, ↓KR_set_into, ↓KR_set_end, ↓KR_set_looked, ↓KR_set_cut, ↓KR_say_0, ↓KR_say_1, ↓KR_say_l, ↓KR_say_into, ↓KR_say_end, ↓KR_say_looked, ↓KR_say_cut, ↓KR_rest_0, ↓KR_rest_l, ↓KR_rest_into, ↓KR_rest_end, ↓KR_rest_looked, ↓KR_rest_cut, ↓KR_go_0, ↓KR_go_1, ↓KR_go_l, ↓KR_go_into, ↓KR_go_end, ↓KR_go_looked, ↓KR_go_cut, ↓KR_ifr_0, ↓KR_ifr_1, ↓KR_ifr_2, ↓KR_ifr_l, ↓KR_ifr_into, ↓KR_ifr_end, ↓KR_ifr_looked, ↓KR_ifr_cut, ↓KR_stop_0, ↓KR_stop_l, ↓KR_stop_into, ↓KR_stop_end, ↓KR_stop_looked, ↓KR_stop_cut, ↓KR_late, ↓KR_far, ↓KR_num, ↓KR_mill_0, ↓KR_mill_1, ↓KR_mill_2, ↓KR_mill_3, ↓KR_pi_len, ↓KA_stop, ↓KA_goes, ↓KA_ends, ↓K_mt1E, ↓kM1_l, ↓kM1_s, ↓kM1b_at, ↓K1_isi_c, ↓kIsiL_at, ↓KN_minl, ↓K2_isB, ↓K2_notB, ↓K1_rev_t, ↓K1_rev_l, ↓K2_nin, ↓K2_nnotin, ↓kNinD_pk, ↓kNnotD_pk, ↓K_nget2, ↓kNg1_at, ↓kNg1b_at, ↓kNg2_at, ↓kNg3_at, ↓kNg4_pk, ↓K_ndctE, ↓K_sNput, ↓kNp1_at, ↓kNp2_at, ↓kNp4_at, ↓K_ndsp1, ↓kNd1_at, ↓KN_nlen_c, ↓kNlenL_at, start0, List.map_cons, List.map_nil, List.length_cons, List.length_nil, List.replicate_succ, List.replicate_zero, Nat.reduceSub, Nat.reduceAdd, wipeE, List.set_cons_zero, List.set_cons_succ, List.cons_append, List.nil_append, $as,*])
local macro_rules | `(tactic| simp_arith [$as,*] at $h:ident) => `(tactic| simp -implicitDefEqProofs (disch := first | assumption | decide | omega | (simp only [List.length_cons, List.length_nil, Mem.put_n, Mem.new_n, Mem.kill_n]; omega)) only [↓KO_some, ↓K_vr, ↓kVr_0, ↓kVr_s, ↓K_cn, ↓K_pure, ↓K_op2, ↓kOp2a_at, ↓kOp2b_at, ↓K_op1, ↓kOp1_at, ↓K_argN, ↓K_argC, ↓kArg1_at, ↓kArg2_at, ↓K_opN, ↓kOpN_at, ↓K_call, ↓kCall_1, ↓kCall_2, ↓kCall_3, ↓kCall_4, ↓kCall_5, ↓K_tpl, ↓K_lsl, ↓K_lsm, ↓K_dctE, ↓kTpl_0, ↓kTpl_1, ↓kTpl_2, ↓kTpl_3, ↓kTpl_4, ↓kTpl_5, ↓kLsl_0, ↓kLsl_1, ↓kLsl_2, ↓kLsl_3, ↓kLsl_4, ↓kLsm_0, ↓K_tV, ↓kTV_at, ↓K_tAnd, ↓kTAnd_t, ↓kTAnd_f, ↓K_tOr, ↓kTOr_t, ↓kTOr_f, ↓K_tNot, ↓kTNot_t, ↓kTNot_f, ↓kTNot_at, ↓K_tYes, ↓K_vAnd, ↓kVAnd_t, ↓kVAnd_f, ↓K_vOr, ↓kVOr_t, ↓kVOr_f, ↓K_vNot, ↓kVNot_at, ↓K_ifE, ↓kIfE_t, ↓kIfE_f, ↓K_chn, ↓kChn0_at, ↓kChn1_at, ↓kChn2_t, ↓kChn2_f, ↓K_soN, ↓K_soS, ↓kSoS_at, ↓K_slc, ↓kSlc0_at, ↓kSlc1_at, ↓kSlc2_at, ↓KSl_tup, ↓KSl_lst, ↓K_sNext, ↓K_sSeq, ↓kSeq_nx, ↓kSeq_rt, ↓K_sRet, ↓kRet_at, ↓K_sRetN, ↓K_sExp, ↓kExp_at, ↓K_sIf, ↓kIf_t, ↓kIf_f, ↓kSet_0, ↓kSet_s, ↓kUn_c, ↓kUn_n, ↓K_sAsg, ↓kAsg_nm, ↓kAsg_tp, ↓kNms_c, ↓kNmsC_at, ↓kNms_n, ↓K_sPar, ↓kPar1_at, ↓kPar2_at, ↓K_run, ↓kRun_rt, ↓kRun_nx, ↓K2_add_i, ↓K2_sub_i, ↓K2_mul_i, ↓K2_mod_i, ↓K2_fdiv_i, ↓K2_lt_i, ↓K2_le_i, ↓K2_gt_i, ↓K2_ge_i, ↓K2_eq_i, ↓K2_ne_i, ↓K2_eq_st, ↓K2_eq_sf, ↓K2_ne_st, ↓K2_ne_sf, ↓K2_eq_b, ↓K2_add_t, ↓K2_add_l, ↓K1_neg_i, ↓K2_isN_n, ↓K2_isN_i, ↓K2_isN_s, ↓K2_isN_t, ↓K2_isN_l, ↓K2_isN_c, ↓K2_notN_n, ↓K2_notN_i, ↓K2_notN_s, ↓K2_notN_t, ↓K2_notN_l, ↓K2_notN_c, ↓K2_ix_t, ↓K2_ix_l, ↓KIx_0, ↓KIx_1, ↓KIx_2, ↓KIx_3, ↓KIx_4, ↓KIx_m1a, ↓KIx_m1b, ↓KIx_m1c, ↓KIx_m1d, ↓KN_len_t, ↓KN_len_l, ↓KN_max2, ↓KN_min2, ↓KN_int_i, ↓KN_int_t, ↓KN_int_f, ↓KN_tuple_l, ↓KN_tuple_t, ↓KN_maxl, ↓KN_suml, ↓K1_isi_n, ↓K1_isi_b, ↓K1_isi_i, ↓K1_isi_s, ↓K1_isi_t, ↓K1_isi_l, ↓KG_put_eq, ↓KG_put_ne, ↓KG_new_eq, ↓KG_new_ne, ↓KG_kill_ne, ↓K2_ix_c, ↓kIxL_at, ↓KN_len_c, ↓kLenL_l, ↓kLenL_d, ↓KN_tuple_c, ↓kTupL_at, ↓KN_max_c, ↓kMaxL_at, ↓KSl_c, ↓kSlL_at, ↓K_appE, ↓kApp1_at, ↓kApp1b_at, ↓kApp2_at, ↓kApp3_at, ↓K_sLput, ↓kPut1_at, ↓kPut2_at, ↓kPut3_at, ↓kPut4_at, ↓K2_dget_i, ↓K2_dget_s, ↓kDgD_at, ↓KVk_eq, ↓KVk_ne, ↓KVd_eq, ↓KVd_ne, ↓KVd_n, ↓K_dget2, ↓kDg1_at, ↓kDg1b_at, ↓kDg2_at, ↓kDg3_at, ↓kDg4_i, ↓kDg4_s, ↓K_sDput, ↓kDp1_at, ↓kDp2_at, ↓kDp3_i, ↓kDp3_s, ↓kDp4_at, ↓K1_fld, ↓kFldO_at, ↓KFl_eq, ↓KFl_ne, ↓K_sFput, ↓kFp1_at, ↓kFp2_at, ↓kFp3_at, ↓kPf_n, ↓kPf_eq, ↓kPu_c, ↓kPu_n, ↓kPf_ne, ↓K_callM, ↓kMt1_at, ↓kMt2_at, ↓kNo_n, ↓kNo_c, ↓kMt3_0, ↓kMt3_1, ↓kMt3_2, ↓kMt3_3, ↓kMt3_4, ↓K_mkE, ↓kMk_1, ↓kMk_2, ↓kMk_3, ↓kMk2_at, ↓K_sFor, ↓kFor_at, ↓K_itRng1, ↓kRng1_nat, ↓K_itRng2, ↓kRng2_at, ↓K_itSeq, ↓kSeqI_t, ↓kSeqI_l, ↓kSeqI_c, ↓kSeqL_at, ↓K_bodyG_nm, ↓K_bodyG_tp, ↓K_sWhile, ↓kComp_at, ↓K_comp, ↓K_compM, ↓kLst_at, ↓kLstM_at, ↓kEx_at, ↓K_exG_nm, ↓K_exG_tp, ↓kAlc_at, ↓K_opNM, ↓kOpNM_at, ↓KN_list_l2, ↓KN_list_t2, ↓KN_list_c, ↓kListL_at, ↓K_op2M, ↓kOp2Ma_at, ↓kOp2Mb_at, ↓K2_rep1, ↓K_prE_n, ↓K_prE_c, ↓kPr1_at, ↓kPr2_at, ↓kPr3_at, ↓K_dspE, ↓kDsp_s1, ↓kDsp_s2, ↓kDsp_s3, ↓kDsp_s4, ↓K_frz, ↓kFrz_c, ↓kFrz_l, ↓kFrz_t, ↓kFrz_n, ↓kFrzL_at, ↓K_extE, ↓kExt1_at, ↓kExt1b_at, ↓kExt2_at, ↓kExt3_at, ↓K_mt0E, ↓kMt0_at, ↓kMt0L_clear, ↓kMt0L_rev, ↓K2_in_t, ↓K2_in_f, ↓K2_notIn_t, ↓K2_notIn_f, ↓K_itZp, ↓kZp1_at, ↓K_itEn, ↓kEnI_t, ↓kEnI_l, ↓K2_din_i, ↓kDinD_at, ↓KR_put_0, ↓KR_put_1, ↓KR_put_2, ↓KR_put_l, ↓KR_put_into, ↓KR_put_end, ↓KR_put_looked, ↓KR_put_cut, ↓KR_move_0, ↓KR_move_1, ↓KR_move_2, ↓KR_move_l, ↓KR_move_into, ↓KR_move_end, ↓KR_move_looked, ↓KR_move_cut, ↓KR_add_0, ↓KR_add_1, ↓KR_add_2, ↓KR_add_3, ↓KR_add_l, ↓KR_add_into, ↓KR_add_end, ↓KR_add_looked, ↓KR_add_cut, ↓KR_take_0, ↓KR_take_1, ↓KR_take_2, ↓KR_take_3, ↓KR_take_l, ↓KR_take_into, ↓KR_take_end, ↓KR_take_looked, ↓KR_take_cut, ↓KR_times_0, ↓KR_times_1, ↓KR_times_2, ↓KR_times_3, ↓KR_times_l, ↓KR_times_into, ↓KR_times_end, ↓KR_times_looked, ↓KR_times_cut, ↓KR_get_0, ↓KR_get_1, ↓KR_get_2, ↓KR_get_l, ↓KR_get_into, ↓KR_get_end, ↓KR_get_looked, ↓KR_get_cut, ↓KR_set_0, ↓KR_set_1, ↓KR_set_2, ↓KR_set_l, ↓KR_set_into, ↓KR_set_end, ↓KR_set_looked, ↓KR_set_cut, ↓KR_say_0, ↓KR_say_1, ↓KR_say_l, ↓KR_say_into, ↓KR_say_end, ↓KR_say_looked, ↓KR_say_cut, ↓KR_rest_0, ↓KR_rest_l, ↓KR_rest_into, ↓KR_rest_end, ↓KR_rest_looked, ↓KR_rest_cut, ↓KR_go_0, ↓KR_go_1, ↓KR_go_l, ↓KR_go_into, ↓KR_go_end, ↓KR_go_looked, ↓KR_go_cut, ↓KR_ifr_0, ↓KR_ifr_1, ↓KR_ifr_2, ↓KR_ifr_l, ↓KR_ifr_into, ↓KR_ifr_end, ↓KR_ifr_looked, ↓KR_ifr_cut, ↓KR_stop_0, ↓KR_stop_l, ↓KR_stop_into, ↓KR_stop_end, ↓KR_stop_looked, ↓KR_stop_cut, ↓KR_late, ↓KR_far, ↓KR_num, ↓KR_mill_0, ↓KR_mill_1, ↓KR_mill_2, ↓KR_mill_3, ↓KR_pi_len, ↓KA_stop, ↓KA_goes, ↓KA_ends, ↓K_mt1E, ↓kM1_l, ↓kM1_s, ↓kM1b_at, ↓K1_isi_c, ↓kIsiL_at, ↓KN_minl, ↓K2_isB, ↓K2_notB, ↓K1_rev_t, ↓K1_rev_l, ↓K2_nin, ↓K2_nnotin, ↓kNinD_pk, ↓kNnotD_pk, ↓K_nget2, ↓kNg1_at, ↓kNg1b_at, ↓kNg2_at, ↓kNg3_at, ↓kNg4_pk, ↓K_ndctE, ↓K_sNput, ↓kNp1_at, ↓kNp2_at, ↓kNp4_at, ↓K_ndsp1, ↓kNd1_at, ↓KN_nlen_c, ↓kNlenL_at, start0, List.map_cons, List.map_nil, List.length_cons, List.length_nil, List.replicate_succ, List.replicate_zero, Nat.reduceSub, Nat.reduceAdd, wipeE, List.set_cons_zero, List.set_cons_succ, List.cons_append, List.nil_append, $as,*] at $h:ident)
structure GoR (m0 : Mem) (cm : Nat) (a : KV × List (Way × LS)) (m : Mem) : Prop where
  keep : ∀ j, j < m0.n → j ≠ cm → m.get j = m0.get j
  n : m0.n < m.n
  met : m.get cm = some (.dcn a.1)
  fur : m.get m0.n = some (.lst (a.2.map lvD))
theorem GoR.more {m0 m m2 : Mem} {cm : Nat} {a : KV × List (Way × LS)} (h : GoR m0 cm a m) (k : Keep m m2) (hc : cm < m0.n) : GoR m0 cm a m2 :=
  ⟨fun j hj hn => (k.at_ j (Nat.lt_trans hj h.n)).trans (h.keep j hj hn), Nat.lt_of_lt_of_le h.n k.n, (k.at_ _ (Nat.lt_trans hc h.n)).trans h.met, (k.at_ _ h.n).trans h.fur⟩
section
variable {m : Mem} {o cm : Nat} {p : List Row} {t : Mill} {fnd : D}
end
theorem addN_grow (way : Way) (h : Nat) : ∀ (qs : List (Nat × LS)) (a : KV × List (Way × LS)), (qs.foldl (addN way h) a).1.length + a.2.length = a.1.length + (qs.foldl (addN way h) a).2.length
  | [], a => rfl
  | q :: qs, a => by
    have h1 := addN_grow way h qs (addN way h a q)
    have h3 : (addN way h a q).1.length + a.2.length = a.1.length + (addN way h a q).2.length := by
      unfold addN
      cases hv : (valN a.1 q.2.key).isSome with
      | true => rfl
      | false =>
        rw [if_neg Bool.false_ne_true, putN_new hv]
        simp only [List.length_append, List.length_singleton]
        omega
    rw [List.foldl_cons]
    omega
theorem goLv_grow {p : List Row} {t : Mill} : ∀ (lv : List (Way × LS)) (a b : KV × List (Way × LS)), goLv p t lv a = .ok b → b.1.length + a.2.length = a.1.length + b.2.length
  | [], a, b, h => by
    cases h
    rfl
  | (w, s) :: lv, a, b, h => by
    unfold goLv at h
    cases hb : brk p t s with
    | some q => rw [hb] at h; cases h
    | none =>
      rw [hb] at h
      have h1 := goLv_grow lv _ b h
      have h2 := addN_grow w s.here (nxts p t s) a
      omega
theorem addN_all {P : Way × LS → Prop} (way : Way) (h : Nat) : ∀ (qs : List (Nat × LS)) (a : KV × List (Way × LS)), (∀ x, x ∈ a.2 → P x) → (∀ q, q ∈ qs → P (way ++ [(h, q.1)], q.2)) → ∀ x, x ∈ (qs.foldl (addN way h) a).2 → P x
  | [], a, ha, _ => ha
  | q :: qs, a, ha, hq => by
    refine addN_all way h qs (addN way h a q) (fun x hx => ?_) fun x hx => hq x (List.mem_cons_of_mem _ hx)
    unfold addN at hx
    split at hx
    · exact ha x hx
    · rcases List.mem_append.mp hx with hx | hx
      · exact ha x hx
      · rw [List.mem_singleton.mp hx]
        exact hq q (List.mem_cons_self ..)
theorem goLv_all {P : Way × LS → Prop} {p : List Row} {t : Mill} : ∀ (lv : List (Way × LS)) (a b : KV × List (Way × LS)), (∀ x, x ∈ a.2 → P x) → (∀ x, x ∈ lv → ∀ q, q ∈ nxts p t x.2 → P (x.1 ++ [(x.2.here, q.1)], q.2)) → goLv p t lv a = .ok b → ∀ x, x ∈ b.2 → P x
  | [], a, b, ha, _, h => by
    cases h
    exact ha
  | (w, s) :: lv, a, b, ha, hl, h => by
    unfold goLv at h
    cases hb : brk p t s with
    | some q => rw [hb] at h; cases h
    | none =>
      rw [hb] at h
      exact goLv_all lv _ b (addN_all w s.here (nxts p t s) a ha (hl (w, s) (List.mem_cons_self ..))) (fun x hx => hl x (List.mem_cons_of_mem _ hx)) h
end
end LB

set_option Elab.async false
set_option linter.all false
set_option autoImplicit false
set_option maxRecDepth 100000
set_option maxHeartbeats 2000000
/-! The executor for d.update(pairs), list(d), {} over tuple keys. -/
namespace LB
open PySem
variable {β : Type}
end LB

set_option Elab.async false
set_option linter.all false
set_option autoImplicit false
set_option maxRecDepth 100000
set_option maxHeartbeats 2000000
/-! The word of a refusal, as the law's own text finds it; runs that refuse. -/
namespace LB
open PySem
noncomputable section
local macro_rules | `(tactic| simp_arith [$as,*]) => `(tactic| simp -implicitDefEqProofs (disch := first | assumption | decide | omega | (simp only [List.length_cons, List.length_nil, Mem.put_n, Mem.new_n, Mem.kill_n]; omega)) only [↓KO_some, ↓K_vr, ↓kVr_0, ↓kVr_s, ↓K_cn, ↓K_pure, ↓K_op2, ↓kOp2a_at, ↓kOp2b_at, ↓K_op1, ↓kOp1_at, ↓K_argN, ↓K_argC, ↓kArg1_at, ↓kArg2_at, ↓K_opN, ↓kOpN_at, ↓K_call, ↓kCall_1, ↓kCall_2, ↓kCall_3, ↓kCall_4, ↓kCall_5, ↓K_tpl, ↓K_lsl, ↓K_lsm, ↓K_dctE, ↓kTpl_0, ↓kTpl_1, ↓kTpl_2, ↓kTpl_3, ↓kTpl_4, ↓kTpl_5, ↓kLsl_0, ↓kLsl_1, ↓kLsl_2, ↓kLsl_3, ↓kLsl_4, ↓kLsm_0, ↓K_tV, ↓kTV_at, ↓K_tAnd, ↓kTAnd_t, ↓kTAnd_f, ↓K_tOr, ↓kTOr_t, ↓kTOr_f, ↓K_tNot, ↓kTNot_t, ↓kTNot_f, ↓kTNot_at, ↓K_tYes, ↓K_vAnd, ↓kVAnd_t, ↓kVAnd_f, ↓K_vOr, ↓kVOr_t, ↓kVOr_f, ↓K_vNot, ↓kVNot_at, ↓K_ifE, ↓kIfE_t, ↓kIfE_f, ↓K_chn, ↓kChn0_at, ↓kChn1_at, ↓kChn2_t, ↓kChn2_f, ↓K_soN, ↓K_soS, ↓kSoS_at, ↓K_slc, ↓kSlc0_at, ↓kSlc1_at, ↓kSlc2_at, ↓KSl_tup, ↓KSl_lst, ↓K_sNext, ↓K_sSeq, ↓kSeq_nx, ↓kSeq_rt, ↓K_sRet, ↓kRet_at, ↓K_sRetN, ↓K_sExp, ↓kExp_at, ↓K_sIf, ↓kIf_t, ↓kIf_f, ↓kSet_0, ↓kSet_s, ↓kUn_c, ↓kUn_n, ↓K_sAsg, ↓kAsg_nm, ↓kAsg_tp, ↓kNms_c, ↓kNmsC_at, ↓kNms_n, ↓K_sPar, ↓kPar1_at, ↓kPar2_at, ↓K_run, ↓kRun_rt, ↓kRun_nx, ↓K2_add_i, ↓K2_sub_i, ↓K2_mul_i, ↓K2_mod_i, ↓K2_fdiv_i, ↓K2_lt_i, ↓K2_le_i, ↓K2_gt_i, ↓K2_ge_i, ↓K2_eq_i, ↓K2_ne_i, ↓K2_eq_st, ↓K2_eq_sf, ↓K2_ne_st, ↓K2_ne_sf, ↓K2_eq_b, ↓K2_add_t, ↓K2_add_l, ↓K1_neg_i, ↓K2_isN_n, ↓K2_isN_i, ↓K2_isN_s, ↓K2_isN_t, ↓K2_isN_l, ↓K2_isN_c, ↓K2_notN_n, ↓K2_notN_i, ↓K2_notN_s, ↓K2_notN_t, ↓K2_notN_l, ↓K2_notN_c, ↓K2_ix_t, ↓K2_ix_l, ↓KIx_0, ↓KIx_1, ↓KIx_2, ↓KIx_3, ↓KIx_4, ↓KIx_m1a, ↓KIx_m1b, ↓KIx_m1c, ↓KIx_m1d, ↓KN_len_t, ↓KN_len_l, ↓KN_max2, ↓KN_min2, ↓KN_int_i, ↓KN_int_t, ↓KN_int_f, ↓KN_tuple_l, ↓KN_tuple_t, ↓KN_maxl, ↓KN_suml, ↓K1_isi_n, ↓K1_isi_b, ↓K1_isi_i, ↓K1_isi_s, ↓K1_isi_t, ↓K1_isi_l, ↓KG_put_eq, ↓KG_put_ne, ↓KG_new_eq, ↓KG_new_ne, ↓KG_kill_ne, ↓K2_ix_c, ↓kIxL_at, ↓KN_len_c, ↓kLenL_l, ↓kLenL_d, ↓KN_tuple_c, ↓kTupL_at, ↓KN_max_c, ↓kMaxL_at, ↓KSl_c, ↓kSlL_at, ↓K_appE, ↓kApp1_at, ↓kApp1b_at, ↓kApp2_at, ↓kApp3_at, ↓K_sLput, ↓kPut1_at, ↓kPut2_at, ↓kPut3_at, ↓kPut4_at, ↓K2_dget_i, ↓K2_dget_s, ↓kDgD_at, ↓KVk_eq, ↓KVk_ne, ↓KVd_eq, ↓KVd_ne, ↓KVd_n, ↓K_dget2, ↓kDg1_at, ↓kDg1b_at, ↓kDg2_at, ↓kDg3_at, ↓kDg4_i, ↓kDg4_s, ↓K_sDput, ↓kDp1_at, ↓kDp2_at, ↓kDp3_i, ↓kDp3_s, ↓kDp4_at, ↓K1_fld, ↓kFldO_at, ↓KFl_eq, ↓KFl_ne, ↓K_sFput, ↓kFp1_at, ↓kFp2_at, ↓kFp3_at, ↓kPf_n, ↓kPf_eq, ↓kPu_c, ↓kPu_n, ↓kPf_ne, ↓K_callM, ↓kMt1_at, ↓kMt2_at, ↓kNo_n, ↓kNo_c, ↓kMt3_0, ↓kMt3_1, ↓kMt3_2, ↓kMt3_3, ↓kMt3_4, ↓K_mkE, ↓kMk_1, ↓kMk_2, ↓kMk_3, ↓kMk2_at, ↓K_sFor, ↓kFor_at, ↓K_itRng1, ↓kRng1_nat, ↓K_itRng2, ↓kRng2_at, ↓K_itSeq, ↓kSeqI_t, ↓kSeqI_l, ↓kSeqI_c, ↓kSeqL_at, ↓K_bodyG_nm, ↓K_bodyG_tp, ↓K_sWhile, ↓kComp_at, ↓K_comp, ↓K_compM, ↓kLst_at, ↓kLstM_at, ↓kEx_at, ↓K_exG_nm, ↓K_exG_tp, ↓kAlc_at, ↓K_opNM, ↓kOpNM_at, ↓KN_list_l2, ↓KN_list_t2, ↓KN_list_c, ↓kListL_at, ↓K_op2M, ↓kOp2Ma_at, ↓kOp2Mb_at, ↓K2_rep1, ↓K_prE_n, ↓K_prE_c, ↓kPr1_at, ↓kPr2_at, ↓kPr3_at, ↓K_dspE, ↓kDsp_s1, ↓kDsp_s2, ↓kDsp_s3, ↓kDsp_s4, ↓K_frz, ↓kFrz_c, ↓kFrz_l, ↓kFrz_t, ↓kFrz_n, ↓kFrzL_at, ↓K_extE, ↓kExt1_at, ↓kExt1b_at, ↓kExt2_at, ↓kExt3_at, ↓K_mt0E, ↓kMt0_at, ↓kMt0L_clear, ↓kMt0L_rev, ↓K2_in_t, ↓K2_in_f, ↓K2_notIn_t, ↓K2_notIn_f, ↓K_itZp, ↓kZp1_at, ↓K_itEn, ↓kEnI_t, ↓kEnI_l, ↓K2_din_i, ↓kDinD_at, ↓KR_put_0, ↓KR_put_1, ↓KR_put_2, ↓KR_put_l, ↓KR_put_into, ↓KR_put_end, ↓KR_put_looked, ↓KR_put_cut, ↓KR_move_0, ↓KR_move_1, ↓KR_move_2, ↓KR_move_l, ↓KR_move_into, ↓KR_move_end, ↓KR_move_looked, ↓KR_move_cut, ↓KR_add_0, ↓KR_add_1, ↓KR_add_2, ↓KR_add_3, ↓KR_add_l, ↓KR_add_into, ↓KR_add_end, ↓KR_add_looked, ↓KR_add_cut, ↓KR_take_0, ↓KR_take_1, ↓KR_take_2, ↓KR_take_3, ↓KR_take_l, ↓KR_take_into, ↓KR_take_end, ↓KR_take_looked, ↓KR_take_cut, ↓KR_times_0, ↓KR_times_1, ↓KR_times_2, ↓KR_times_3, ↓KR_times_l, ↓KR_times_into, ↓KR_times_end, ↓KR_times_looked, ↓KR_times_cut, ↓KR_get_0, ↓KR_get_1, ↓KR_get_2, ↓KR_get_l, ↓KR_get_into, ↓KR_get_end, ↓KR_get_looked, ↓KR_get_cut, ↓KR_set_0, ↓KR_set_1, ↓KR_set_2, ↓KR_set_l, ↓KR_set_into, ↓KR_set_end, ↓KR_set_looked, ↓KR_set_cut, ↓KR_say_0, ↓KR_say_1, ↓KR_say_l, ↓KR_say_into, ↓KR_say_end, ↓KR_say_looked, ↓KR_say_cut, ↓KR_rest_0, ↓KR_rest_l, ↓KR_rest_into, ↓KR_rest_end, ↓KR_rest_looked, ↓KR_rest_cut, ↓KR_go_0, ↓KR_go_1, ↓KR_go_l, ↓KR_go_into, ↓KR_go_end, ↓KR_go_looked, ↓KR_go_cut, ↓KR_ifr_0, ↓KR_ifr_1, ↓KR_ifr_2, ↓KR_ifr_l, ↓KR_ifr_into, ↓KR_ifr_end, ↓KR_ifr_looked, ↓KR_ifr_cut, ↓KR_stop_0, ↓KR_stop_l, ↓KR_stop_into, ↓KR_stop_end, ↓KR_stop_looked, ↓KR_stop_cut, ↓KR_late, ↓KR_far, ↓KR_num, ↓KR_mill_0, ↓KR_mill_1, ↓KR_mill_2, ↓KR_mill_3, ↓KR_pi_len, ↓KA_stop, ↓KA_goes, ↓KA_ends, ↓K_mt1E, ↓kM1_l, ↓kM1_s, ↓kM1b_at, ↓K1_isi_c, ↓kIsiL_at, ↓KN_minl, ↓K2_isB, ↓K2_notB, ↓K1_rev_t, ↓K1_rev_l, ↓K2_nin, ↓K2_nnotin, ↓kNinD_pk, ↓kNnotD_pk, ↓K_nget2, ↓kNg1_at, ↓kNg1b_at, ↓kNg2_at, ↓kNg3_at, ↓kNg4_pk, ↓K_ndctE, ↓K_sNput, ↓kNp1_at, ↓kNp2_at, ↓kNp4_at, ↓K_ndsp1, ↓kNd1_at, ↓KN_nlen_c, ↓kNlenL_at, start0, List.map_cons, List.map_nil, List.length_cons, List.length_nil, List.replicate_succ, List.replicate_zero, Nat.reduceSub, Nat.reduceAdd, wipeE, List.set_cons_zero, List.set_cons_succ, List.cons_append, List.nil_append, $as,*])
local macro_rules | `(tactic| simp_arith [$as,*] at $h:ident) => `(tactic| simp -implicitDefEqProofs (disch := first | assumption | decide | omega | (simp only [List.length_cons, List.length_nil, Mem.put_n, Mem.new_n, Mem.kill_n]; omega)) only [↓KO_some, ↓K_vr, ↓kVr_0, ↓kVr_s, ↓K_cn, ↓K_pure, ↓K_op2, ↓kOp2a_at, ↓kOp2b_at, ↓K_op1, ↓kOp1_at, ↓K_argN, ↓K_argC, ↓kArg1_at, ↓kArg2_at, ↓K_opN, ↓kOpN_at, ↓K_call, ↓kCall_1, ↓kCall_2, ↓kCall_3, ↓kCall_4, ↓kCall_5, ↓K_tpl, ↓K_lsl, ↓K_lsm, ↓K_dctE, ↓kTpl_0, ↓kTpl_1, ↓kTpl_2, ↓kTpl_3, ↓kTpl_4, ↓kTpl_5, ↓kLsl_0, ↓kLsl_1, ↓kLsl_2, ↓kLsl_3, ↓kLsl_4, ↓kLsm_0, ↓K_tV, ↓kTV_at, ↓K_tAnd, ↓kTAnd_t, ↓kTAnd_f, ↓K_tOr, ↓kTOr_t, ↓kTOr_f, ↓K_tNot, ↓kTNot_t, ↓kTNot_f, ↓kTNot_at, ↓K_tYes, ↓K_vAnd, ↓kVAnd_t, ↓kVAnd_f, ↓K_vOr, ↓kVOr_t, ↓kVOr_f, ↓K_vNot, ↓kVNot_at, ↓K_ifE, ↓kIfE_t, ↓kIfE_f, ↓K_chn, ↓kChn0_at, ↓kChn1_at, ↓kChn2_t, ↓kChn2_f, ↓K_soN, ↓K_soS, ↓kSoS_at, ↓K_slc, ↓kSlc0_at, ↓kSlc1_at, ↓kSlc2_at, ↓KSl_tup, ↓KSl_lst, ↓K_sNext, ↓K_sSeq, ↓kSeq_nx, ↓kSeq_rt, ↓K_sRet, ↓kRet_at, ↓K_sRetN, ↓K_sExp, ↓kExp_at, ↓K_sIf, ↓kIf_t, ↓kIf_f, ↓kSet_0, ↓kSet_s, ↓kUn_c, ↓kUn_n, ↓K_sAsg, ↓kAsg_nm, ↓kAsg_tp, ↓kNms_c, ↓kNmsC_at, ↓kNms_n, ↓K_sPar, ↓kPar1_at, ↓kPar2_at, ↓K_run, ↓kRun_rt, ↓kRun_nx, ↓K2_add_i, ↓K2_sub_i, ↓K2_mul_i, ↓K2_mod_i, ↓K2_fdiv_i, ↓K2_lt_i, ↓K2_le_i, ↓K2_gt_i, ↓K2_ge_i, ↓K2_eq_i, ↓K2_ne_i, ↓K2_eq_st, ↓K2_eq_sf, ↓K2_ne_st, ↓K2_ne_sf, ↓K2_eq_b, ↓K2_add_t, ↓K2_add_l, ↓K1_neg_i, ↓K2_isN_n, ↓K2_isN_i, ↓K2_isN_s, ↓K2_isN_t, ↓K2_isN_l, ↓K2_isN_c, ↓K2_notN_n, ↓K2_notN_i, ↓K2_notN_s, ↓K2_notN_t, ↓K2_notN_l, ↓K2_notN_c, ↓K2_ix_t, ↓K2_ix_l, ↓KIx_0, ↓KIx_1, ↓KIx_2, ↓KIx_3, ↓KIx_4, ↓KIx_m1a, ↓KIx_m1b, ↓KIx_m1c, ↓KIx_m1d, ↓KN_len_t, ↓KN_len_l, ↓KN_max2, ↓KN_min2, ↓KN_int_i, ↓KN_int_t, ↓KN_int_f, ↓KN_tuple_l, ↓KN_tuple_t, ↓KN_maxl, ↓KN_suml, ↓K1_isi_n, ↓K1_isi_b, ↓K1_isi_i, ↓K1_isi_s, ↓K1_isi_t, ↓K1_isi_l, ↓KG_put_eq, ↓KG_put_ne, ↓KG_new_eq, ↓KG_new_ne, ↓KG_kill_ne, ↓K2_ix_c, ↓kIxL_at, ↓KN_len_c, ↓kLenL_l, ↓kLenL_d, ↓KN_tuple_c, ↓kTupL_at, ↓KN_max_c, ↓kMaxL_at, ↓KSl_c, ↓kSlL_at, ↓K_appE, ↓kApp1_at, ↓kApp1b_at, ↓kApp2_at, ↓kApp3_at, ↓K_sLput, ↓kPut1_at, ↓kPut2_at, ↓kPut3_at, ↓kPut4_at, ↓K2_dget_i, ↓K2_dget_s, ↓kDgD_at, ↓KVk_eq, ↓KVk_ne, ↓KVd_eq, ↓KVd_ne, ↓KVd_n, ↓K_dget2, ↓kDg1_at, ↓kDg1b_at, ↓kDg2_at, ↓kDg3_at, ↓kDg4_i, ↓kDg4_s, ↓K_sDput, ↓kDp1_at, ↓kDp2_at, ↓kDp3_i, ↓kDp3_s, ↓kDp4_at, ↓K1_fld, ↓kFldO_at, ↓KFl_eq, ↓KFl_ne, ↓K_sFput, ↓kFp1_at, ↓kFp2_at, ↓kFp3_at, ↓kPf_n, ↓kPf_eq, ↓kPu_c, ↓kPu_n, ↓kPf_ne, ↓K_callM, ↓kMt1_at, ↓kMt2_at, ↓kNo_n, ↓kNo_c, ↓kMt3_0, ↓kMt3_1, ↓kMt3_2, ↓kMt3_3, ↓kMt3_4, ↓K_mkE, ↓kMk_1, ↓kMk_2, ↓kMk_3, ↓kMk2_at, ↓K_sFor, ↓kFor_at, ↓K_itRng1, ↓kRng1_nat, ↓K_itRng2, ↓kRng2_at, ↓K_itSeq, ↓kSeqI_t, ↓kSeqI_l, ↓kSeqI_c, ↓kSeqL_at, ↓K_bodyG_nm, ↓K_bodyG_tp, ↓K_sWhile, ↓kComp_at, ↓K_comp, ↓K_compM, ↓kLst_at, ↓kLstM_at, ↓kEx_at, ↓K_exG_nm, ↓K_exG_tp, ↓kAlc_at, ↓K_opNM, ↓kOpNM_at, ↓KN_list_l2, ↓KN_list_t2, ↓KN_list_c, ↓kListL_at, ↓K_op2M, ↓kOp2Ma_at, ↓kOp2Mb_at, ↓K2_rep1, ↓K_prE_n, ↓K_prE_c, ↓kPr1_at, ↓kPr2_at, ↓kPr3_at, ↓K_dspE, ↓kDsp_s1, ↓kDsp_s2, ↓kDsp_s3, ↓kDsp_s4, ↓K_frz, ↓kFrz_c, ↓kFrz_l, ↓kFrz_t, ↓kFrz_n, ↓kFrzL_at, ↓K_extE, ↓kExt1_at, ↓kExt1b_at, ↓kExt2_at, ↓kExt3_at, ↓K_mt0E, ↓kMt0_at, ↓kMt0L_clear, ↓kMt0L_rev, ↓K2_in_t, ↓K2_in_f, ↓K2_notIn_t, ↓K2_notIn_f, ↓K_itZp, ↓kZp1_at, ↓K_itEn, ↓kEnI_t, ↓kEnI_l, ↓K2_din_i, ↓kDinD_at, ↓KR_put_0, ↓KR_put_1, ↓KR_put_2, ↓KR_put_l, ↓KR_put_into, ↓KR_put_end, ↓KR_put_looked, ↓KR_put_cut, ↓KR_move_0, ↓KR_move_1, ↓KR_move_2, ↓KR_move_l, ↓KR_move_into, ↓KR_move_end, ↓KR_move_looked, ↓KR_move_cut, ↓KR_add_0, ↓KR_add_1, ↓KR_add_2, ↓KR_add_3, ↓KR_add_l, ↓KR_add_into, ↓KR_add_end, ↓KR_add_looked, ↓KR_add_cut, ↓KR_take_0, ↓KR_take_1, ↓KR_take_2, ↓KR_take_3, ↓KR_take_l, ↓KR_take_into, ↓KR_take_end, ↓KR_take_looked, ↓KR_take_cut, ↓KR_times_0, ↓KR_times_1, ↓KR_times_2, ↓KR_times_3, ↓KR_times_l, ↓KR_times_into, ↓KR_times_end, ↓KR_times_looked, ↓KR_times_cut, ↓KR_get_0, ↓KR_get_1, ↓KR_get_2, ↓KR_get_l, ↓KR_get_into, ↓KR_get_end, ↓KR_get_looked, ↓KR_get_cut, ↓KR_set_0, ↓KR_set_1, ↓KR_set_2, ↓KR_set_l, ↓KR_set_into, ↓KR_set_end, ↓KR_set_looked, ↓KR_set_cut, ↓KR_say_0, ↓KR_say_1, ↓KR_say_l, ↓KR_say_into, ↓KR_say_end, ↓KR_say_looked, ↓KR_say_cut, ↓KR_rest_0, ↓KR_rest_l, ↓KR_rest_into, ↓KR_rest_end, ↓KR_rest_looked, ↓KR_rest_cut, ↓KR_go_0, ↓KR_go_1, ↓KR_go_l, ↓KR_go_into, ↓KR_go_end, ↓KR_go_looked, ↓KR_go_cut, ↓KR_ifr_0, ↓KR_ifr_1, ↓KR_ifr_2, ↓KR_ifr_l, ↓KR_ifr_into, ↓KR_ifr_end, ↓KR_ifr_looked, ↓KR_ifr_cut, ↓KR_stop_0, ↓KR_stop_l, ↓KR_stop_into, ↓KR_stop_end, ↓KR_stop_looked, ↓KR_stop_cut, ↓KR_late, ↓KR_far, ↓KR_num, ↓KR_mill_0, ↓KR_mill_1, ↓KR_mill_2, ↓KR_mill_3, ↓KR_pi_len, ↓KA_stop, ↓KA_goes, ↓KA_ends, ↓K_mt1E, ↓kM1_l, ↓kM1_s, ↓kM1b_at, ↓K1_isi_c, ↓kIsiL_at, ↓KN_minl, ↓K2_isB, ↓K2_notB, ↓K1_rev_t, ↓K1_rev_l, ↓K2_nin, ↓K2_nnotin, ↓kNinD_pk, ↓kNnotD_pk, ↓K_nget2, ↓kNg1_at, ↓kNg1b_at, ↓kNg2_at, ↓kNg3_at, ↓kNg4_pk, ↓K_ndctE, ↓K_sNput, ↓kNp1_at, ↓kNp2_at, ↓kNp4_at, ↓K_ndsp1, ↓kNd1_at, ↓KN_nlen_c, ↓kNlenL_at, start0, List.map_cons, List.map_nil, List.length_cons, List.length_nil, List.replicate_succ, List.replicate_zero, Nat.reduceSub, Nat.reduceAdd, wipeE, List.set_cons_zero, List.set_cons_succ, List.cons_append, List.nil_append, $as,*] at $h:ident)
variable {β : Type}
/-! runs that refuse -/
theorem WP.ex {α : Type} {er : Er} {m : Mem} {q : α → Mem → Prop} {e : Er → Mem → Prop} (h : e er m) : WP (.ex er m) q e := ⟨h⟩
end
end LB

set_option Elab.async false
set_option linter.all false
set_option autoImplicit false
set_option maxRecDepth 100000
set_option maxHeartbeats 2000000
/-! Pure: what a found way tells: it can be walked, and no shorter one breaks. -/
namespace LB
open PySem
noncomputable section
end
end LB

set_option Elab.async false
set_option linter.all false
set_option autoImplicit false
set_option maxRecDepth 100000
set_option maxHeartbeats 4000000
/-! Pure: look. -/
namespace LB
open PySem
noncomputable section
local macro_rules | `(tactic| simp_arith [$as,*]) => `(tactic| simp -implicitDefEqProofs (disch := first | assumption | decide | omega | (simp only [List.length_cons, List.length_nil, Mem.put_n, Mem.new_n, Mem.kill_n]; omega)) only [↓KO_some, ↓K_vr, ↓kVr_0, ↓kVr_s, ↓K_cn, ↓K_pure, ↓K_op2, ↓kOp2a_at, ↓kOp2b_at, ↓K_op1, ↓kOp1_at, ↓K_argN, ↓K_argC, ↓kArg1_at, ↓kArg2_at, ↓K_opN, ↓kOpN_at, ↓K_call, ↓kCall_1, ↓kCall_2, ↓kCall_3, ↓kCall_4, ↓kCall_5, ↓K_tpl, ↓K_lsl, ↓K_lsm, ↓K_dctE, ↓kTpl_0, ↓kTpl_1, ↓kTpl_2, ↓kTpl_3, ↓kTpl_4, ↓kTpl_5, ↓kLsl_0, ↓kLsl_1, ↓kLsl_2, ↓kLsl_3, ↓kLsl_4, ↓kLsm_0, ↓K_tV, ↓kTV_at, ↓K_tAnd, ↓kTAnd_t, ↓kTAnd_f, ↓K_tOr, ↓kTOr_t, ↓kTOr_f, ↓K_tNot, ↓kTNot_t, ↓kTNot_f, ↓kTNot_at, ↓K_tYes, ↓K_vAnd, ↓kVAnd_t, ↓kVAnd_f, ↓K_vOr, ↓kVOr_t, ↓kVOr_f, ↓K_vNot, ↓kVNot_at, ↓K_ifE, ↓kIfE_t, ↓kIfE_f, ↓K_chn, ↓kChn0_at, ↓kChn1_at, ↓kChn2_t, ↓kChn2_f, ↓K_soN, ↓K_soS, ↓kSoS_at, ↓K_slc, ↓kSlc0_at, ↓kSlc1_at, ↓kSlc2_at, ↓KSl_tup, ↓KSl_lst, ↓K_sNext, ↓K_sSeq, ↓kSeq_nx, ↓kSeq_rt, ↓K_sRet, ↓kRet_at, ↓K_sRetN, ↓K_sExp, ↓kExp_at, ↓K_sIf, ↓kIf_t, ↓kIf_f, ↓kSet_0, ↓kSet_s, ↓kUn_c, ↓kUn_n, ↓K_sAsg, ↓kAsg_nm, ↓kAsg_tp, ↓kNms_c, ↓kNmsC_at, ↓kNms_n, ↓K_sPar, ↓kPar1_at, ↓kPar2_at, ↓K_run, ↓kRun_rt, ↓kRun_nx, ↓K2_add_i, ↓K2_sub_i, ↓K2_mul_i, ↓K2_mod_i, ↓K2_fdiv_i, ↓K2_lt_i, ↓K2_le_i, ↓K2_gt_i, ↓K2_ge_i, ↓K2_eq_i, ↓K2_ne_i, ↓K2_eq_st, ↓K2_eq_sf, ↓K2_ne_st, ↓K2_ne_sf, ↓K2_eq_b, ↓K2_add_t, ↓K2_add_l, ↓K1_neg_i, ↓K2_isN_n, ↓K2_isN_i, ↓K2_isN_s, ↓K2_isN_t, ↓K2_isN_l, ↓K2_isN_c, ↓K2_notN_n, ↓K2_notN_i, ↓K2_notN_s, ↓K2_notN_t, ↓K2_notN_l, ↓K2_notN_c, ↓K2_ix_t, ↓K2_ix_l, ↓KIx_0, ↓KIx_1, ↓KIx_2, ↓KIx_3, ↓KIx_4, ↓KIx_m1a, ↓KIx_m1b, ↓KIx_m1c, ↓KIx_m1d, ↓KN_len_t, ↓KN_len_l, ↓KN_max2, ↓KN_min2, ↓KN_int_i, ↓KN_int_t, ↓KN_int_f, ↓KN_tuple_l, ↓KN_tuple_t, ↓KN_maxl, ↓KN_suml, ↓K1_isi_n, ↓K1_isi_b, ↓K1_isi_i, ↓K1_isi_s, ↓K1_isi_t, ↓K1_isi_l, ↓KG_put_eq, ↓KG_put_ne, ↓KG_new_eq, ↓KG_new_ne, ↓KG_kill_ne, ↓K2_ix_c, ↓kIxL_at, ↓KN_len_c, ↓kLenL_l, ↓kLenL_d, ↓KN_tuple_c, ↓kTupL_at, ↓KN_max_c, ↓kMaxL_at, ↓KSl_c, ↓kSlL_at, ↓K_appE, ↓kApp1_at, ↓kApp1b_at, ↓kApp2_at, ↓kApp3_at, ↓K_sLput, ↓kPut1_at, ↓kPut2_at, ↓kPut3_at, ↓kPut4_at, ↓K2_dget_i, ↓K2_dget_s, ↓kDgD_at, ↓KVk_eq, ↓KVk_ne, ↓KVd_eq, ↓KVd_ne, ↓KVd_n, ↓K_dget2, ↓kDg1_at, ↓kDg1b_at, ↓kDg2_at, ↓kDg3_at, ↓kDg4_i, ↓kDg4_s, ↓K_sDput, ↓kDp1_at, ↓kDp2_at, ↓kDp3_i, ↓kDp3_s, ↓kDp4_at, ↓K1_fld, ↓kFldO_at, ↓KFl_eq, ↓KFl_ne, ↓K_sFput, ↓kFp1_at, ↓kFp2_at, ↓kFp3_at, ↓kPf_n, ↓kPf_eq, ↓kPu_c, ↓kPu_n, ↓kPf_ne, ↓K_callM, ↓kMt1_at, ↓kMt2_at, ↓kNo_n, ↓kNo_c, ↓kMt3_0, ↓kMt3_1, ↓kMt3_2, ↓kMt3_3, ↓kMt3_4, ↓K_mkE, ↓kMk_1, ↓kMk_2, ↓kMk_3, ↓kMk2_at, ↓K_sFor, ↓kFor_at, ↓K_itRng1, ↓kRng1_nat, ↓K_itRng2, ↓kRng2_at, ↓K_itSeq, ↓kSeqI_t, ↓kSeqI_l, ↓kSeqI_c, ↓kSeqL_at, ↓K_bodyG_nm, ↓K_bodyG_tp, ↓K_sWhile, ↓kComp_at, ↓K_comp, ↓K_compM, ↓kLst_at, ↓kLstM_at, ↓kEx_at, ↓K_exG_nm, ↓K_exG_tp, ↓kAlc_at, ↓K_opNM, ↓kOpNM_at, ↓KN_list_l2, ↓KN_list_t2, ↓KN_list_c, ↓kListL_at, ↓K_op2M, ↓kOp2Ma_at, ↓kOp2Mb_at, ↓K2_rep1, ↓K_prE_n, ↓K_prE_c, ↓kPr1_at, ↓kPr2_at, ↓kPr3_at, ↓K_dspE, ↓kDsp_s1, ↓kDsp_s2, ↓kDsp_s3, ↓kDsp_s4, ↓K_frz, ↓kFrz_c, ↓kFrz_l, ↓kFrz_t, ↓kFrz_n, ↓kFrzL_at, ↓K_extE, ↓kExt1_at, ↓kExt1b_at, ↓kExt2_at, ↓kExt3_at, ↓K_mt0E, ↓kMt0_at, ↓kMt0L_clear, ↓kMt0L_rev, ↓K2_in_t, ↓K2_in_f, ↓K2_notIn_t, ↓K2_notIn_f, ↓K_itZp, ↓kZp1_at, ↓K_itEn, ↓kEnI_t, ↓kEnI_l, ↓K2_din_i, ↓kDinD_at, ↓KR_put_0, ↓KR_put_1, ↓KR_put_2, ↓KR_put_l, ↓KR_put_into, ↓KR_put_end, ↓KR_put_looked, ↓KR_put_cut, ↓KR_move_0, ↓KR_move_1, ↓KR_move_2, ↓KR_move_l, ↓KR_move_into, ↓KR_move_end, ↓KR_move_looked, ↓KR_move_cut, ↓KR_add_0, ↓KR_add_1, ↓KR_add_2, ↓KR_add_3, ↓KR_add_l, ↓KR_add_into, ↓KR_add_end, ↓KR_add_looked, ↓KR_add_cut, ↓KR_take_0, ↓KR_take_1, ↓KR_take_2, ↓KR_take_3, ↓KR_take_l, ↓KR_take_into, ↓KR_take_end, ↓KR_take_looked, ↓KR_take_cut, ↓KR_times_0, ↓KR_times_1, ↓KR_times_2, ↓KR_times_3, ↓KR_times_l, ↓KR_times_into, ↓KR_times_end, ↓KR_times_looked, ↓KR_times_cut, ↓KR_get_0, ↓KR_get_1, ↓KR_get_2, ↓KR_get_l, ↓KR_get_into, ↓KR_get_end, ↓KR_get_looked, ↓KR_get_cut, ↓KR_set_0, ↓KR_set_1, ↓KR_set_2, ↓KR_set_l, ↓KR_set_into, ↓KR_set_end, ↓KR_set_looked, ↓KR_set_cut, ↓KR_say_0, ↓KR_say_1, ↓KR_say_l, ↓KR_say_into, ↓KR_say_end, ↓KR_say_looked, ↓KR_say_cut, ↓KR_rest_0, ↓KR_rest_l, ↓KR_rest_into, ↓KR_rest_end, ↓KR_rest_looked, ↓KR_rest_cut, ↓KR_go_0, ↓KR_go_1, ↓KR_go_l, ↓KR_go_into, ↓KR_go_end, ↓KR_go_looked, ↓KR_go_cut, ↓KR_ifr_0, ↓KR_ifr_1, ↓KR_ifr_2, ↓KR_ifr_l, ↓KR_ifr_into, ↓KR_ifr_end, ↓KR_ifr_looked, ↓KR_ifr_cut, ↓KR_stop_0, ↓KR_stop_l, ↓KR_stop_into, ↓KR_stop_end, ↓KR_stop_looked, ↓KR_stop_cut, ↓KR_late, ↓KR_far, ↓KR_num, ↓KR_mill_0, ↓KR_mill_1, ↓KR_mill_2, ↓KR_mill_3, ↓KR_pi_len, ↓KA_stop, ↓KA_goes, ↓KA_ends, ↓K_mt1E, ↓kM1_l, ↓kM1_s, ↓kM1b_at, ↓K1_isi_c, ↓kIsiL_at, ↓KN_minl, ↓K2_isB, ↓K2_notB, ↓K1_rev_t, ↓K1_rev_l, ↓K2_nin, ↓K2_nnotin, ↓kNinD_pk, ↓kNnotD_pk, ↓K_nget2, ↓kNg1_at, ↓kNg1b_at, ↓kNg2_at, ↓kNg3_at, ↓kNg4_pk, ↓K_ndctE, ↓K_sNput, ↓kNp1_at, ↓kNp2_at, ↓kNp4_at, ↓K_ndsp1, ↓kNd1_at, ↓KN_nlen_c, ↓kNlenL_at, start0, List.map_cons, List.map_nil, List.length_cons, List.length_nil, List.replicate_succ, List.replicate_zero, Nat.reduceSub, Nat.reduceAdd, wipeE, List.set_cons_zero, List.set_cons_succ, List.cons_append, List.nil_append, $as,*])
local macro_rules | `(tactic| simp_arith [$as,*] at $h:ident) => `(tactic| simp -implicitDefEqProofs (disch := first | assumption | decide | omega | (simp only [List.length_cons, List.length_nil, Mem.put_n, Mem.new_n, Mem.kill_n]; omega)) only [↓KO_some, ↓K_vr, ↓kVr_0, ↓kVr_s, ↓K_cn, ↓K_pure, ↓K_op2, ↓kOp2a_at, ↓kOp2b_at, ↓K_op1, ↓kOp1_at, ↓K_argN, ↓K_argC, ↓kArg1_at, ↓kArg2_at, ↓K_opN, ↓kOpN_at, ↓K_call, ↓kCall_1, ↓kCall_2, ↓kCall_3, ↓kCall_4, ↓kCall_5, ↓K_tpl, ↓K_lsl, ↓K_lsm, ↓K_dctE, ↓kTpl_0, ↓kTpl_1, ↓kTpl_2, ↓kTpl_3, ↓kTpl_4, ↓kTpl_5, ↓kLsl_0, ↓kLsl_1, ↓kLsl_2, ↓kLsl_3, ↓kLsl_4, ↓kLsm_0, ↓K_tV, ↓kTV_at, ↓K_tAnd, ↓kTAnd_t, ↓kTAnd_f, ↓K_tOr, ↓kTOr_t, ↓kTOr_f, ↓K_tNot, ↓kTNot_t, ↓kTNot_f, ↓kTNot_at, ↓K_tYes, ↓K_vAnd, ↓kVAnd_t, ↓kVAnd_f, ↓K_vOr, ↓kVOr_t, ↓kVOr_f, ↓K_vNot, ↓kVNot_at, ↓K_ifE, ↓kIfE_t, ↓kIfE_f, ↓K_chn, ↓kChn0_at, ↓kChn1_at, ↓kChn2_t, ↓kChn2_f, ↓K_soN, ↓K_soS, ↓kSoS_at, ↓K_slc, ↓kSlc0_at, ↓kSlc1_at, ↓kSlc2_at, ↓KSl_tup, ↓KSl_lst, ↓K_sNext, ↓K_sSeq, ↓kSeq_nx, ↓kSeq_rt, ↓K_sRet, ↓kRet_at, ↓K_sRetN, ↓K_sExp, ↓kExp_at, ↓K_sIf, ↓kIf_t, ↓kIf_f, ↓kSet_0, ↓kSet_s, ↓kUn_c, ↓kUn_n, ↓K_sAsg, ↓kAsg_nm, ↓kAsg_tp, ↓kNms_c, ↓kNmsC_at, ↓kNms_n, ↓K_sPar, ↓kPar1_at, ↓kPar2_at, ↓K_run, ↓kRun_rt, ↓kRun_nx, ↓K2_add_i, ↓K2_sub_i, ↓K2_mul_i, ↓K2_mod_i, ↓K2_fdiv_i, ↓K2_lt_i, ↓K2_le_i, ↓K2_gt_i, ↓K2_ge_i, ↓K2_eq_i, ↓K2_ne_i, ↓K2_eq_st, ↓K2_eq_sf, ↓K2_ne_st, ↓K2_ne_sf, ↓K2_eq_b, ↓K2_add_t, ↓K2_add_l, ↓K1_neg_i, ↓K2_isN_n, ↓K2_isN_i, ↓K2_isN_s, ↓K2_isN_t, ↓K2_isN_l, ↓K2_isN_c, ↓K2_notN_n, ↓K2_notN_i, ↓K2_notN_s, ↓K2_notN_t, ↓K2_notN_l, ↓K2_notN_c, ↓K2_ix_t, ↓K2_ix_l, ↓KIx_0, ↓KIx_1, ↓KIx_2, ↓KIx_3, ↓KIx_4, ↓KIx_m1a, ↓KIx_m1b, ↓KIx_m1c, ↓KIx_m1d, ↓KN_len_t, ↓KN_len_l, ↓KN_max2, ↓KN_min2, ↓KN_int_i, ↓KN_int_t, ↓KN_int_f, ↓KN_tuple_l, ↓KN_tuple_t, ↓KN_maxl, ↓KN_suml, ↓K1_isi_n, ↓K1_isi_b, ↓K1_isi_i, ↓K1_isi_s, ↓K1_isi_t, ↓K1_isi_l, ↓KG_put_eq, ↓KG_put_ne, ↓KG_new_eq, ↓KG_new_ne, ↓KG_kill_ne, ↓K2_ix_c, ↓kIxL_at, ↓KN_len_c, ↓kLenL_l, ↓kLenL_d, ↓KN_tuple_c, ↓kTupL_at, ↓KN_max_c, ↓kMaxL_at, ↓KSl_c, ↓kSlL_at, ↓K_appE, ↓kApp1_at, ↓kApp1b_at, ↓kApp2_at, ↓kApp3_at, ↓K_sLput, ↓kPut1_at, ↓kPut2_at, ↓kPut3_at, ↓kPut4_at, ↓K2_dget_i, ↓K2_dget_s, ↓kDgD_at, ↓KVk_eq, ↓KVk_ne, ↓KVd_eq, ↓KVd_ne, ↓KVd_n, ↓K_dget2, ↓kDg1_at, ↓kDg1b_at, ↓kDg2_at, ↓kDg3_at, ↓kDg4_i, ↓kDg4_s, ↓K_sDput, ↓kDp1_at, ↓kDp2_at, ↓kDp3_i, ↓kDp3_s, ↓kDp4_at, ↓K1_fld, ↓kFldO_at, ↓KFl_eq, ↓KFl_ne, ↓K_sFput, ↓kFp1_at, ↓kFp2_at, ↓kFp3_at, ↓kPf_n, ↓kPf_eq, ↓kPu_c, ↓kPu_n, ↓kPf_ne, ↓K_callM, ↓kMt1_at, ↓kMt2_at, ↓kNo_n, ↓kNo_c, ↓kMt3_0, ↓kMt3_1, ↓kMt3_2, ↓kMt3_3, ↓kMt3_4, ↓K_mkE, ↓kMk_1, ↓kMk_2, ↓kMk_3, ↓kMk2_at, ↓K_sFor, ↓kFor_at, ↓K_itRng1, ↓kRng1_nat, ↓K_itRng2, ↓kRng2_at, ↓K_itSeq, ↓kSeqI_t, ↓kSeqI_l, ↓kSeqI_c, ↓kSeqL_at, ↓K_bodyG_nm, ↓K_bodyG_tp, ↓K_sWhile, ↓kComp_at, ↓K_comp, ↓K_compM, ↓kLst_at, ↓kLstM_at, ↓kEx_at, ↓K_exG_nm, ↓K_exG_tp, ↓kAlc_at, ↓K_opNM, ↓kOpNM_at, ↓KN_list_l2, ↓KN_list_t2, ↓KN_list_c, ↓kListL_at, ↓K_op2M, ↓kOp2Ma_at, ↓kOp2Mb_at, ↓K2_rep1, ↓K_prE_n, ↓K_prE_c, ↓kPr1_at, ↓kPr2_at, ↓kPr3_at, ↓K_dspE, ↓kDsp_s1, ↓kDsp_s2, ↓kDsp_s3, ↓kDsp_s4, ↓K_frz, ↓kFrz_c, ↓kFrz_l, ↓kFrz_t, ↓kFrz_n, ↓kFrzL_at, ↓K_extE, ↓kExt1_at, ↓kExt1b_at, ↓kExt2_at, ↓kExt3_at, ↓K_mt0E, ↓kMt0_at, ↓kMt0L_clear, ↓kMt0L_rev, ↓K2_in_t, ↓K2_in_f, ↓K2_notIn_t, ↓K2_notIn_f, ↓K_itZp, ↓kZp1_at, ↓K_itEn, ↓kEnI_t, ↓kEnI_l, ↓K2_din_i, ↓kDinD_at, ↓KR_put_0, ↓KR_put_1, ↓KR_put_2, ↓KR_put_l, ↓KR_put_into, ↓KR_put_end, ↓KR_put_looked, ↓KR_put_cut, ↓KR_move_0, ↓KR_move_1, ↓KR_move_2, ↓KR_move_l, ↓KR_move_into, ↓KR_move_end, ↓KR_move_looked, ↓KR_move_cut, ↓KR_add_0, ↓KR_add_1, ↓KR_add_2, ↓KR_add_3, ↓KR_add_l, ↓KR_add_into, ↓KR_add_end, ↓KR_add_looked, ↓KR_add_cut, ↓KR_take_0, ↓KR_take_1, ↓KR_take_2, ↓KR_take_3, ↓KR_take_l, ↓KR_take_into, ↓KR_take_end, ↓KR_take_looked, ↓KR_take_cut, ↓KR_times_0, ↓KR_times_1, ↓KR_times_2, ↓KR_times_3, ↓KR_times_l, ↓KR_times_into, ↓KR_times_end, ↓KR_times_looked, ↓KR_times_cut, ↓KR_get_0, ↓KR_get_1, ↓KR_get_2, ↓KR_get_l, ↓KR_get_into, ↓KR_get_end, ↓KR_get_looked, ↓KR_get_cut, ↓KR_set_0, ↓KR_set_1, ↓KR_set_2, ↓KR_set_l, ↓KR_set_into, ↓KR_set_end, ↓KR_set_looked, ↓KR_set_cut, ↓KR_say_0, ↓KR_say_1, ↓KR_say_l, ↓KR_say_into, ↓KR_say_end, ↓KR_say_looked, ↓KR_say_cut, ↓KR_rest_0, ↓KR_rest_l, ↓KR_rest_into, ↓KR_rest_end, ↓KR_rest_looked, ↓KR_rest_cut, ↓KR_go_0, ↓KR_go_1, ↓KR_go_l, ↓KR_go_into, ↓KR_go_end, ↓KR_go_looked, ↓KR_go_cut, ↓KR_ifr_0, ↓KR_ifr_1, ↓KR_ifr_2, ↓KR_ifr_l, ↓KR_ifr_into, ↓KR_ifr_end, ↓KR_ifr_looked, ↓KR_ifr_cut, ↓KR_stop_0, ↓KR_stop_l, ↓KR_stop_into, ↓KR_stop_end, ↓KR_stop_looked, ↓KR_stop_cut, ↓KR_late, ↓KR_far, ↓KR_num, ↓KR_mill_0, ↓KR_mill_1, ↓KR_mill_2, ↓KR_mill_3, ↓KR_pi_len, ↓KA_stop, ↓KA_goes, ↓KA_ends, ↓K_mt1E, ↓kM1_l, ↓kM1_s, ↓kM1b_at, ↓K1_isi_c, ↓kIsiL_at, ↓KN_minl, ↓K2_isB, ↓K2_notB, ↓K1_rev_t, ↓K1_rev_l, ↓K2_nin, ↓K2_nnotin, ↓kNinD_pk, ↓kNnotD_pk, ↓K_nget2, ↓kNg1_at, ↓kNg1b_at, ↓kNg2_at, ↓kNg3_at, ↓kNg4_pk, ↓K_ndctE, ↓K_sNput, ↓kNp1_at, ↓kNp2_at, ↓kNp4_at, ↓K_ndsp1, ↓kNd1_at, ↓KN_nlen_c, ↓kNlenL_at, start0, List.map_cons, List.map_nil, List.length_cons, List.length_nil, List.replicate_succ, List.replicate_zero, Nat.reduceSub, Nat.reduceAdd, wipeE, List.set_cons_zero, List.set_cons_succ, List.cons_append, List.nil_append, $as,*] at $h:ident)
/-- what a look's while holds -/
structure LoopR (p : List Row) (t : Mill) (N : Nat) (lv : List (Way × LS)) (kvs : KV) : Prop where
  goal : lookF p t N lv kvs = lookP p t
  ok : ∀ x, x ∈ lv → x.2.Ok p.length ∧ x.1.length + N ≤ 300
  len : lv.length ≤ 250
  kl : kvs.length ≤ 250
  fu : 300 ≤ N + kvs.length
  fu1 : lv ≠ [] → 301 ≤ N + kvs.length
theorem LoopR.step {p : List Row} {t : Mill} {N : Nat} {lv : List (Way × LS)} {kvs : KV} (hp : ProgOk p) (h : LoopR p t N lv kvs) (hne : lv ≠ []) (hm : lookP p t ≠ .many) :
    0 < N ∧ (∀ a, goLv p t lv (kvs, []) = .ok a → a.1.length ≤ 250 ∧ LoopR p t (N - 1) a.2 a.1) ∧ ∀ w y, goLv p t lv (kvs, []) = .error (w, y) → lookP p t = .found w y := by
  have hf := h.fu
  have hk := h.kl
  have hf1 := h.fu1 hne
  obtain ⟨n, rfl⟩ : ∃ n, N = n + 1 := ⟨N - 1, by omega⟩
  have hg := h.goal
  have e0 : lookF p t (n + 1) lv kvs = match goLv p t lv (kvs, []) with
     | .error q => .found q.1 q.2
     | .ok a => if 250 < a.1.length then .many else lookF p t n a.2 a.1 := by
    rw [lookF, if_neg (by rw [List.isEmpty_iff]; exact hne)]
    all_goals rfl
  rw [e0] at hg
  refine ⟨Nat.succ_pos _, fun a ha => ?_, fun w y he => ?_⟩
  · rw [ha] at hg
    dsimp only at hg
    have hle : a.1.length ≤ 250 := by
      by_cases hb : 250 < a.1.length
      · rw [if_pos hb] at hg
        exact (hm hg.symm).elim
      · omega
    rw [if_neg (by omega)] at hg
    have gr : a.1.length + 0 = kvs.length + a.2.length := goLv_grow lv (kvs, []) a ha
    refine ⟨hle, hg, ?_, by omega, hle, by show 300 ≤ n + a.1.length; omega, fun hne2 => ?_⟩
    · exact goLv_all lv (kvs, []) a (fun x hx => by cases hx) (fun x hx q hq => ⟨nxts_ok hp (h.ok x hx).1 hq, by
        have := (h.ok x hx).2
        show (x.1 ++ [(x.2.here, q.1)]).length + n ≤ 300
        rw [List.length_append, List.length_singleton]
        omega⟩) ha
    · have : 0 < a.2.length := List.length_pos_iff.mpr hne2
      show 301 ≤ n + a.1.length
      omega
  · rw [he] at hg
    exact hg.symm
section
variable {m : Mem} {p : List Row} {t : Mill}
theorem plains_map {α : Type} {f : α → D} (h : ∀ x, (f x).plain = true) : ∀ xs : List α, plains (xs.map f) = true
  | [] => rfl
  | x :: xs => by
    show ((f x).plain && plains (xs.map f)) = true
    rw [h x, plains_map h xs]
    rfl
theorem deps_map {α : Type} {f : α → D} {n : Nat} (h : ∀ x, (f x).dep ≤ n) : ∀ xs : List α, deps (xs.map f) ≤ n
  | [] => Nat.zero_le _
  | x :: xs => Nat.max_le.mpr ⟨h x, deps_map h xs⟩
end
end
end LB

set_option Elab.async false
set_option linter.all false
set_option autoImplicit false
set_option maxRecDepth 100000
set_option maxHeartbeats 2000000
/-! Pure: what a look tells: its words, how long its way is. -/
namespace LB
open PySem
noncomputable section
def Word3 (z : Str) : Prop := z = Str.ofString "early" ∨ z = Str.ofString "over" ∨ z = Str.ofString "jump"
theorem Word3.plain {z : Str} (h : Word3 z) : (D.str z).plain = true := by
  rcases h with rfl | rfl | rfl <;> decide +kernel
end
end LB

set_option Elab.async false
set_option linter.all false
set_option autoImplicit false
set_option maxRecDepth 100000
set_option maxHeartbeats 4000000
/-! Pure: starts in turn, laid. -/
namespace LB
open PySem
noncomputable section
local macro_rules | `(tactic| simp_arith [$as,*]) => `(tactic| simp -implicitDefEqProofs (disch := first | assumption | decide | omega | (simp only [List.length_cons, List.length_nil, Mem.put_n, Mem.new_n, Mem.kill_n]; omega)) only [↓KO_some, ↓K_vr, ↓kVr_0, ↓kVr_s, ↓K_cn, ↓K_pure, ↓K_op2, ↓kOp2a_at, ↓kOp2b_at, ↓K_op1, ↓kOp1_at, ↓K_argN, ↓K_argC, ↓kArg1_at, ↓kArg2_at, ↓K_opN, ↓kOpN_at, ↓K_call, ↓kCall_1, ↓kCall_2, ↓kCall_3, ↓kCall_4, ↓kCall_5, ↓K_tpl, ↓K_lsl, ↓K_lsm, ↓K_dctE, ↓kTpl_0, ↓kTpl_1, ↓kTpl_2, ↓kTpl_3, ↓kTpl_4, ↓kTpl_5, ↓kLsl_0, ↓kLsl_1, ↓kLsl_2, ↓kLsl_3, ↓kLsl_4, ↓kLsm_0, ↓K_tV, ↓kTV_at, ↓K_tAnd, ↓kTAnd_t, ↓kTAnd_f, ↓K_tOr, ↓kTOr_t, ↓kTOr_f, ↓K_tNot, ↓kTNot_t, ↓kTNot_f, ↓kTNot_at, ↓K_tYes, ↓K_vAnd, ↓kVAnd_t, ↓kVAnd_f, ↓K_vOr, ↓kVOr_t, ↓kVOr_f, ↓K_vNot, ↓kVNot_at, ↓K_ifE, ↓kIfE_t, ↓kIfE_f, ↓K_chn, ↓kChn0_at, ↓kChn1_at, ↓kChn2_t, ↓kChn2_f, ↓K_soN, ↓K_soS, ↓kSoS_at, ↓K_slc, ↓kSlc0_at, ↓kSlc1_at, ↓kSlc2_at, ↓KSl_tup, ↓KSl_lst, ↓K_sNext, ↓K_sSeq, ↓kSeq_nx, ↓kSeq_rt, ↓K_sRet, ↓kRet_at, ↓K_sRetN, ↓K_sExp, ↓kExp_at, ↓K_sIf, ↓kIf_t, ↓kIf_f, ↓kSet_0, ↓kSet_s, ↓kUn_c, ↓kUn_n, ↓K_sAsg, ↓kAsg_nm, ↓kAsg_tp, ↓kNms_c, ↓kNmsC_at, ↓kNms_n, ↓K_sPar, ↓kPar1_at, ↓kPar2_at, ↓K_run, ↓kRun_rt, ↓kRun_nx, ↓K2_add_i, ↓K2_sub_i, ↓K2_mul_i, ↓K2_mod_i, ↓K2_fdiv_i, ↓K2_lt_i, ↓K2_le_i, ↓K2_gt_i, ↓K2_ge_i, ↓K2_eq_i, ↓K2_ne_i, ↓K2_eq_st, ↓K2_eq_sf, ↓K2_ne_st, ↓K2_ne_sf, ↓K2_eq_b, ↓K2_add_t, ↓K2_add_l, ↓K1_neg_i, ↓K2_isN_n, ↓K2_isN_i, ↓K2_isN_s, ↓K2_isN_t, ↓K2_isN_l, ↓K2_isN_c, ↓K2_notN_n, ↓K2_notN_i, ↓K2_notN_s, ↓K2_notN_t, ↓K2_notN_l, ↓K2_notN_c, ↓K2_ix_t, ↓K2_ix_l, ↓KIx_0, ↓KIx_1, ↓KIx_2, ↓KIx_3, ↓KIx_4, ↓KIx_m1a, ↓KIx_m1b, ↓KIx_m1c, ↓KIx_m1d, ↓KN_len_t, ↓KN_len_l, ↓KN_max2, ↓KN_min2, ↓KN_int_i, ↓KN_int_t, ↓KN_int_f, ↓KN_tuple_l, ↓KN_tuple_t, ↓KN_maxl, ↓KN_suml, ↓K1_isi_n, ↓K1_isi_b, ↓K1_isi_i, ↓K1_isi_s, ↓K1_isi_t, ↓K1_isi_l, ↓KG_put_eq, ↓KG_put_ne, ↓KG_new_eq, ↓KG_new_ne, ↓KG_kill_ne, ↓K2_ix_c, ↓kIxL_at, ↓KN_len_c, ↓kLenL_l, ↓kLenL_d, ↓KN_tuple_c, ↓kTupL_at, ↓KN_max_c, ↓kMaxL_at, ↓KSl_c, ↓kSlL_at, ↓K_appE, ↓kApp1_at, ↓kApp1b_at, ↓kApp2_at, ↓kApp3_at, ↓K_sLput, ↓kPut1_at, ↓kPut2_at, ↓kPut3_at, ↓kPut4_at, ↓K2_dget_i, ↓K2_dget_s, ↓kDgD_at, ↓KVk_eq, ↓KVk_ne, ↓KVd_eq, ↓KVd_ne, ↓KVd_n, ↓K_dget2, ↓kDg1_at, ↓kDg1b_at, ↓kDg2_at, ↓kDg3_at, ↓kDg4_i, ↓kDg4_s, ↓K_sDput, ↓kDp1_at, ↓kDp2_at, ↓kDp3_i, ↓kDp3_s, ↓kDp4_at, ↓K1_fld, ↓kFldO_at, ↓KFl_eq, ↓KFl_ne, ↓K_sFput, ↓kFp1_at, ↓kFp2_at, ↓kFp3_at, ↓kPf_n, ↓kPf_eq, ↓kPu_c, ↓kPu_n, ↓kPf_ne, ↓K_callM, ↓kMt1_at, ↓kMt2_at, ↓kNo_n, ↓kNo_c, ↓kMt3_0, ↓kMt3_1, ↓kMt3_2, ↓kMt3_3, ↓kMt3_4, ↓K_mkE, ↓kMk_1, ↓kMk_2, ↓kMk_3, ↓kMk2_at, ↓K_sFor, ↓kFor_at, ↓K_itRng1, ↓kRng1_nat, ↓K_itRng2, ↓kRng2_at, ↓K_itSeq, ↓kSeqI_t, ↓kSeqI_l, ↓kSeqI_c, ↓kSeqL_at, ↓K_bodyG_nm, ↓K_bodyG_tp, ↓K_sWhile, ↓kComp_at, ↓K_comp, ↓K_compM, ↓kLst_at, ↓kLstM_at, ↓kEx_at, ↓K_exG_nm, ↓K_exG_tp, ↓kAlc_at, ↓K_opNM, ↓kOpNM_at, ↓KN_list_l2, ↓KN_list_t2, ↓KN_list_c, ↓kListL_at, ↓K_op2M, ↓kOp2Ma_at, ↓kOp2Mb_at, ↓K2_rep1, ↓K_prE_n, ↓K_prE_c, ↓kPr1_at, ↓kPr2_at, ↓kPr3_at, ↓K_dspE, ↓kDsp_s1, ↓kDsp_s2, ↓kDsp_s3, ↓kDsp_s4, ↓K_frz, ↓kFrz_c, ↓kFrz_l, ↓kFrz_t, ↓kFrz_n, ↓kFrzL_at, ↓K_extE, ↓kExt1_at, ↓kExt1b_at, ↓kExt2_at, ↓kExt3_at, ↓K_mt0E, ↓kMt0_at, ↓kMt0L_clear, ↓kMt0L_rev, ↓K2_in_t, ↓K2_in_f, ↓K2_notIn_t, ↓K2_notIn_f, ↓K_itZp, ↓kZp1_at, ↓K_itEn, ↓kEnI_t, ↓kEnI_l, ↓K2_din_i, ↓kDinD_at, ↓KR_put_0, ↓KR_put_1, ↓KR_put_2, ↓KR_put_l, ↓KR_put_into, ↓KR_put_end, ↓KR_put_looked, ↓KR_put_cut, ↓KR_move_0, ↓KR_move_1, ↓KR_move_2, ↓KR_move_l, ↓KR_move_into, ↓KR_move_end, ↓KR_move_looked, ↓KR_move_cut, ↓KR_add_0, ↓KR_add_1, ↓KR_add_2, ↓KR_add_3, ↓KR_add_l, ↓KR_add_into, ↓KR_add_end, ↓KR_add_looked, ↓KR_add_cut, ↓KR_take_0, ↓KR_take_1, ↓KR_take_2, ↓KR_take_3, ↓KR_take_l, ↓KR_take_into, ↓KR_take_end, ↓KR_take_looked, ↓KR_take_cut, ↓KR_times_0, ↓KR_times_1, ↓KR_times_2, ↓KR_times_3, ↓KR_times_l, ↓KR_times_into, ↓KR_times_end, ↓KR_times_looked, ↓KR_times_cut, ↓KR_get_0, ↓KR_get_1, ↓KR_get_2, ↓KR_get_l, ↓KR_get_into, ↓KR_get_end, ↓KR_get_looked, ↓KR_get_cut, ↓KR_set_0, ↓KR_set_1, ↓KR_set_2, ↓KR_set_l, ↓KR_set_into, ↓KR_set_end, ↓KR_set_looked, ↓KR_set_cut, ↓KR_say_0, ↓KR_say_1, ↓KR_say_l, ↓KR_say_into, ↓KR_say_end, ↓KR_say_looked, ↓KR_say_cut, ↓KR_rest_0, ↓KR_rest_l, ↓KR_rest_into, ↓KR_rest_end, ↓KR_rest_looked, ↓KR_rest_cut, ↓KR_go_0, ↓KR_go_1, ↓KR_go_l, ↓KR_go_into, ↓KR_go_end, ↓KR_go_looked, ↓KR_go_cut, ↓KR_ifr_0, ↓KR_ifr_1, ↓KR_ifr_2, ↓KR_ifr_l, ↓KR_ifr_into, ↓KR_ifr_end, ↓KR_ifr_looked, ↓KR_ifr_cut, ↓KR_stop_0, ↓KR_stop_l, ↓KR_stop_into, ↓KR_stop_end, ↓KR_stop_looked, ↓KR_stop_cut, ↓KR_late, ↓KR_far, ↓KR_num, ↓KR_mill_0, ↓KR_mill_1, ↓KR_mill_2, ↓KR_mill_3, ↓KR_pi_len, ↓KA_stop, ↓KA_goes, ↓KA_ends, ↓K_mt1E, ↓kM1_l, ↓kM1_s, ↓kM1b_at, ↓K1_isi_c, ↓kIsiL_at, ↓KN_minl, ↓K2_isB, ↓K2_notB, ↓K1_rev_t, ↓K1_rev_l, ↓K2_nin, ↓K2_nnotin, ↓kNinD_pk, ↓kNnotD_pk, ↓K_nget2, ↓kNg1_at, ↓kNg1b_at, ↓kNg2_at, ↓kNg3_at, ↓kNg4_pk, ↓K_ndctE, ↓K_sNput, ↓kNp1_at, ↓kNp2_at, ↓kNp4_at, ↓K_ndsp1, ↓kNd1_at, ↓KN_nlen_c, ↓kNlenL_at, start0, List.map_cons, List.map_nil, List.length_cons, List.length_nil, List.replicate_succ, List.replicate_zero, Nat.reduceSub, Nat.reduceAdd, wipeE, List.set_cons_zero, List.set_cons_succ, List.cons_append, List.nil_append, $as,*])
local macro_rules | `(tactic| simp_arith [$as,*] at $h:ident) => `(tactic| simp -implicitDefEqProofs (disch := first | assumption | decide | omega | (simp only [List.length_cons, List.length_nil, Mem.put_n, Mem.new_n, Mem.kill_n]; omega)) only [↓KO_some, ↓K_vr, ↓kVr_0, ↓kVr_s, ↓K_cn, ↓K_pure, ↓K_op2, ↓kOp2a_at, ↓kOp2b_at, ↓K_op1, ↓kOp1_at, ↓K_argN, ↓K_argC, ↓kArg1_at, ↓kArg2_at, ↓K_opN, ↓kOpN_at, ↓K_call, ↓kCall_1, ↓kCall_2, ↓kCall_3, ↓kCall_4, ↓kCall_5, ↓K_tpl, ↓K_lsl, ↓K_lsm, ↓K_dctE, ↓kTpl_0, ↓kTpl_1, ↓kTpl_2, ↓kTpl_3, ↓kTpl_4, ↓kTpl_5, ↓kLsl_0, ↓kLsl_1, ↓kLsl_2, ↓kLsl_3, ↓kLsl_4, ↓kLsm_0, ↓K_tV, ↓kTV_at, ↓K_tAnd, ↓kTAnd_t, ↓kTAnd_f, ↓K_tOr, ↓kTOr_t, ↓kTOr_f, ↓K_tNot, ↓kTNot_t, ↓kTNot_f, ↓kTNot_at, ↓K_tYes, ↓K_vAnd, ↓kVAnd_t, ↓kVAnd_f, ↓K_vOr, ↓kVOr_t, ↓kVOr_f, ↓K_vNot, ↓kVNot_at, ↓K_ifE, ↓kIfE_t, ↓kIfE_f, ↓K_chn, ↓kChn0_at, ↓kChn1_at, ↓kChn2_t, ↓kChn2_f, ↓K_soN, ↓K_soS, ↓kSoS_at, ↓K_slc, ↓kSlc0_at, ↓kSlc1_at, ↓kSlc2_at, ↓KSl_tup, ↓KSl_lst, ↓K_sNext, ↓K_sSeq, ↓kSeq_nx, ↓kSeq_rt, ↓K_sRet, ↓kRet_at, ↓K_sRetN, ↓K_sExp, ↓kExp_at, ↓K_sIf, ↓kIf_t, ↓kIf_f, ↓kSet_0, ↓kSet_s, ↓kUn_c, ↓kUn_n, ↓K_sAsg, ↓kAsg_nm, ↓kAsg_tp, ↓kNms_c, ↓kNmsC_at, ↓kNms_n, ↓K_sPar, ↓kPar1_at, ↓kPar2_at, ↓K_run, ↓kRun_rt, ↓kRun_nx, ↓K2_add_i, ↓K2_sub_i, ↓K2_mul_i, ↓K2_mod_i, ↓K2_fdiv_i, ↓K2_lt_i, ↓K2_le_i, ↓K2_gt_i, ↓K2_ge_i, ↓K2_eq_i, ↓K2_ne_i, ↓K2_eq_st, ↓K2_eq_sf, ↓K2_ne_st, ↓K2_ne_sf, ↓K2_eq_b, ↓K2_add_t, ↓K2_add_l, ↓K1_neg_i, ↓K2_isN_n, ↓K2_isN_i, ↓K2_isN_s, ↓K2_isN_t, ↓K2_isN_l, ↓K2_isN_c, ↓K2_notN_n, ↓K2_notN_i, ↓K2_notN_s, ↓K2_notN_t, ↓K2_notN_l, ↓K2_notN_c, ↓K2_ix_t, ↓K2_ix_l, ↓KIx_0, ↓KIx_1, ↓KIx_2, ↓KIx_3, ↓KIx_4, ↓KIx_m1a, ↓KIx_m1b, ↓KIx_m1c, ↓KIx_m1d, ↓KN_len_t, ↓KN_len_l, ↓KN_max2, ↓KN_min2, ↓KN_int_i, ↓KN_int_t, ↓KN_int_f, ↓KN_tuple_l, ↓KN_tuple_t, ↓KN_maxl, ↓KN_suml, ↓K1_isi_n, ↓K1_isi_b, ↓K1_isi_i, ↓K1_isi_s, ↓K1_isi_t, ↓K1_isi_l, ↓KG_put_eq, ↓KG_put_ne, ↓KG_new_eq, ↓KG_new_ne, ↓KG_kill_ne, ↓K2_ix_c, ↓kIxL_at, ↓KN_len_c, ↓kLenL_l, ↓kLenL_d, ↓KN_tuple_c, ↓kTupL_at, ↓KN_max_c, ↓kMaxL_at, ↓KSl_c, ↓kSlL_at, ↓K_appE, ↓kApp1_at, ↓kApp1b_at, ↓kApp2_at, ↓kApp3_at, ↓K_sLput, ↓kPut1_at, ↓kPut2_at, ↓kPut3_at, ↓kPut4_at, ↓K2_dget_i, ↓K2_dget_s, ↓kDgD_at, ↓KVk_eq, ↓KVk_ne, ↓KVd_eq, ↓KVd_ne, ↓KVd_n, ↓K_dget2, ↓kDg1_at, ↓kDg1b_at, ↓kDg2_at, ↓kDg3_at, ↓kDg4_i, ↓kDg4_s, ↓K_sDput, ↓kDp1_at, ↓kDp2_at, ↓kDp3_i, ↓kDp3_s, ↓kDp4_at, ↓K1_fld, ↓kFldO_at, ↓KFl_eq, ↓KFl_ne, ↓K_sFput, ↓kFp1_at, ↓kFp2_at, ↓kFp3_at, ↓kPf_n, ↓kPf_eq, ↓kPu_c, ↓kPu_n, ↓kPf_ne, ↓K_callM, ↓kMt1_at, ↓kMt2_at, ↓kNo_n, ↓kNo_c, ↓kMt3_0, ↓kMt3_1, ↓kMt3_2, ↓kMt3_3, ↓kMt3_4, ↓K_mkE, ↓kMk_1, ↓kMk_2, ↓kMk_3, ↓kMk2_at, ↓K_sFor, ↓kFor_at, ↓K_itRng1, ↓kRng1_nat, ↓K_itRng2, ↓kRng2_at, ↓K_itSeq, ↓kSeqI_t, ↓kSeqI_l, ↓kSeqI_c, ↓kSeqL_at, ↓K_bodyG_nm, ↓K_bodyG_tp, ↓K_sWhile, ↓kComp_at, ↓K_comp, ↓K_compM, ↓kLst_at, ↓kLstM_at, ↓kEx_at, ↓K_exG_nm, ↓K_exG_tp, ↓kAlc_at, ↓K_opNM, ↓kOpNM_at, ↓KN_list_l2, ↓KN_list_t2, ↓KN_list_c, ↓kListL_at, ↓K_op2M, ↓kOp2Ma_at, ↓kOp2Mb_at, ↓K2_rep1, ↓K_prE_n, ↓K_prE_c, ↓kPr1_at, ↓kPr2_at, ↓kPr3_at, ↓K_dspE, ↓kDsp_s1, ↓kDsp_s2, ↓kDsp_s3, ↓kDsp_s4, ↓K_frz, ↓kFrz_c, ↓kFrz_l, ↓kFrz_t, ↓kFrz_n, ↓kFrzL_at, ↓K_extE, ↓kExt1_at, ↓kExt1b_at, ↓kExt2_at, ↓kExt3_at, ↓K_mt0E, ↓kMt0_at, ↓kMt0L_clear, ↓kMt0L_rev, ↓K2_in_t, ↓K2_in_f, ↓K2_notIn_t, ↓K2_notIn_f, ↓K_itZp, ↓kZp1_at, ↓K_itEn, ↓kEnI_t, ↓kEnI_l, ↓K2_din_i, ↓kDinD_at, ↓KR_put_0, ↓KR_put_1, ↓KR_put_2, ↓KR_put_l, ↓KR_put_into, ↓KR_put_end, ↓KR_put_looked, ↓KR_put_cut, ↓KR_move_0, ↓KR_move_1, ↓KR_move_2, ↓KR_move_l, ↓KR_move_into, ↓KR_move_end, ↓KR_move_looked, ↓KR_move_cut, ↓KR_add_0, ↓KR_add_1, ↓KR_add_2, ↓KR_add_3, ↓KR_add_l, ↓KR_add_into, ↓KR_add_end, ↓KR_add_looked, ↓KR_add_cut, ↓KR_take_0, ↓KR_take_1, ↓KR_take_2, ↓KR_take_3, ↓KR_take_l, ↓KR_take_into, ↓KR_take_end, ↓KR_take_looked, ↓KR_take_cut, ↓KR_times_0, ↓KR_times_1, ↓KR_times_2, ↓KR_times_3, ↓KR_times_l, ↓KR_times_into, ↓KR_times_end, ↓KR_times_looked, ↓KR_times_cut, ↓KR_get_0, ↓KR_get_1, ↓KR_get_2, ↓KR_get_l, ↓KR_get_into, ↓KR_get_end, ↓KR_get_looked, ↓KR_get_cut, ↓KR_set_0, ↓KR_set_1, ↓KR_set_2, ↓KR_set_l, ↓KR_set_into, ↓KR_set_end, ↓KR_set_looked, ↓KR_set_cut, ↓KR_say_0, ↓KR_say_1, ↓KR_say_l, ↓KR_say_into, ↓KR_say_end, ↓KR_say_looked, ↓KR_say_cut, ↓KR_rest_0, ↓KR_rest_l, ↓KR_rest_into, ↓KR_rest_end, ↓KR_rest_looked, ↓KR_rest_cut, ↓KR_go_0, ↓KR_go_1, ↓KR_go_l, ↓KR_go_into, ↓KR_go_end, ↓KR_go_looked, ↓KR_go_cut, ↓KR_ifr_0, ↓KR_ifr_1, ↓KR_ifr_2, ↓KR_ifr_l, ↓KR_ifr_into, ↓KR_ifr_end, ↓KR_ifr_looked, ↓KR_ifr_cut, ↓KR_stop_0, ↓KR_stop_l, ↓KR_stop_into, ↓KR_stop_end, ↓KR_stop_looked, ↓KR_stop_cut, ↓KR_late, ↓KR_far, ↓KR_num, ↓KR_mill_0, ↓KR_mill_1, ↓KR_mill_2, ↓KR_mill_3, ↓KR_pi_len, ↓KA_stop, ↓KA_goes, ↓KA_ends, ↓K_mt1E, ↓kM1_l, ↓kM1_s, ↓kM1b_at, ↓K1_isi_c, ↓kIsiL_at, ↓KN_minl, ↓K2_isB, ↓K2_notB, ↓K1_rev_t, ↓K1_rev_l, ↓K2_nin, ↓K2_nnotin, ↓kNinD_pk, ↓kNnotD_pk, ↓K_nget2, ↓kNg1_at, ↓kNg1b_at, ↓kNg2_at, ↓kNg3_at, ↓kNg4_pk, ↓K_ndctE, ↓K_sNput, ↓kNp1_at, ↓kNp2_at, ↓kNp4_at, ↓K_ndsp1, ↓kNd1_at, ↓KN_nlen_c, ↓kNlenL_at, start0, List.map_cons, List.map_nil, List.length_cons, List.length_nil, List.replicate_succ, List.replicate_zero, Nat.reduceSub, Nat.reduceAdd, wipeE, List.set_cons_zero, List.set_cons_succ, List.cons_append, List.nil_append, $as,*] at $h:ident)
structure InR (m : Mem) (s : List Int) (m2 : Mem) : Prop where
  keep : Keep m m2
  n : m.n < m2.n
  at_ : m2.get m.n = some (.lst (s.map D.int))
theorem InR.more {m m2 m3 : Mem} {s : List Int} (h : InR m s m2) (k : Keep m2 m3) : InR m s m3 := ⟨h.keep.trans k, Nat.lt_of_lt_of_le h.n k.n, (k.at_ _ h.n).trans h.at_⟩
theorem InR.put {m m2 : Mem} {s : List Int} (h : InR m s m2) (z : List Int) : InR m z (m2.put m.n (.lst (z.map D.int))) := ⟨⟨h.keep.n, fun j hj => (put_ne (Nat.ne_of_lt hj)).trans (h.keep.at_ j hj)⟩, h.n, put_at ..⟩
/-- starts by which a piece may be laid -/
structure LayOk (p : List Row) (t : Mill) (s : List Int) : Prop where
  len : s.length = p.length
  nn : ∀ v, v ∈ s → 0 ≤ v
  lt : ∀ v, v ∈ s → v < beatsP t p s
  big : beatsP t p s ≤ 10000
/-- the rows laid by starts -/
def layR (p : List Row) (s : List Int) (n : Nat) : List Row := (p.zip s).foldl (fun L q => L.set q.2.toNat q.1) (List.replicate n Row.rest)
theorem layR_len (p : List Row) (s : List Int) (n : Nat) : (layR p s n).length = n := by
  have key : ∀ (qs : List (Row × Int)) (L : List Row), (qs.foldl (fun L q => L.set q.2.toNat q.1) L).length = L.length := by
    intro qs
    induction qs with
    | nil => exact fun _ => rfl
    | cons q qs ih =>
      intro L
      rw [List.foldl_cons, ih, List.length_set]
  unfold layR
  rw [key, List.length_replicate]
structure LdR (m : Mem) (L : List Row) (m2 : Mem) : Prop where
  keep : Keep m m2
  n : m.n < m2.n
  at_ : m2.get m.n = some (.lst (L.map Row.enc))
theorem LdR.put {m m2 : Mem} {L : List Row} (h : LdR m L m2) (z : List Row) : LdR m z (m2.put m.n (.lst (z.map Row.enc))) := ⟨⟨h.keep.n, fun j hj => (put_ne (Nat.ne_of_lt hj)).trans (h.keep.at_ j hj)⟩, h.n, put_at ..⟩
end
end LB

set_option Elab.async false
set_option linter.all false
set_option autoImplicit false
set_option maxRecDepth 100000
set_option maxHeartbeats 4000000
/-! Pure: a program fitted, block by block. -/
namespace LB
open PySem
noncomputable section
local macro_rules | `(tactic| simp_arith [$as,*]) => `(tactic| simp -implicitDefEqProofs (disch := first | assumption | decide | omega | (simp only [List.length_cons, List.length_nil, Mem.put_n, Mem.new_n, Mem.kill_n]; omega)) only [↓KO_some, ↓K_vr, ↓kVr_0, ↓kVr_s, ↓K_cn, ↓K_pure, ↓K_op2, ↓kOp2a_at, ↓kOp2b_at, ↓K_op1, ↓kOp1_at, ↓K_argN, ↓K_argC, ↓kArg1_at, ↓kArg2_at, ↓K_opN, ↓kOpN_at, ↓K_call, ↓kCall_1, ↓kCall_2, ↓kCall_3, ↓kCall_4, ↓kCall_5, ↓K_tpl, ↓K_lsl, ↓K_lsm, ↓K_dctE, ↓kTpl_0, ↓kTpl_1, ↓kTpl_2, ↓kTpl_3, ↓kTpl_4, ↓kTpl_5, ↓kLsl_0, ↓kLsl_1, ↓kLsl_2, ↓kLsl_3, ↓kLsl_4, ↓kLsm_0, ↓K_tV, ↓kTV_at, ↓K_tAnd, ↓kTAnd_t, ↓kTAnd_f, ↓K_tOr, ↓kTOr_t, ↓kTOr_f, ↓K_tNot, ↓kTNot_t, ↓kTNot_f, ↓kTNot_at, ↓K_tYes, ↓K_vAnd, ↓kVAnd_t, ↓kVAnd_f, ↓K_vOr, ↓kVOr_t, ↓kVOr_f, ↓K_vNot, ↓kVNot_at, ↓K_ifE, ↓kIfE_t, ↓kIfE_f, ↓K_chn, ↓kChn0_at, ↓kChn1_at, ↓kChn2_t, ↓kChn2_f, ↓K_soN, ↓K_soS, ↓kSoS_at, ↓K_slc, ↓kSlc0_at, ↓kSlc1_at, ↓kSlc2_at, ↓KSl_tup, ↓KSl_lst, ↓K_sNext, ↓K_sSeq, ↓kSeq_nx, ↓kSeq_rt, ↓K_sRet, ↓kRet_at, ↓K_sRetN, ↓K_sExp, ↓kExp_at, ↓K_sIf, ↓kIf_t, ↓kIf_f, ↓kSet_0, ↓kSet_s, ↓kUn_c, ↓kUn_n, ↓K_sAsg, ↓kAsg_nm, ↓kAsg_tp, ↓kNms_c, ↓kNmsC_at, ↓kNms_n, ↓K_sPar, ↓kPar1_at, ↓kPar2_at, ↓K_run, ↓kRun_rt, ↓kRun_nx, ↓K2_add_i, ↓K2_sub_i, ↓K2_mul_i, ↓K2_mod_i, ↓K2_fdiv_i, ↓K2_lt_i, ↓K2_le_i, ↓K2_gt_i, ↓K2_ge_i, ↓K2_eq_i, ↓K2_ne_i, ↓K2_eq_st, ↓K2_eq_sf, ↓K2_ne_st, ↓K2_ne_sf, ↓K2_eq_b, ↓K2_add_t, ↓K2_add_l, ↓K1_neg_i, ↓K2_isN_n, ↓K2_isN_i, ↓K2_isN_s, ↓K2_isN_t, ↓K2_isN_l, ↓K2_isN_c, ↓K2_notN_n, ↓K2_notN_i, ↓K2_notN_s, ↓K2_notN_t, ↓K2_notN_l, ↓K2_notN_c, ↓K2_ix_t, ↓K2_ix_l, ↓KIx_0, ↓KIx_1, ↓KIx_2, ↓KIx_3, ↓KIx_4, ↓KIx_m1a, ↓KIx_m1b, ↓KIx_m1c, ↓KIx_m1d, ↓KN_len_t, ↓KN_len_l, ↓KN_max2, ↓KN_min2, ↓KN_int_i, ↓KN_int_t, ↓KN_int_f, ↓KN_tuple_l, ↓KN_tuple_t, ↓KN_maxl, ↓KN_suml, ↓K1_isi_n, ↓K1_isi_b, ↓K1_isi_i, ↓K1_isi_s, ↓K1_isi_t, ↓K1_isi_l, ↓KG_put_eq, ↓KG_put_ne, ↓KG_new_eq, ↓KG_new_ne, ↓KG_kill_ne, ↓K2_ix_c, ↓kIxL_at, ↓KN_len_c, ↓kLenL_l, ↓kLenL_d, ↓KN_tuple_c, ↓kTupL_at, ↓KN_max_c, ↓kMaxL_at, ↓KSl_c, ↓kSlL_at, ↓K_appE, ↓kApp1_at, ↓kApp1b_at, ↓kApp2_at, ↓kApp3_at, ↓K_sLput, ↓kPut1_at, ↓kPut2_at, ↓kPut3_at, ↓kPut4_at, ↓K2_dget_i, ↓K2_dget_s, ↓kDgD_at, ↓KVk_eq, ↓KVk_ne, ↓KVd_eq, ↓KVd_ne, ↓KVd_n, ↓K_dget2, ↓kDg1_at, ↓kDg1b_at, ↓kDg2_at, ↓kDg3_at, ↓kDg4_i, ↓kDg4_s, ↓K_sDput, ↓kDp1_at, ↓kDp2_at, ↓kDp3_i, ↓kDp3_s, ↓kDp4_at, ↓K1_fld, ↓kFldO_at, ↓KFl_eq, ↓KFl_ne, ↓K_sFput, ↓kFp1_at, ↓kFp2_at, ↓kFp3_at, ↓kPf_n, ↓kPf_eq, ↓kPu_c, ↓kPu_n, ↓kPf_ne, ↓K_callM, ↓kMt1_at, ↓kMt2_at, ↓kNo_n, ↓kNo_c, ↓kMt3_0, ↓kMt3_1, ↓kMt3_2, ↓kMt3_3, ↓kMt3_4, ↓K_mkE, ↓kMk_1, ↓kMk_2, ↓kMk_3, ↓kMk2_at, ↓K_sFor, ↓kFor_at, ↓K_itRng1, ↓kRng1_nat, ↓K_itRng2, ↓kRng2_at, ↓K_itSeq, ↓kSeqI_t, ↓kSeqI_l, ↓kSeqI_c, ↓kSeqL_at, ↓K_bodyG_nm, ↓K_bodyG_tp, ↓K_sWhile, ↓kComp_at, ↓K_comp, ↓K_compM, ↓kLst_at, ↓kLstM_at, ↓kEx_at, ↓K_exG_nm, ↓K_exG_tp, ↓kAlc_at, ↓K_opNM, ↓kOpNM_at, ↓KN_list_l2, ↓KN_list_t2, ↓KN_list_c, ↓kListL_at, ↓K_op2M, ↓kOp2Ma_at, ↓kOp2Mb_at, ↓K2_rep1, ↓K_prE_n, ↓K_prE_c, ↓kPr1_at, ↓kPr2_at, ↓kPr3_at, ↓K_dspE, ↓kDsp_s1, ↓kDsp_s2, ↓kDsp_s3, ↓kDsp_s4, ↓K_frz, ↓kFrz_c, ↓kFrz_l, ↓kFrz_t, ↓kFrz_n, ↓kFrzL_at, ↓K_extE, ↓kExt1_at, ↓kExt1b_at, ↓kExt2_at, ↓kExt3_at, ↓K_mt0E, ↓kMt0_at, ↓kMt0L_clear, ↓kMt0L_rev, ↓K2_in_t, ↓K2_in_f, ↓K2_notIn_t, ↓K2_notIn_f, ↓K_itZp, ↓kZp1_at, ↓K_itEn, ↓kEnI_t, ↓kEnI_l, ↓K2_din_i, ↓kDinD_at, ↓KR_put_0, ↓KR_put_1, ↓KR_put_2, ↓KR_put_l, ↓KR_put_into, ↓KR_put_end, ↓KR_put_looked, ↓KR_put_cut, ↓KR_move_0, ↓KR_move_1, ↓KR_move_2, ↓KR_move_l, ↓KR_move_into, ↓KR_move_end, ↓KR_move_looked, ↓KR_move_cut, ↓KR_add_0, ↓KR_add_1, ↓KR_add_2, ↓KR_add_3, ↓KR_add_l, ↓KR_add_into, ↓KR_add_end, ↓KR_add_looked, ↓KR_add_cut, ↓KR_take_0, ↓KR_take_1, ↓KR_take_2, ↓KR_take_3, ↓KR_take_l, ↓KR_take_into, ↓KR_take_end, ↓KR_take_looked, ↓KR_take_cut, ↓KR_times_0, ↓KR_times_1, ↓KR_times_2, ↓KR_times_3, ↓KR_times_l, ↓KR_times_into, ↓KR_times_end, ↓KR_times_looked, ↓KR_times_cut, ↓KR_get_0, ↓KR_get_1, ↓KR_get_2, ↓KR_get_l, ↓KR_get_into, ↓KR_get_end, ↓KR_get_looked, ↓KR_get_cut, ↓KR_set_0, ↓KR_set_1, ↓KR_set_2, ↓KR_set_l, ↓KR_set_into, ↓KR_set_end, ↓KR_set_looked, ↓KR_set_cut, ↓KR_say_0, ↓KR_say_1, ↓KR_say_l, ↓KR_say_into, ↓KR_say_end, ↓KR_say_looked, ↓KR_say_cut, ↓KR_rest_0, ↓KR_rest_l, ↓KR_rest_into, ↓KR_rest_end, ↓KR_rest_looked, ↓KR_rest_cut, ↓KR_go_0, ↓KR_go_1, ↓KR_go_l, ↓KR_go_into, ↓KR_go_end, ↓KR_go_looked, ↓KR_go_cut, ↓KR_ifr_0, ↓KR_ifr_1, ↓KR_ifr_2, ↓KR_ifr_l, ↓KR_ifr_into, ↓KR_ifr_end, ↓KR_ifr_looked, ↓KR_ifr_cut, ↓KR_stop_0, ↓KR_stop_l, ↓KR_stop_into, ↓KR_stop_end, ↓KR_stop_looked, ↓KR_stop_cut, ↓KR_late, ↓KR_far, ↓KR_num, ↓KR_mill_0, ↓KR_mill_1, ↓KR_mill_2, ↓KR_mill_3, ↓KR_pi_len, ↓KA_stop, ↓KA_goes, ↓KA_ends, ↓K_mt1E, ↓kM1_l, ↓kM1_s, ↓kM1b_at, ↓K1_isi_c, ↓kIsiL_at, ↓KN_minl, ↓K2_isB, ↓K2_notB, ↓K1_rev_t, ↓K1_rev_l, ↓K2_nin, ↓K2_nnotin, ↓kNinD_pk, ↓kNnotD_pk, ↓K_nget2, ↓kNg1_at, ↓kNg1b_at, ↓kNg2_at, ↓kNg3_at, ↓kNg4_pk, ↓K_ndctE, ↓K_sNput, ↓kNp1_at, ↓kNp2_at, ↓kNp4_at, ↓K_ndsp1, ↓kNd1_at, ↓KN_nlen_c, ↓kNlenL_at, start0, List.map_cons, List.map_nil, List.length_cons, List.length_nil, List.replicate_succ, List.replicate_zero, Nat.reduceSub, Nat.reduceAdd, wipeE, List.set_cons_zero, List.set_cons_succ, List.cons_append, List.nil_append, $as,*])
local macro_rules | `(tactic| simp_arith [$as,*] at $h:ident) => `(tactic| simp -implicitDefEqProofs (disch := first | assumption | decide | omega | (simp only [List.length_cons, List.length_nil, Mem.put_n, Mem.new_n, Mem.kill_n]; omega)) only [↓KO_some, ↓K_vr, ↓kVr_0, ↓kVr_s, ↓K_cn, ↓K_pure, ↓K_op2, ↓kOp2a_at, ↓kOp2b_at, ↓K_op1, ↓kOp1_at, ↓K_argN, ↓K_argC, ↓kArg1_at, ↓kArg2_at, ↓K_opN, ↓kOpN_at, ↓K_call, ↓kCall_1, ↓kCall_2, ↓kCall_3, ↓kCall_4, ↓kCall_5, ↓K_tpl, ↓K_lsl, ↓K_lsm, ↓K_dctE, ↓kTpl_0, ↓kTpl_1, ↓kTpl_2, ↓kTpl_3, ↓kTpl_4, ↓kTpl_5, ↓kLsl_0, ↓kLsl_1, ↓kLsl_2, ↓kLsl_3, ↓kLsl_4, ↓kLsm_0, ↓K_tV, ↓kTV_at, ↓K_tAnd, ↓kTAnd_t, ↓kTAnd_f, ↓K_tOr, ↓kTOr_t, ↓kTOr_f, ↓K_tNot, ↓kTNot_t, ↓kTNot_f, ↓kTNot_at, ↓K_tYes, ↓K_vAnd, ↓kVAnd_t, ↓kVAnd_f, ↓K_vOr, ↓kVOr_t, ↓kVOr_f, ↓K_vNot, ↓kVNot_at, ↓K_ifE, ↓kIfE_t, ↓kIfE_f, ↓K_chn, ↓kChn0_at, ↓kChn1_at, ↓kChn2_t, ↓kChn2_f, ↓K_soN, ↓K_soS, ↓kSoS_at, ↓K_slc, ↓kSlc0_at, ↓kSlc1_at, ↓kSlc2_at, ↓KSl_tup, ↓KSl_lst, ↓K_sNext, ↓K_sSeq, ↓kSeq_nx, ↓kSeq_rt, ↓K_sRet, ↓kRet_at, ↓K_sRetN, ↓K_sExp, ↓kExp_at, ↓K_sIf, ↓kIf_t, ↓kIf_f, ↓kSet_0, ↓kSet_s, ↓kUn_c, ↓kUn_n, ↓K_sAsg, ↓kAsg_nm, ↓kAsg_tp, ↓kNms_c, ↓kNmsC_at, ↓kNms_n, ↓K_sPar, ↓kPar1_at, ↓kPar2_at, ↓K_run, ↓kRun_rt, ↓kRun_nx, ↓K2_add_i, ↓K2_sub_i, ↓K2_mul_i, ↓K2_mod_i, ↓K2_fdiv_i, ↓K2_lt_i, ↓K2_le_i, ↓K2_gt_i, ↓K2_ge_i, ↓K2_eq_i, ↓K2_ne_i, ↓K2_eq_st, ↓K2_eq_sf, ↓K2_ne_st, ↓K2_ne_sf, ↓K2_eq_b, ↓K2_add_t, ↓K2_add_l, ↓K1_neg_i, ↓K2_isN_n, ↓K2_isN_i, ↓K2_isN_s, ↓K2_isN_t, ↓K2_isN_l, ↓K2_isN_c, ↓K2_notN_n, ↓K2_notN_i, ↓K2_notN_s, ↓K2_notN_t, ↓K2_notN_l, ↓K2_notN_c, ↓K2_ix_t, ↓K2_ix_l, ↓KIx_0, ↓KIx_1, ↓KIx_2, ↓KIx_3, ↓KIx_4, ↓KIx_m1a, ↓KIx_m1b, ↓KIx_m1c, ↓KIx_m1d, ↓KN_len_t, ↓KN_len_l, ↓KN_max2, ↓KN_min2, ↓KN_int_i, ↓KN_int_t, ↓KN_int_f, ↓KN_tuple_l, ↓KN_tuple_t, ↓KN_maxl, ↓KN_suml, ↓K1_isi_n, ↓K1_isi_b, ↓K1_isi_i, ↓K1_isi_s, ↓K1_isi_t, ↓K1_isi_l, ↓KG_put_eq, ↓KG_put_ne, ↓KG_new_eq, ↓KG_new_ne, ↓KG_kill_ne, ↓K2_ix_c, ↓kIxL_at, ↓KN_len_c, ↓kLenL_l, ↓kLenL_d, ↓KN_tuple_c, ↓kTupL_at, ↓KN_max_c, ↓kMaxL_at, ↓KSl_c, ↓kSlL_at, ↓K_appE, ↓kApp1_at, ↓kApp1b_at, ↓kApp2_at, ↓kApp3_at, ↓K_sLput, ↓kPut1_at, ↓kPut2_at, ↓kPut3_at, ↓kPut4_at, ↓K2_dget_i, ↓K2_dget_s, ↓kDgD_at, ↓KVk_eq, ↓KVk_ne, ↓KVd_eq, ↓KVd_ne, ↓KVd_n, ↓K_dget2, ↓kDg1_at, ↓kDg1b_at, ↓kDg2_at, ↓kDg3_at, ↓kDg4_i, ↓kDg4_s, ↓K_sDput, ↓kDp1_at, ↓kDp2_at, ↓kDp3_i, ↓kDp3_s, ↓kDp4_at, ↓K1_fld, ↓kFldO_at, ↓KFl_eq, ↓KFl_ne, ↓K_sFput, ↓kFp1_at, ↓kFp2_at, ↓kFp3_at, ↓kPf_n, ↓kPf_eq, ↓kPu_c, ↓kPu_n, ↓kPf_ne, ↓K_callM, ↓kMt1_at, ↓kMt2_at, ↓kNo_n, ↓kNo_c, ↓kMt3_0, ↓kMt3_1, ↓kMt3_2, ↓kMt3_3, ↓kMt3_4, ↓K_mkE, ↓kMk_1, ↓kMk_2, ↓kMk_3, ↓kMk2_at, ↓K_sFor, ↓kFor_at, ↓K_itRng1, ↓kRng1_nat, ↓K_itRng2, ↓kRng2_at, ↓K_itSeq, ↓kSeqI_t, ↓kSeqI_l, ↓kSeqI_c, ↓kSeqL_at, ↓K_bodyG_nm, ↓K_bodyG_tp, ↓K_sWhile, ↓kComp_at, ↓K_comp, ↓K_compM, ↓kLst_at, ↓kLstM_at, ↓kEx_at, ↓K_exG_nm, ↓K_exG_tp, ↓kAlc_at, ↓K_opNM, ↓kOpNM_at, ↓KN_list_l2, ↓KN_list_t2, ↓KN_list_c, ↓kListL_at, ↓K_op2M, ↓kOp2Ma_at, ↓kOp2Mb_at, ↓K2_rep1, ↓K_prE_n, ↓K_prE_c, ↓kPr1_at, ↓kPr2_at, ↓kPr3_at, ↓K_dspE, ↓kDsp_s1, ↓kDsp_s2, ↓kDsp_s3, ↓kDsp_s4, ↓K_frz, ↓kFrz_c, ↓kFrz_l, ↓kFrz_t, ↓kFrz_n, ↓kFrzL_at, ↓K_extE, ↓kExt1_at, ↓kExt1b_at, ↓kExt2_at, ↓kExt3_at, ↓K_mt0E, ↓kMt0_at, ↓kMt0L_clear, ↓kMt0L_rev, ↓K2_in_t, ↓K2_in_f, ↓K2_notIn_t, ↓K2_notIn_f, ↓K_itZp, ↓kZp1_at, ↓K_itEn, ↓kEnI_t, ↓kEnI_l, ↓K2_din_i, ↓kDinD_at, ↓KR_put_0, ↓KR_put_1, ↓KR_put_2, ↓KR_put_l, ↓KR_put_into, ↓KR_put_end, ↓KR_put_looked, ↓KR_put_cut, ↓KR_move_0, ↓KR_move_1, ↓KR_move_2, ↓KR_move_l, ↓KR_move_into, ↓KR_move_end, ↓KR_move_looked, ↓KR_move_cut, ↓KR_add_0, ↓KR_add_1, ↓KR_add_2, ↓KR_add_3, ↓KR_add_l, ↓KR_add_into, ↓KR_add_end, ↓KR_add_looked, ↓KR_add_cut, ↓KR_take_0, ↓KR_take_1, ↓KR_take_2, ↓KR_take_3, ↓KR_take_l, ↓KR_take_into, ↓KR_take_end, ↓KR_take_looked, ↓KR_take_cut, ↓KR_times_0, ↓KR_times_1, ↓KR_times_2, ↓KR_times_3, ↓KR_times_l, ↓KR_times_into, ↓KR_times_end, ↓KR_times_looked, ↓KR_times_cut, ↓KR_get_0, ↓KR_get_1, ↓KR_get_2, ↓KR_get_l, ↓KR_get_into, ↓KR_get_end, ↓KR_get_looked, ↓KR_get_cut, ↓KR_set_0, ↓KR_set_1, ↓KR_set_2, ↓KR_set_l, ↓KR_set_into, ↓KR_set_end, ↓KR_set_looked, ↓KR_set_cut, ↓KR_say_0, ↓KR_say_1, ↓KR_say_l, ↓KR_say_into, ↓KR_say_end, ↓KR_say_looked, ↓KR_say_cut, ↓KR_rest_0, ↓KR_rest_l, ↓KR_rest_into, ↓KR_rest_end, ↓KR_rest_looked, ↓KR_rest_cut, ↓KR_go_0, ↓KR_go_1, ↓KR_go_l, ↓KR_go_into, ↓KR_go_end, ↓KR_go_looked, ↓KR_go_cut, ↓KR_ifr_0, ↓KR_ifr_1, ↓KR_ifr_2, ↓KR_ifr_l, ↓KR_ifr_into, ↓KR_ifr_end, ↓KR_ifr_looked, ↓KR_ifr_cut, ↓KR_stop_0, ↓KR_stop_l, ↓KR_stop_into, ↓KR_stop_end, ↓KR_stop_looked, ↓KR_stop_cut, ↓KR_late, ↓KR_far, ↓KR_num, ↓KR_mill_0, ↓KR_mill_1, ↓KR_mill_2, ↓KR_mill_3, ↓KR_pi_len, ↓KA_stop, ↓KA_goes, ↓KA_ends, ↓K_mt1E, ↓kM1_l, ↓kM1_s, ↓kM1b_at, ↓K1_isi_c, ↓kIsiL_at, ↓KN_minl, ↓K2_isB, ↓K2_notB, ↓K1_rev_t, ↓K1_rev_l, ↓K2_nin, ↓K2_nnotin, ↓kNinD_pk, ↓kNnotD_pk, ↓K_nget2, ↓kNg1_at, ↓kNg1b_at, ↓kNg2_at, ↓kNg3_at, ↓kNg4_pk, ↓K_ndctE, ↓K_sNput, ↓kNp1_at, ↓kNp2_at, ↓kNp4_at, ↓K_ndsp1, ↓kNd1_at, ↓KN_nlen_c, ↓kNlenL_at, start0, List.map_cons, List.map_nil, List.length_cons, List.length_nil, List.replicate_succ, List.replicate_zero, Nat.reduceSub, Nat.reduceAdd, wipeE, List.set_cons_zero, List.set_cons_succ, List.cons_append, List.nil_append, $as,*] at $h:ident)
def Row.notRest : Row → Bool
  | .rest => false
  | _ => true
def pieceOf (p : List Row) (q : Int × Int) : List Row := ((p.drop q.1.toNat).take (q.2.toNat - q.1.toNat)).filter Row.notRest
abbrev FS := List Row × List (Int × Int)
abbrev Blk := (Int × Int) × List Int
def laidP (t : Mill) (c : List Row) (s : List Int) : List Row := if c = [] then [] else layR c s (beatsP t c s).toNat
def fitStep (p : List Row) (t : Mill) (a : FS) (q : Blk) : FS := (a.1 ++ laidP t (pieceOf p q.1) q.2, a.2 ++ [(q.1.1, (a.1.length : Int))])
def fitA (p : List Row) (t : Mill) (qs : List Blk) : FS := qs.foldl (fitStep p t) ([], [])
theorem fitA_add (p : List Row) (t : Mill) (qs : List Blk) (q : Blk) : fitA p t (qs ++ [q]) = fitStep p t (fitA p t qs) q := by
  unfold fitA
  rw [List.foldl_append]
  rfl
theorem fitA_keys (p : List Row) (t : Mill) (qs : List Blk) : (fitA p t qs).2.map (·.1) = qs.map fun q : Blk => q.1.1 := by
  have key : ∀ (qs : List Blk) (a : FS), (qs.foldl (fitStep p t) a).2.map (·.1) = a.2.map (·.1) ++ qs.map fun q : Blk => q.1.1 := by
    intro qs
    induction qs with
    | nil => exact fun a => (List.append_nil _).symm
    | cons q qs ih =>
      intro a
      rw [List.foldl_cons, ih]
      show (a.2 ++ [(q.1.1, (a.1.length : Int))]).map (·.1) ++ _ = _
      rw [List.map_append, List.append_assoc]
      rfl
  exact key qs _
theorem fold_mem (qs : List (Row × Int)) : ∀ (L : List Row) {r : Row}, r ∈ qs.foldl (fun L q => L.set q.2.toNat q.1) L → r ∈ L ∨ ∃ v, (r, v) ∈ qs := by
  induction qs with
  | nil => exact fun L r h => .inl h
  | cons q qs ih =>
    intro L r h
    rw [List.foldl_cons] at h
    rcases ih _ h with h | ⟨v, h⟩
    · rcases List.mem_or_eq_of_mem_set h with h | h
      · exact .inl h
      · exact .inr ⟨q.2, by rw [h]; exact List.mem_cons_self⟩
    · exact .inr ⟨v, List.mem_cons_of_mem _ h⟩
theorem laidP_mem {t : Mill} {c : List Row} {s : List Int} {r : Row} (h : r ∈ laidP t c s) : r = .rest ∨ r ∈ c := by
  unfold laidP at h
  split at h
  · cases h
  · unfold layR at h
    rcases fold_mem _ _ h with h | ⟨v, h⟩
    · exact .inl (List.mem_replicate.mp h).2
    · exact .inr (List.of_mem_zip h).1
theorem pieceOf_mem {p : List Row} {q : Int × Int} {r : Row} (h : r ∈ pieceOf p q) : r ∈ p := List.mem_of_mem_drop (List.mem_of_mem_take (List.mem_filter.mp h).1)
theorem fitA_mem {p : List Row} {t : Mill} (qs : List Blk) {r : Row} (h : r ∈ (fitA p t qs).1) : r = .rest ∨ r ∈ p := by
  have key : ∀ (qs : List Blk) (a : FS), (∀ r, r ∈ a.1 → r = .rest ∨ r ∈ p) → ∀ r, r ∈ (qs.foldl (fitStep p t) a).1 → r = .rest ∨ r ∈ p := by
    intro qs
    induction qs with
    | nil => exact fun a h => h
    | cons q qs ih =>
      intro a h
      rw [List.foldl_cons]
      refine ih _ fun r hr => ?_
      rcases List.mem_append.mp hr with hr | hr
      · exact h r hr
      · exact (laidP_mem hr).imp id pieceOf_mem
  exact key qs _ (fun r h => by cases h) r h
/-! where the blocks begin now -/
def begK (bs : List (Int × Int)) : List (KeyS × D) := bs.map fun q => (Sum.inl q.1, D.int q.2)
def gmB : List (Int × Int) → Int → Int
  | [], _ => 0
  | q :: r, i => if q.1 = i then q.2 else gmB r i
/-! the goals told anew -/
def turnR (bs : List (Int × Int)) : Row → Row
  | .go g => .go (gmB bs g)
  | .ifr b g => .ifr b (gmB bs g)
  | r => r
def goalsA (a : FS) : List Int := (a.1.filter Row.goes).map fun r => gmB a.2 r.goal
def fitRows (a : FS) : List Row := if a.1 = [] ∨ (a.1.length : Int) ∈ goalsA a then a.1 ++ [.rest] else a.1
def fitEnd (a : FS) : List Row := (fitRows a).map (turnR a.2)
end
end LB

set_option Elab.async false
set_option linter.all false
set_option autoImplicit false
set_option maxRecDepth 100000
set_option maxHeartbeats 4000000
/-! Pure: the Fitter. -/
namespace LB
open PySem
noncomputable section
local macro_rules | `(tactic| simp_arith [$as,*]) => `(tactic| simp -implicitDefEqProofs (disch := first | assumption | decide | omega | (simp only [List.length_cons, List.length_nil, Mem.put_n, Mem.new_n, Mem.kill_n]; omega)) only [↓KO_some, ↓K_vr, ↓kVr_0, ↓kVr_s, ↓K_cn, ↓K_pure, ↓K_op2, ↓kOp2a_at, ↓kOp2b_at, ↓K_op1, ↓kOp1_at, ↓K_argN, ↓K_argC, ↓kArg1_at, ↓kArg2_at, ↓K_opN, ↓kOpN_at, ↓K_call, ↓kCall_1, ↓kCall_2, ↓kCall_3, ↓kCall_4, ↓kCall_5, ↓K_tpl, ↓K_lsl, ↓K_lsm, ↓K_dctE, ↓kTpl_0, ↓kTpl_1, ↓kTpl_2, ↓kTpl_3, ↓kTpl_4, ↓kTpl_5, ↓kLsl_0, ↓kLsl_1, ↓kLsl_2, ↓kLsl_3, ↓kLsl_4, ↓kLsm_0, ↓K_tV, ↓kTV_at, ↓K_tAnd, ↓kTAnd_t, ↓kTAnd_f, ↓K_tOr, ↓kTOr_t, ↓kTOr_f, ↓K_tNot, ↓kTNot_t, ↓kTNot_f, ↓kTNot_at, ↓K_tYes, ↓K_vAnd, ↓kVAnd_t, ↓kVAnd_f, ↓K_vOr, ↓kVOr_t, ↓kVOr_f, ↓K_vNot, ↓kVNot_at, ↓K_ifE, ↓kIfE_t, ↓kIfE_f, ↓K_chn, ↓kChn0_at, ↓kChn1_at, ↓kChn2_t, ↓kChn2_f, ↓K_soN, ↓K_soS, ↓kSoS_at, ↓K_slc, ↓kSlc0_at, ↓kSlc1_at, ↓kSlc2_at, ↓KSl_tup, ↓KSl_lst, ↓K_sNext, ↓K_sSeq, ↓kSeq_nx, ↓kSeq_rt, ↓K_sRet, ↓kRet_at, ↓K_sRetN, ↓K_sExp, ↓kExp_at, ↓K_sIf, ↓kIf_t, ↓kIf_f, ↓kSet_0, ↓kSet_s, ↓kUn_c, ↓kUn_n, ↓K_sAsg, ↓kAsg_nm, ↓kAsg_tp, ↓kNms_c, ↓kNmsC_at, ↓kNms_n, ↓K_sPar, ↓kPar1_at, ↓kPar2_at, ↓K_run, ↓kRun_rt, ↓kRun_nx, ↓K2_add_i, ↓K2_sub_i, ↓K2_mul_i, ↓K2_mod_i, ↓K2_fdiv_i, ↓K2_lt_i, ↓K2_le_i, ↓K2_gt_i, ↓K2_ge_i, ↓K2_eq_i, ↓K2_ne_i, ↓K2_eq_st, ↓K2_eq_sf, ↓K2_ne_st, ↓K2_ne_sf, ↓K2_eq_b, ↓K2_add_t, ↓K2_add_l, ↓K1_neg_i, ↓K2_isN_n, ↓K2_isN_i, ↓K2_isN_s, ↓K2_isN_t, ↓K2_isN_l, ↓K2_isN_c, ↓K2_notN_n, ↓K2_notN_i, ↓K2_notN_s, ↓K2_notN_t, ↓K2_notN_l, ↓K2_notN_c, ↓K2_ix_t, ↓K2_ix_l, ↓KIx_0, ↓KIx_1, ↓KIx_2, ↓KIx_3, ↓KIx_4, ↓KIx_m1a, ↓KIx_m1b, ↓KIx_m1c, ↓KIx_m1d, ↓KN_len_t, ↓KN_len_l, ↓KN_max2, ↓KN_min2, ↓KN_int_i, ↓KN_int_t, ↓KN_int_f, ↓KN_tuple_l, ↓KN_tuple_t, ↓KN_maxl, ↓KN_suml, ↓K1_isi_n, ↓K1_isi_b, ↓K1_isi_i, ↓K1_isi_s, ↓K1_isi_t, ↓K1_isi_l, ↓KG_put_eq, ↓KG_put_ne, ↓KG_new_eq, ↓KG_new_ne, ↓KG_kill_ne, ↓K2_ix_c, ↓kIxL_at, ↓KN_len_c, ↓kLenL_l, ↓kLenL_d, ↓KN_tuple_c, ↓kTupL_at, ↓KN_max_c, ↓kMaxL_at, ↓KSl_c, ↓kSlL_at, ↓K_appE, ↓kApp1_at, ↓kApp1b_at, ↓kApp2_at, ↓kApp3_at, ↓K_sLput, ↓kPut1_at, ↓kPut2_at, ↓kPut3_at, ↓kPut4_at, ↓K2_dget_i, ↓K2_dget_s, ↓kDgD_at, ↓KVk_eq, ↓KVk_ne, ↓KVd_eq, ↓KVd_ne, ↓KVd_n, ↓K_dget2, ↓kDg1_at, ↓kDg1b_at, ↓kDg2_at, ↓kDg3_at, ↓kDg4_i, ↓kDg4_s, ↓K_sDput, ↓kDp1_at, ↓kDp2_at, ↓kDp3_i, ↓kDp3_s, ↓kDp4_at, ↓K1_fld, ↓kFldO_at, ↓KFl_eq, ↓KFl_ne, ↓K_sFput, ↓kFp1_at, ↓kFp2_at, ↓kFp3_at, ↓kPf_n, ↓kPf_eq, ↓kPu_c, ↓kPu_n, ↓kPf_ne, ↓K_callM, ↓kMt1_at, ↓kMt2_at, ↓kNo_n, ↓kNo_c, ↓kMt3_0, ↓kMt3_1, ↓kMt3_2, ↓kMt3_3, ↓kMt3_4, ↓K_mkE, ↓kMk_1, ↓kMk_2, ↓kMk_3, ↓kMk2_at, ↓K_sFor, ↓kFor_at, ↓K_itRng1, ↓kRng1_nat, ↓K_itRng2, ↓kRng2_at, ↓K_itSeq, ↓kSeqI_t, ↓kSeqI_l, ↓kSeqI_c, ↓kSeqL_at, ↓K_bodyG_nm, ↓K_bodyG_tp, ↓K_sWhile, ↓kComp_at, ↓K_comp, ↓K_compM, ↓kLst_at, ↓kLstM_at, ↓kEx_at, ↓K_exG_nm, ↓K_exG_tp, ↓kAlc_at, ↓K_opNM, ↓kOpNM_at, ↓KN_list_l2, ↓KN_list_t2, ↓KN_list_c, ↓kListL_at, ↓K_op2M, ↓kOp2Ma_at, ↓kOp2Mb_at, ↓K2_rep1, ↓K_prE_n, ↓K_prE_c, ↓kPr1_at, ↓kPr2_at, ↓kPr3_at, ↓K_dspE, ↓kDsp_s1, ↓kDsp_s2, ↓kDsp_s3, ↓kDsp_s4, ↓K_frz, ↓kFrz_c, ↓kFrz_l, ↓kFrz_t, ↓kFrz_n, ↓kFrzL_at, ↓K_extE, ↓kExt1_at, ↓kExt1b_at, ↓kExt2_at, ↓kExt3_at, ↓K_mt0E, ↓kMt0_at, ↓kMt0L_clear, ↓kMt0L_rev, ↓K2_in_t, ↓K2_in_f, ↓K2_notIn_t, ↓K2_notIn_f, ↓K_itZp, ↓kZp1_at, ↓K_itEn, ↓kEnI_t, ↓kEnI_l, ↓K2_din_i, ↓kDinD_at, ↓KR_put_0, ↓KR_put_1, ↓KR_put_2, ↓KR_put_l, ↓KR_put_into, ↓KR_put_end, ↓KR_put_looked, ↓KR_put_cut, ↓KR_move_0, ↓KR_move_1, ↓KR_move_2, ↓KR_move_l, ↓KR_move_into, ↓KR_move_end, ↓KR_move_looked, ↓KR_move_cut, ↓KR_add_0, ↓KR_add_1, ↓KR_add_2, ↓KR_add_3, ↓KR_add_l, ↓KR_add_into, ↓KR_add_end, ↓KR_add_looked, ↓KR_add_cut, ↓KR_take_0, ↓KR_take_1, ↓KR_take_2, ↓KR_take_3, ↓KR_take_l, ↓KR_take_into, ↓KR_take_end, ↓KR_take_looked, ↓KR_take_cut, ↓KR_times_0, ↓KR_times_1, ↓KR_times_2, ↓KR_times_3, ↓KR_times_l, ↓KR_times_into, ↓KR_times_end, ↓KR_times_looked, ↓KR_times_cut, ↓KR_get_0, ↓KR_get_1, ↓KR_get_2, ↓KR_get_l, ↓KR_get_into, ↓KR_get_end, ↓KR_get_looked, ↓KR_get_cut, ↓KR_set_0, ↓KR_set_1, ↓KR_set_2, ↓KR_set_l, ↓KR_set_into, ↓KR_set_end, ↓KR_set_looked, ↓KR_set_cut, ↓KR_say_0, ↓KR_say_1, ↓KR_say_l, ↓KR_say_into, ↓KR_say_end, ↓KR_say_looked, ↓KR_say_cut, ↓KR_rest_0, ↓KR_rest_l, ↓KR_rest_into, ↓KR_rest_end, ↓KR_rest_looked, ↓KR_rest_cut, ↓KR_go_0, ↓KR_go_1, ↓KR_go_l, ↓KR_go_into, ↓KR_go_end, ↓KR_go_looked, ↓KR_go_cut, ↓KR_ifr_0, ↓KR_ifr_1, ↓KR_ifr_2, ↓KR_ifr_l, ↓KR_ifr_into, ↓KR_ifr_end, ↓KR_ifr_looked, ↓KR_ifr_cut, ↓KR_stop_0, ↓KR_stop_l, ↓KR_stop_into, ↓KR_stop_end, ↓KR_stop_looked, ↓KR_stop_cut, ↓KR_late, ↓KR_far, ↓KR_num, ↓KR_mill_0, ↓KR_mill_1, ↓KR_mill_2, ↓KR_mill_3, ↓KR_pi_len, ↓KA_stop, ↓KA_goes, ↓KA_ends, ↓K_mt1E, ↓kM1_l, ↓kM1_s, ↓kM1b_at, ↓K1_isi_c, ↓kIsiL_at, ↓KN_minl, ↓K2_isB, ↓K2_notB, ↓K1_rev_t, ↓K1_rev_l, ↓K2_nin, ↓K2_nnotin, ↓kNinD_pk, ↓kNnotD_pk, ↓K_nget2, ↓kNg1_at, ↓kNg1b_at, ↓kNg2_at, ↓kNg3_at, ↓kNg4_pk, ↓K_ndctE, ↓K_sNput, ↓kNp1_at, ↓kNp2_at, ↓kNp4_at, ↓K_ndsp1, ↓kNd1_at, ↓KN_nlen_c, ↓kNlenL_at, start0, List.map_cons, List.map_nil, List.length_cons, List.length_nil, List.replicate_succ, List.replicate_zero, Nat.reduceSub, Nat.reduceAdd, wipeE, List.set_cons_zero, List.set_cons_succ, List.cons_append, List.nil_append, $as,*])
local macro_rules | `(tactic| simp_arith [$as,*] at $h:ident) => `(tactic| simp -implicitDefEqProofs (disch := first | assumption | decide | omega | (simp only [List.length_cons, List.length_nil, Mem.put_n, Mem.new_n, Mem.kill_n]; omega)) only [↓KO_some, ↓K_vr, ↓kVr_0, ↓kVr_s, ↓K_cn, ↓K_pure, ↓K_op2, ↓kOp2a_at, ↓kOp2b_at, ↓K_op1, ↓kOp1_at, ↓K_argN, ↓K_argC, ↓kArg1_at, ↓kArg2_at, ↓K_opN, ↓kOpN_at, ↓K_call, ↓kCall_1, ↓kCall_2, ↓kCall_3, ↓kCall_4, ↓kCall_5, ↓K_tpl, ↓K_lsl, ↓K_lsm, ↓K_dctE, ↓kTpl_0, ↓kTpl_1, ↓kTpl_2, ↓kTpl_3, ↓kTpl_4, ↓kTpl_5, ↓kLsl_0, ↓kLsl_1, ↓kLsl_2, ↓kLsl_3, ↓kLsl_4, ↓kLsm_0, ↓K_tV, ↓kTV_at, ↓K_tAnd, ↓kTAnd_t, ↓kTAnd_f, ↓K_tOr, ↓kTOr_t, ↓kTOr_f, ↓K_tNot, ↓kTNot_t, ↓kTNot_f, ↓kTNot_at, ↓K_tYes, ↓K_vAnd, ↓kVAnd_t, ↓kVAnd_f, ↓K_vOr, ↓kVOr_t, ↓kVOr_f, ↓K_vNot, ↓kVNot_at, ↓K_ifE, ↓kIfE_t, ↓kIfE_f, ↓K_chn, ↓kChn0_at, ↓kChn1_at, ↓kChn2_t, ↓kChn2_f, ↓K_soN, ↓K_soS, ↓kSoS_at, ↓K_slc, ↓kSlc0_at, ↓kSlc1_at, ↓kSlc2_at, ↓KSl_tup, ↓KSl_lst, ↓K_sNext, ↓K_sSeq, ↓kSeq_nx, ↓kSeq_rt, ↓K_sRet, ↓kRet_at, ↓K_sRetN, ↓K_sExp, ↓kExp_at, ↓K_sIf, ↓kIf_t, ↓kIf_f, ↓kSet_0, ↓kSet_s, ↓kUn_c, ↓kUn_n, ↓K_sAsg, ↓kAsg_nm, ↓kAsg_tp, ↓kNms_c, ↓kNmsC_at, ↓kNms_n, ↓K_sPar, ↓kPar1_at, ↓kPar2_at, ↓K_run, ↓kRun_rt, ↓kRun_nx, ↓K2_add_i, ↓K2_sub_i, ↓K2_mul_i, ↓K2_mod_i, ↓K2_fdiv_i, ↓K2_lt_i, ↓K2_le_i, ↓K2_gt_i, ↓K2_ge_i, ↓K2_eq_i, ↓K2_ne_i, ↓K2_eq_st, ↓K2_eq_sf, ↓K2_ne_st, ↓K2_ne_sf, ↓K2_eq_b, ↓K2_add_t, ↓K2_add_l, ↓K1_neg_i, ↓K2_isN_n, ↓K2_isN_i, ↓K2_isN_s, ↓K2_isN_t, ↓K2_isN_l, ↓K2_isN_c, ↓K2_notN_n, ↓K2_notN_i, ↓K2_notN_s, ↓K2_notN_t, ↓K2_notN_l, ↓K2_notN_c, ↓K2_ix_t, ↓K2_ix_l, ↓KIx_0, ↓KIx_1, ↓KIx_2, ↓KIx_3, ↓KIx_4, ↓KIx_m1a, ↓KIx_m1b, ↓KIx_m1c, ↓KIx_m1d, ↓KN_len_t, ↓KN_len_l, ↓KN_max2, ↓KN_min2, ↓KN_int_i, ↓KN_int_t, ↓KN_int_f, ↓KN_tuple_l, ↓KN_tuple_t, ↓KN_maxl, ↓KN_suml, ↓K1_isi_n, ↓K1_isi_b, ↓K1_isi_i, ↓K1_isi_s, ↓K1_isi_t, ↓K1_isi_l, ↓KG_put_eq, ↓KG_put_ne, ↓KG_new_eq, ↓KG_new_ne, ↓KG_kill_ne, ↓K2_ix_c, ↓kIxL_at, ↓KN_len_c, ↓kLenL_l, ↓kLenL_d, ↓KN_tuple_c, ↓kTupL_at, ↓KN_max_c, ↓kMaxL_at, ↓KSl_c, ↓kSlL_at, ↓K_appE, ↓kApp1_at, ↓kApp1b_at, ↓kApp2_at, ↓kApp3_at, ↓K_sLput, ↓kPut1_at, ↓kPut2_at, ↓kPut3_at, ↓kPut4_at, ↓K2_dget_i, ↓K2_dget_s, ↓kDgD_at, ↓KVk_eq, ↓KVk_ne, ↓KVd_eq, ↓KVd_ne, ↓KVd_n, ↓K_dget2, ↓kDg1_at, ↓kDg1b_at, ↓kDg2_at, ↓kDg3_at, ↓kDg4_i, ↓kDg4_s, ↓K_sDput, ↓kDp1_at, ↓kDp2_at, ↓kDp3_i, ↓kDp3_s, ↓kDp4_at, ↓K1_fld, ↓kFldO_at, ↓KFl_eq, ↓KFl_ne, ↓K_sFput, ↓kFp1_at, ↓kFp2_at, ↓kFp3_at, ↓kPf_n, ↓kPf_eq, ↓kPu_c, ↓kPu_n, ↓kPf_ne, ↓K_callM, ↓kMt1_at, ↓kMt2_at, ↓kNo_n, ↓kNo_c, ↓kMt3_0, ↓kMt3_1, ↓kMt3_2, ↓kMt3_3, ↓kMt3_4, ↓K_mkE, ↓kMk_1, ↓kMk_2, ↓kMk_3, ↓kMk2_at, ↓K_sFor, ↓kFor_at, ↓K_itRng1, ↓kRng1_nat, ↓K_itRng2, ↓kRng2_at, ↓K_itSeq, ↓kSeqI_t, ↓kSeqI_l, ↓kSeqI_c, ↓kSeqL_at, ↓K_bodyG_nm, ↓K_bodyG_tp, ↓K_sWhile, ↓kComp_at, ↓K_comp, ↓K_compM, ↓kLst_at, ↓kLstM_at, ↓kEx_at, ↓K_exG_nm, ↓K_exG_tp, ↓kAlc_at, ↓K_opNM, ↓kOpNM_at, ↓KN_list_l2, ↓KN_list_t2, ↓KN_list_c, ↓kListL_at, ↓K_op2M, ↓kOp2Ma_at, ↓kOp2Mb_at, ↓K2_rep1, ↓K_prE_n, ↓K_prE_c, ↓kPr1_at, ↓kPr2_at, ↓kPr3_at, ↓K_dspE, ↓kDsp_s1, ↓kDsp_s2, ↓kDsp_s3, ↓kDsp_s4, ↓K_frz, ↓kFrz_c, ↓kFrz_l, ↓kFrz_t, ↓kFrz_n, ↓kFrzL_at, ↓K_extE, ↓kExt1_at, ↓kExt1b_at, ↓kExt2_at, ↓kExt3_at, ↓K_mt0E, ↓kMt0_at, ↓kMt0L_clear, ↓kMt0L_rev, ↓K2_in_t, ↓K2_in_f, ↓K2_notIn_t, ↓K2_notIn_f, ↓K_itZp, ↓kZp1_at, ↓K_itEn, ↓kEnI_t, ↓kEnI_l, ↓K2_din_i, ↓kDinD_at, ↓KR_put_0, ↓KR_put_1, ↓KR_put_2, ↓KR_put_l, ↓KR_put_into, ↓KR_put_end, ↓KR_put_looked, ↓KR_put_cut, ↓KR_move_0, ↓KR_move_1, ↓KR_move_2, ↓KR_move_l, ↓KR_move_into, ↓KR_move_end, ↓KR_move_looked, ↓KR_move_cut, ↓KR_add_0, ↓KR_add_1, ↓KR_add_2, ↓KR_add_3, ↓KR_add_l, ↓KR_add_into, ↓KR_add_end, ↓KR_add_looked, ↓KR_add_cut, ↓KR_take_0, ↓KR_take_1, ↓KR_take_2, ↓KR_take_3, ↓KR_take_l, ↓KR_take_into, ↓KR_take_end, ↓KR_take_looked, ↓KR_take_cut, ↓KR_times_0, ↓KR_times_1, ↓KR_times_2, ↓KR_times_3, ↓KR_times_l, ↓KR_times_into, ↓KR_times_end, ↓KR_times_looked, ↓KR_times_cut, ↓KR_get_0, ↓KR_get_1, ↓KR_get_2, ↓KR_get_l, ↓KR_get_into, ↓KR_get_end, ↓KR_get_looked, ↓KR_get_cut, ↓KR_set_0, ↓KR_set_1, ↓KR_set_2, ↓KR_set_l, ↓KR_set_into, ↓KR_set_end, ↓KR_set_looked, ↓KR_set_cut, ↓KR_say_0, ↓KR_say_1, ↓KR_say_l, ↓KR_say_into, ↓KR_say_end, ↓KR_say_looked, ↓KR_say_cut, ↓KR_rest_0, ↓KR_rest_l, ↓KR_rest_into, ↓KR_rest_end, ↓KR_rest_looked, ↓KR_rest_cut, ↓KR_go_0, ↓KR_go_1, ↓KR_go_l, ↓KR_go_into, ↓KR_go_end, ↓KR_go_looked, ↓KR_go_cut, ↓KR_ifr_0, ↓KR_ifr_1, ↓KR_ifr_2, ↓KR_ifr_l, ↓KR_ifr_into, ↓KR_ifr_end, ↓KR_ifr_looked, ↓KR_ifr_cut, ↓KR_stop_0, ↓KR_stop_l, ↓KR_stop_into, ↓KR_stop_end, ↓KR_stop_looked, ↓KR_stop_cut, ↓KR_late, ↓KR_far, ↓KR_num, ↓KR_mill_0, ↓KR_mill_1, ↓KR_mill_2, ↓KR_mill_3, ↓KR_pi_len, ↓KA_stop, ↓KA_goes, ↓KA_ends, ↓K_mt1E, ↓kM1_l, ↓kM1_s, ↓kM1b_at, ↓K1_isi_c, ↓kIsiL_at, ↓KN_minl, ↓K2_isB, ↓K2_notB, ↓K1_rev_t, ↓K1_rev_l, ↓K2_nin, ↓K2_nnotin, ↓kNinD_pk, ↓kNnotD_pk, ↓K_nget2, ↓kNg1_at, ↓kNg1b_at, ↓kNg2_at, ↓kNg3_at, ↓kNg4_pk, ↓K_ndctE, ↓K_sNput, ↓kNp1_at, ↓kNp2_at, ↓kNp4_at, ↓K_ndsp1, ↓kNd1_at, ↓KN_nlen_c, ↓kNlenL_at, start0, List.map_cons, List.map_nil, List.length_cons, List.length_nil, List.replicate_succ, List.replicate_zero, Nat.reduceSub, Nat.reduceAdd, wipeE, List.set_cons_zero, List.set_cons_succ, List.cons_append, List.nil_append, $as,*] at $h:ident)
def blkI (L : List Int) (n : Nat) : List (Int × Int) := L.zip (L.drop 1 ++ [(n : Int)])
theorem blkI_keys (L : List Int) (n : Nat) : (blkI L n).map (·.1) = L := by
  unfold blkI
  refine List.map_fst_zip ?_
  rw [List.length_append, List.length_drop, List.length_singleton]
  omega
theorem begs_nn {p : List Row} {L : List Int} (hp : ProgOk p) (h : Begs p L) {x : Int} (hx : x ∈ L) : 0 ≤ x ∧ x < p.length := by
  obtain ⟨h1, h2⟩ := (h.mem x).mp hx
  refine ⟨?_, h2⟩
  rcases h1 with rfl | ⟨j, r, _, hj, ⟨hg, rfl⟩ | ⟨_, rfl⟩⟩
  · exact Int.le_refl _
  · have ho := hp.rows r (List.mem_of_getElem? hj)
    cases r <;> first
      | (cases hg; done)
      | skip
    · simp [Row.okB, Row.parts, Row.sorts, most] at ho
      simp only [Row.goal]
      omega
    · simp [Row.okB, Row.parts, Row.sorts, most] at ho
      simp only [Row.goal]
      omega
  · omega
theorem blkI_in {p : List Row} {L : List Int} (hp : ProgOk p) (h : Begs p L) {q : Int × Int} (hq : q ∈ blkI L p.length) : q.1 ∈ L ∧ 0 ≤ q.1 ∧ 0 ≤ q.2 ∧ q.2 ≤ p.length := by
  obtain ⟨h1, h2⟩ := List.of_mem_zip hq
  have z := begs_nn hp h h1
  refine ⟨h1, z.1, ?_⟩
  rcases List.mem_append.mp h2 with h2 | h2
  · have z := begs_nn hp h (List.mem_of_mem_drop h2)
    omega
  · rw [List.mem_singleton.mp h2]
    omega
/-- the Fitter's parts -/
def ftF (p : List Row) (t : Mill) (n : Nat) : List (Str × D) := [("program", encP p), ("mill", t.enc), ("rows", .loc (n + 1)), ("begins", .loc (n + 2))]
structure FtR (m : Mem) (p : List Row) (t : Mill) (a : FS) (m2 : Mem) : Prop where
  keep : ∀ j, j < m.n → m2.get j = m.get j
  n : m.n + 2 < m2.n
  go : m2.get m.n = some (.obj 3 (ftF p t m.n))
  gr : m2.get (m.n + 1) = some (.lst (a.1.map Row.enc))
  gb : m2.get (m.n + 2) = some (.dct (begK a.2))
theorem FtR.more {m m2 m3 : Mem} {p : List Row} {t : Mill} {a : FS} (h : FtR m p t a m2) (k : Keep m2 m3) : FtR m p t a m3 :=
  have := h.n
  ⟨fun j hj => (k.at_ j (by omega)).trans (h.keep j hj), Nat.lt_of_lt_of_le h.n k.n, (k.at_ _ (by omega)).trans h.go, (k.at_ _ (by omega)).trans h.gr, (k.at_ _ h.n).trans h.gb⟩
structure FitI (p : List Row) (t : Mill) (W : List Row → List Int → Prop) (L : List Int) (i : Nat) (qs : List Blk) : Prop where
  fst : qs.map (·.1) = (blkI L p.length).take i
  way : ∀ q, q ∈ qs → pieceOf p q.1 ≠ [] → W (pieceOf p q.1) q.2
section
variable {m : Mem} {p : List Row} {t : Mill} {W : List Row → List Int → Prop} {F : Fn} {fv : FV} {jr : Nat}
end
end
end LB

set_option Elab.async false
set_option linter.all false
set_option autoImplicit false
set_option maxRecDepth 100000
set_option maxHeartbeats 4000000
/-! Pure: the Fitter's end. -/
namespace LB
open PySem
noncomputable section
local macro_rules | `(tactic| simp_arith [$as,*]) => `(tactic| simp -implicitDefEqProofs (disch := first | assumption | decide | omega | (simp only [List.length_cons, List.length_nil, Mem.put_n, Mem.new_n, Mem.kill_n]; omega)) only [↓KO_some, ↓K_vr, ↓kVr_0, ↓kVr_s, ↓K_cn, ↓K_pure, ↓K_op2, ↓kOp2a_at, ↓kOp2b_at, ↓K_op1, ↓kOp1_at, ↓K_argN, ↓K_argC, ↓kArg1_at, ↓kArg2_at, ↓K_opN, ↓kOpN_at, ↓K_call, ↓kCall_1, ↓kCall_2, ↓kCall_3, ↓kCall_4, ↓kCall_5, ↓K_tpl, ↓K_lsl, ↓K_lsm, ↓K_dctE, ↓kTpl_0, ↓kTpl_1, ↓kTpl_2, ↓kTpl_3, ↓kTpl_4, ↓kTpl_5, ↓kLsl_0, ↓kLsl_1, ↓kLsl_2, ↓kLsl_3, ↓kLsl_4, ↓kLsm_0, ↓K_tV, ↓kTV_at, ↓K_tAnd, ↓kTAnd_t, ↓kTAnd_f, ↓K_tOr, ↓kTOr_t, ↓kTOr_f, ↓K_tNot, ↓kTNot_t, ↓kTNot_f, ↓kTNot_at, ↓K_tYes, ↓K_vAnd, ↓kVAnd_t, ↓kVAnd_f, ↓K_vOr, ↓kVOr_t, ↓kVOr_f, ↓K_vNot, ↓kVNot_at, ↓K_ifE, ↓kIfE_t, ↓kIfE_f, ↓K_chn, ↓kChn0_at, ↓kChn1_at, ↓kChn2_t, ↓kChn2_f, ↓K_soN, ↓K_soS, ↓kSoS_at, ↓K_slc, ↓kSlc0_at, ↓kSlc1_at, ↓kSlc2_at, ↓KSl_tup, ↓KSl_lst, ↓K_sNext, ↓K_sSeq, ↓kSeq_nx, ↓kSeq_rt, ↓K_sRet, ↓kRet_at, ↓K_sRetN, ↓K_sExp, ↓kExp_at, ↓K_sIf, ↓kIf_t, ↓kIf_f, ↓kSet_0, ↓kSet_s, ↓kUn_c, ↓kUn_n, ↓K_sAsg, ↓kAsg_nm, ↓kAsg_tp, ↓kNms_c, ↓kNmsC_at, ↓kNms_n, ↓K_sPar, ↓kPar1_at, ↓kPar2_at, ↓K_run, ↓kRun_rt, ↓kRun_nx, ↓K2_add_i, ↓K2_sub_i, ↓K2_mul_i, ↓K2_mod_i, ↓K2_fdiv_i, ↓K2_lt_i, ↓K2_le_i, ↓K2_gt_i, ↓K2_ge_i, ↓K2_eq_i, ↓K2_ne_i, ↓K2_eq_st, ↓K2_eq_sf, ↓K2_ne_st, ↓K2_ne_sf, ↓K2_eq_b, ↓K2_add_t, ↓K2_add_l, ↓K1_neg_i, ↓K2_isN_n, ↓K2_isN_i, ↓K2_isN_s, ↓K2_isN_t, ↓K2_isN_l, ↓K2_isN_c, ↓K2_notN_n, ↓K2_notN_i, ↓K2_notN_s, ↓K2_notN_t, ↓K2_notN_l, ↓K2_notN_c, ↓K2_ix_t, ↓K2_ix_l, ↓KIx_0, ↓KIx_1, ↓KIx_2, ↓KIx_3, ↓KIx_4, ↓KIx_m1a, ↓KIx_m1b, ↓KIx_m1c, ↓KIx_m1d, ↓KN_len_t, ↓KN_len_l, ↓KN_max2, ↓KN_min2, ↓KN_int_i, ↓KN_int_t, ↓KN_int_f, ↓KN_tuple_l, ↓KN_tuple_t, ↓KN_maxl, ↓KN_suml, ↓K1_isi_n, ↓K1_isi_b, ↓K1_isi_i, ↓K1_isi_s, ↓K1_isi_t, ↓K1_isi_l, ↓KG_put_eq, ↓KG_put_ne, ↓KG_new_eq, ↓KG_new_ne, ↓KG_kill_ne, ↓K2_ix_c, ↓kIxL_at, ↓KN_len_c, ↓kLenL_l, ↓kLenL_d, ↓KN_tuple_c, ↓kTupL_at, ↓KN_max_c, ↓kMaxL_at, ↓KSl_c, ↓kSlL_at, ↓K_appE, ↓kApp1_at, ↓kApp1b_at, ↓kApp2_at, ↓kApp3_at, ↓K_sLput, ↓kPut1_at, ↓kPut2_at, ↓kPut3_at, ↓kPut4_at, ↓K2_dget_i, ↓K2_dget_s, ↓kDgD_at, ↓KVk_eq, ↓KVk_ne, ↓KVd_eq, ↓KVd_ne, ↓KVd_n, ↓K_dget2, ↓kDg1_at, ↓kDg1b_at, ↓kDg2_at, ↓kDg3_at, ↓kDg4_i, ↓kDg4_s, ↓K_sDput, ↓kDp1_at, ↓kDp2_at, ↓kDp3_i, ↓kDp3_s, ↓kDp4_at, ↓K1_fld, ↓kFldO_at, ↓KFl_eq, ↓KFl_ne, ↓K_sFput, ↓kFp1_at, ↓kFp2_at, ↓kFp3_at, ↓kPf_n, ↓kPf_eq, ↓kPu_c, ↓kPu_n, ↓kPf_ne, ↓K_callM, ↓kMt1_at, ↓kMt2_at, ↓kNo_n, ↓kNo_c, ↓kMt3_0, ↓kMt3_1, ↓kMt3_2, ↓kMt3_3, ↓kMt3_4, ↓K_mkE, ↓kMk_1, ↓kMk_2, ↓kMk_3, ↓kMk2_at, ↓K_sFor, ↓kFor_at, ↓K_itRng1, ↓kRng1_nat, ↓K_itRng2, ↓kRng2_at, ↓K_itSeq, ↓kSeqI_t, ↓kSeqI_l, ↓kSeqI_c, ↓kSeqL_at, ↓K_bodyG_nm, ↓K_bodyG_tp, ↓K_sWhile, ↓kComp_at, ↓K_comp, ↓K_compM, ↓kLst_at, ↓kLstM_at, ↓kEx_at, ↓K_exG_nm, ↓K_exG_tp, ↓kAlc_at, ↓K_opNM, ↓kOpNM_at, ↓KN_list_l2, ↓KN_list_t2, ↓KN_list_c, ↓kListL_at, ↓K_op2M, ↓kOp2Ma_at, ↓kOp2Mb_at, ↓K2_rep1, ↓K_prE_n, ↓K_prE_c, ↓kPr1_at, ↓kPr2_at, ↓kPr3_at, ↓K_dspE, ↓kDsp_s1, ↓kDsp_s2, ↓kDsp_s3, ↓kDsp_s4, ↓K_frz, ↓kFrz_c, ↓kFrz_l, ↓kFrz_t, ↓kFrz_n, ↓kFrzL_at, ↓K_extE, ↓kExt1_at, ↓kExt1b_at, ↓kExt2_at, ↓kExt3_at, ↓K_mt0E, ↓kMt0_at, ↓kMt0L_clear, ↓kMt0L_rev, ↓K2_in_t, ↓K2_in_f, ↓K2_notIn_t, ↓K2_notIn_f, ↓K_itZp, ↓kZp1_at, ↓K_itEn, ↓kEnI_t, ↓kEnI_l, ↓K2_din_i, ↓kDinD_at, ↓KR_put_0, ↓KR_put_1, ↓KR_put_2, ↓KR_put_l, ↓KR_put_into, ↓KR_put_end, ↓KR_put_looked, ↓KR_put_cut, ↓KR_move_0, ↓KR_move_1, ↓KR_move_2, ↓KR_move_l, ↓KR_move_into, ↓KR_move_end, ↓KR_move_looked, ↓KR_move_cut, ↓KR_add_0, ↓KR_add_1, ↓KR_add_2, ↓KR_add_3, ↓KR_add_l, ↓KR_add_into, ↓KR_add_end, ↓KR_add_looked, ↓KR_add_cut, ↓KR_take_0, ↓KR_take_1, ↓KR_take_2, ↓KR_take_3, ↓KR_take_l, ↓KR_take_into, ↓KR_take_end, ↓KR_take_looked, ↓KR_take_cut, ↓KR_times_0, ↓KR_times_1, ↓KR_times_2, ↓KR_times_3, ↓KR_times_l, ↓KR_times_into, ↓KR_times_end, ↓KR_times_looked, ↓KR_times_cut, ↓KR_get_0, ↓KR_get_1, ↓KR_get_2, ↓KR_get_l, ↓KR_get_into, ↓KR_get_end, ↓KR_get_looked, ↓KR_get_cut, ↓KR_set_0, ↓KR_set_1, ↓KR_set_2, ↓KR_set_l, ↓KR_set_into, ↓KR_set_end, ↓KR_set_looked, ↓KR_set_cut, ↓KR_say_0, ↓KR_say_1, ↓KR_say_l, ↓KR_say_into, ↓KR_say_end, ↓KR_say_looked, ↓KR_say_cut, ↓KR_rest_0, ↓KR_rest_l, ↓KR_rest_into, ↓KR_rest_end, ↓KR_rest_looked, ↓KR_rest_cut, ↓KR_go_0, ↓KR_go_1, ↓KR_go_l, ↓KR_go_into, ↓KR_go_end, ↓KR_go_looked, ↓KR_go_cut, ↓KR_ifr_0, ↓KR_ifr_1, ↓KR_ifr_2, ↓KR_ifr_l, ↓KR_ifr_into, ↓KR_ifr_end, ↓KR_ifr_looked, ↓KR_ifr_cut, ↓KR_stop_0, ↓KR_stop_l, ↓KR_stop_into, ↓KR_stop_end, ↓KR_stop_looked, ↓KR_stop_cut, ↓KR_late, ↓KR_far, ↓KR_num, ↓KR_mill_0, ↓KR_mill_1, ↓KR_mill_2, ↓KR_mill_3, ↓KR_pi_len, ↓KA_stop, ↓KA_goes, ↓KA_ends, ↓K_mt1E, ↓kM1_l, ↓kM1_s, ↓kM1b_at, ↓K1_isi_c, ↓kIsiL_at, ↓KN_minl, ↓K2_isB, ↓K2_notB, ↓K1_rev_t, ↓K1_rev_l, ↓K2_nin, ↓K2_nnotin, ↓kNinD_pk, ↓kNnotD_pk, ↓K_nget2, ↓kNg1_at, ↓kNg1b_at, ↓kNg2_at, ↓kNg3_at, ↓kNg4_pk, ↓K_ndctE, ↓K_sNput, ↓kNp1_at, ↓kNp2_at, ↓kNp4_at, ↓K_ndsp1, ↓kNd1_at, ↓KN_nlen_c, ↓kNlenL_at, start0, List.map_cons, List.map_nil, List.length_cons, List.length_nil, List.replicate_succ, List.replicate_zero, Nat.reduceSub, Nat.reduceAdd, wipeE, List.set_cons_zero, List.set_cons_succ, List.cons_append, List.nil_append, $as,*])
local macro_rules | `(tactic| simp_arith [$as,*] at $h:ident) => `(tactic| simp -implicitDefEqProofs (disch := first | assumption | decide | omega | (simp only [List.length_cons, List.length_nil, Mem.put_n, Mem.new_n, Mem.kill_n]; omega)) only [↓KO_some, ↓K_vr, ↓kVr_0, ↓kVr_s, ↓K_cn, ↓K_pure, ↓K_op2, ↓kOp2a_at, ↓kOp2b_at, ↓K_op1, ↓kOp1_at, ↓K_argN, ↓K_argC, ↓kArg1_at, ↓kArg2_at, ↓K_opN, ↓kOpN_at, ↓K_call, ↓kCall_1, ↓kCall_2, ↓kCall_3, ↓kCall_4, ↓kCall_5, ↓K_tpl, ↓K_lsl, ↓K_lsm, ↓K_dctE, ↓kTpl_0, ↓kTpl_1, ↓kTpl_2, ↓kTpl_3, ↓kTpl_4, ↓kTpl_5, ↓kLsl_0, ↓kLsl_1, ↓kLsl_2, ↓kLsl_3, ↓kLsl_4, ↓kLsm_0, ↓K_tV, ↓kTV_at, ↓K_tAnd, ↓kTAnd_t, ↓kTAnd_f, ↓K_tOr, ↓kTOr_t, ↓kTOr_f, ↓K_tNot, ↓kTNot_t, ↓kTNot_f, ↓kTNot_at, ↓K_tYes, ↓K_vAnd, ↓kVAnd_t, ↓kVAnd_f, ↓K_vOr, ↓kVOr_t, ↓kVOr_f, ↓K_vNot, ↓kVNot_at, ↓K_ifE, ↓kIfE_t, ↓kIfE_f, ↓K_chn, ↓kChn0_at, ↓kChn1_at, ↓kChn2_t, ↓kChn2_f, ↓K_soN, ↓K_soS, ↓kSoS_at, ↓K_slc, ↓kSlc0_at, ↓kSlc1_at, ↓kSlc2_at, ↓KSl_tup, ↓KSl_lst, ↓K_sNext, ↓K_sSeq, ↓kSeq_nx, ↓kSeq_rt, ↓K_sRet, ↓kRet_at, ↓K_sRetN, ↓K_sExp, ↓kExp_at, ↓K_sIf, ↓kIf_t, ↓kIf_f, ↓kSet_0, ↓kSet_s, ↓kUn_c, ↓kUn_n, ↓K_sAsg, ↓kAsg_nm, ↓kAsg_tp, ↓kNms_c, ↓kNmsC_at, ↓kNms_n, ↓K_sPar, ↓kPar1_at, ↓kPar2_at, ↓K_run, ↓kRun_rt, ↓kRun_nx, ↓K2_add_i, ↓K2_sub_i, ↓K2_mul_i, ↓K2_mod_i, ↓K2_fdiv_i, ↓K2_lt_i, ↓K2_le_i, ↓K2_gt_i, ↓K2_ge_i, ↓K2_eq_i, ↓K2_ne_i, ↓K2_eq_st, ↓K2_eq_sf, ↓K2_ne_st, ↓K2_ne_sf, ↓K2_eq_b, ↓K2_add_t, ↓K2_add_l, ↓K1_neg_i, ↓K2_isN_n, ↓K2_isN_i, ↓K2_isN_s, ↓K2_isN_t, ↓K2_isN_l, ↓K2_isN_c, ↓K2_notN_n, ↓K2_notN_i, ↓K2_notN_s, ↓K2_notN_t, ↓K2_notN_l, ↓K2_notN_c, ↓K2_ix_t, ↓K2_ix_l, ↓KIx_0, ↓KIx_1, ↓KIx_2, ↓KIx_3, ↓KIx_4, ↓KIx_m1a, ↓KIx_m1b, ↓KIx_m1c, ↓KIx_m1d, ↓KN_len_t, ↓KN_len_l, ↓KN_max2, ↓KN_min2, ↓KN_int_i, ↓KN_int_t, ↓KN_int_f, ↓KN_tuple_l, ↓KN_tuple_t, ↓KN_maxl, ↓KN_suml, ↓K1_isi_n, ↓K1_isi_b, ↓K1_isi_i, ↓K1_isi_s, ↓K1_isi_t, ↓K1_isi_l, ↓KG_put_eq, ↓KG_put_ne, ↓KG_new_eq, ↓KG_new_ne, ↓KG_kill_ne, ↓K2_ix_c, ↓kIxL_at, ↓KN_len_c, ↓kLenL_l, ↓kLenL_d, ↓KN_tuple_c, ↓kTupL_at, ↓KN_max_c, ↓kMaxL_at, ↓KSl_c, ↓kSlL_at, ↓K_appE, ↓kApp1_at, ↓kApp1b_at, ↓kApp2_at, ↓kApp3_at, ↓K_sLput, ↓kPut1_at, ↓kPut2_at, ↓kPut3_at, ↓kPut4_at, ↓K2_dget_i, ↓K2_dget_s, ↓kDgD_at, ↓KVk_eq, ↓KVk_ne, ↓KVd_eq, ↓KVd_ne, ↓KVd_n, ↓K_dget2, ↓kDg1_at, ↓kDg1b_at, ↓kDg2_at, ↓kDg3_at, ↓kDg4_i, ↓kDg4_s, ↓K_sDput, ↓kDp1_at, ↓kDp2_at, ↓kDp3_i, ↓kDp3_s, ↓kDp4_at, ↓K1_fld, ↓kFldO_at, ↓KFl_eq, ↓KFl_ne, ↓K_sFput, ↓kFp1_at, ↓kFp2_at, ↓kFp3_at, ↓kPf_n, ↓kPf_eq, ↓kPu_c, ↓kPu_n, ↓kPf_ne, ↓K_callM, ↓kMt1_at, ↓kMt2_at, ↓kNo_n, ↓kNo_c, ↓kMt3_0, ↓kMt3_1, ↓kMt3_2, ↓kMt3_3, ↓kMt3_4, ↓K_mkE, ↓kMk_1, ↓kMk_2, ↓kMk_3, ↓kMk2_at, ↓K_sFor, ↓kFor_at, ↓K_itRng1, ↓kRng1_nat, ↓K_itRng2, ↓kRng2_at, ↓K_itSeq, ↓kSeqI_t, ↓kSeqI_l, ↓kSeqI_c, ↓kSeqL_at, ↓K_bodyG_nm, ↓K_bodyG_tp, ↓K_sWhile, ↓kComp_at, ↓K_comp, ↓K_compM, ↓kLst_at, ↓kLstM_at, ↓kEx_at, ↓K_exG_nm, ↓K_exG_tp, ↓kAlc_at, ↓K_opNM, ↓kOpNM_at, ↓KN_list_l2, ↓KN_list_t2, ↓KN_list_c, ↓kListL_at, ↓K_op2M, ↓kOp2Ma_at, ↓kOp2Mb_at, ↓K2_rep1, ↓K_prE_n, ↓K_prE_c, ↓kPr1_at, ↓kPr2_at, ↓kPr3_at, ↓K_dspE, ↓kDsp_s1, ↓kDsp_s2, ↓kDsp_s3, ↓kDsp_s4, ↓K_frz, ↓kFrz_c, ↓kFrz_l, ↓kFrz_t, ↓kFrz_n, ↓kFrzL_at, ↓K_extE, ↓kExt1_at, ↓kExt1b_at, ↓kExt2_at, ↓kExt3_at, ↓K_mt0E, ↓kMt0_at, ↓kMt0L_clear, ↓kMt0L_rev, ↓K2_in_t, ↓K2_in_f, ↓K2_notIn_t, ↓K2_notIn_f, ↓K_itZp, ↓kZp1_at, ↓K_itEn, ↓kEnI_t, ↓kEnI_l, ↓K2_din_i, ↓kDinD_at, ↓KR_put_0, ↓KR_put_1, ↓KR_put_2, ↓KR_put_l, ↓KR_put_into, ↓KR_put_end, ↓KR_put_looked, ↓KR_put_cut, ↓KR_move_0, ↓KR_move_1, ↓KR_move_2, ↓KR_move_l, ↓KR_move_into, ↓KR_move_end, ↓KR_move_looked, ↓KR_move_cut, ↓KR_add_0, ↓KR_add_1, ↓KR_add_2, ↓KR_add_3, ↓KR_add_l, ↓KR_add_into, ↓KR_add_end, ↓KR_add_looked, ↓KR_add_cut, ↓KR_take_0, ↓KR_take_1, ↓KR_take_2, ↓KR_take_3, ↓KR_take_l, ↓KR_take_into, ↓KR_take_end, ↓KR_take_looked, ↓KR_take_cut, ↓KR_times_0, ↓KR_times_1, ↓KR_times_2, ↓KR_times_3, ↓KR_times_l, ↓KR_times_into, ↓KR_times_end, ↓KR_times_looked, ↓KR_times_cut, ↓KR_get_0, ↓KR_get_1, ↓KR_get_2, ↓KR_get_l, ↓KR_get_into, ↓KR_get_end, ↓KR_get_looked, ↓KR_get_cut, ↓KR_set_0, ↓KR_set_1, ↓KR_set_2, ↓KR_set_l, ↓KR_set_into, ↓KR_set_end, ↓KR_set_looked, ↓KR_set_cut, ↓KR_say_0, ↓KR_say_1, ↓KR_say_l, ↓KR_say_into, ↓KR_say_end, ↓KR_say_looked, ↓KR_say_cut, ↓KR_rest_0, ↓KR_rest_l, ↓KR_rest_into, ↓KR_rest_end, ↓KR_rest_looked, ↓KR_rest_cut, ↓KR_go_0, ↓KR_go_1, ↓KR_go_l, ↓KR_go_into, ↓KR_go_end, ↓KR_go_looked, ↓KR_go_cut, ↓KR_ifr_0, ↓KR_ifr_1, ↓KR_ifr_2, ↓KR_ifr_l, ↓KR_ifr_into, ↓KR_ifr_end, ↓KR_ifr_looked, ↓KR_ifr_cut, ↓KR_stop_0, ↓KR_stop_l, ↓KR_stop_into, ↓KR_stop_end, ↓KR_stop_looked, ↓KR_stop_cut, ↓KR_late, ↓KR_far, ↓KR_num, ↓KR_mill_0, ↓KR_mill_1, ↓KR_mill_2, ↓KR_mill_3, ↓KR_pi_len, ↓KA_stop, ↓KA_goes, ↓KA_ends, ↓K_mt1E, ↓kM1_l, ↓kM1_s, ↓kM1b_at, ↓K1_isi_c, ↓kIsiL_at, ↓KN_minl, ↓K2_isB, ↓K2_notB, ↓K1_rev_t, ↓K1_rev_l, ↓K2_nin, ↓K2_nnotin, ↓kNinD_pk, ↓kNnotD_pk, ↓K_nget2, ↓kNg1_at, ↓kNg1b_at, ↓kNg2_at, ↓kNg3_at, ↓kNg4_pk, ↓K_ndctE, ↓K_sNput, ↓kNp1_at, ↓kNp2_at, ↓kNp4_at, ↓K_ndsp1, ↓kNd1_at, ↓KN_nlen_c, ↓kNlenL_at, start0, List.map_cons, List.map_nil, List.length_cons, List.length_nil, List.replicate_succ, List.replicate_zero, Nat.reduceSub, Nat.reduceAdd, wipeE, List.set_cons_zero, List.set_cons_succ, List.cons_append, List.nil_append, $as,*] at $h:ident)
section
variable {m : Mem} {p : List Row} {t : Mill} {W : List Row → List Int → Prop} {F : Fn} {fv : FV} {jr : Nat}
theorem FitI.keys {L : List Int} {qs : List Blk} (Q : FitI p t W L (blkI L p.length).length qs) : (fitA p t qs).2.map (·.1) = L := by
  rw [fitA_keys]
  have e : (qs.map fun q : Blk => q.1.1) = (qs.map (·.1)).map (·.1) := by rw [List.map_map]; rfl
  rw [e, Q.fst, List.take_length, blkI_keys]
theorem goal_in {L : List Int} (hL : Begs p L) (hp : ProgOk p) {r : Row} (hr : r ∈ p) (hg : r.goes = true) : r.goal ∈ L := by
  obtain ⟨j, hj, e⟩ := List.getElem_of_mem hr
  refine (hL.mem _).mpr ⟨.inr ⟨j, r, hj, by rw [List.getElem?_eq_getElem hj, e], .inl ⟨hg, rfl⟩⟩, ?_⟩
  have := hp.rows r hr
  exact goal_okY this hg
theorem FitI.goals {L : List Int} {qs : List Blk} (Q : FitI p t W L (blkI L p.length).length qs) (hL : Begs p L) (hp : ProgOk p) {r : Row} (hr : r ∈ (fitA p t qs).1) (hg : r.goes = true) : r.goal ∈ (fitA p t qs).2.map (·.1) := by
  rw [Q.keys]
  rcases fitA_mem qs hr with rfl | h
  · cases hg
  · exact goal_in hL hp h hg
theorem turn_no {r : Row} (hg : r.goes = false) (bs : List (Int × Int)) : turnR bs r = r := by
  cases r <;> first
    | (cases hg; done)
    | rfl
end
end
end LB

set_option Elab.async false
set_option linter.all false
set_option autoImplicit false
set_option maxRecDepth 100000
set_option maxHeartbeats 4000000
/-! Pure: fitted. -/
namespace LB
open PySem
noncomputable section
local macro_rules | `(tactic| simp_arith [$as,*]) => `(tactic| simp -implicitDefEqProofs (disch := first | assumption | decide | omega | (simp only [List.length_cons, List.length_nil, Mem.put_n, Mem.new_n, Mem.kill_n]; omega)) only [↓KO_some, ↓K_vr, ↓kVr_0, ↓kVr_s, ↓K_cn, ↓K_pure, ↓K_op2, ↓kOp2a_at, ↓kOp2b_at, ↓K_op1, ↓kOp1_at, ↓K_argN, ↓K_argC, ↓kArg1_at, ↓kArg2_at, ↓K_opN, ↓kOpN_at, ↓K_call, ↓kCall_1, ↓kCall_2, ↓kCall_3, ↓kCall_4, ↓kCall_5, ↓K_tpl, ↓K_lsl, ↓K_lsm, ↓K_dctE, ↓kTpl_0, ↓kTpl_1, ↓kTpl_2, ↓kTpl_3, ↓kTpl_4, ↓kTpl_5, ↓kLsl_0, ↓kLsl_1, ↓kLsl_2, ↓kLsl_3, ↓kLsl_4, ↓kLsm_0, ↓K_tV, ↓kTV_at, ↓K_tAnd, ↓kTAnd_t, ↓kTAnd_f, ↓K_tOr, ↓kTOr_t, ↓kTOr_f, ↓K_tNot, ↓kTNot_t, ↓kTNot_f, ↓kTNot_at, ↓K_tYes, ↓K_vAnd, ↓kVAnd_t, ↓kVAnd_f, ↓K_vOr, ↓kVOr_t, ↓kVOr_f, ↓K_vNot, ↓kVNot_at, ↓K_ifE, ↓kIfE_t, ↓kIfE_f, ↓K_chn, ↓kChn0_at, ↓kChn1_at, ↓kChn2_t, ↓kChn2_f, ↓K_soN, ↓K_soS, ↓kSoS_at, ↓K_slc, ↓kSlc0_at, ↓kSlc1_at, ↓kSlc2_at, ↓KSl_tup, ↓KSl_lst, ↓K_sNext, ↓K_sSeq, ↓kSeq_nx, ↓kSeq_rt, ↓K_sRet, ↓kRet_at, ↓K_sRetN, ↓K_sExp, ↓kExp_at, ↓K_sIf, ↓kIf_t, ↓kIf_f, ↓kSet_0, ↓kSet_s, ↓kUn_c, ↓kUn_n, ↓K_sAsg, ↓kAsg_nm, ↓kAsg_tp, ↓kNms_c, ↓kNmsC_at, ↓kNms_n, ↓K_sPar, ↓kPar1_at, ↓kPar2_at, ↓K_run, ↓kRun_rt, ↓kRun_nx, ↓K2_add_i, ↓K2_sub_i, ↓K2_mul_i, ↓K2_mod_i, ↓K2_fdiv_i, ↓K2_lt_i, ↓K2_le_i, ↓K2_gt_i, ↓K2_ge_i, ↓K2_eq_i, ↓K2_ne_i, ↓K2_eq_st, ↓K2_eq_sf, ↓K2_ne_st, ↓K2_ne_sf, ↓K2_eq_b, ↓K2_add_t, ↓K2_add_l, ↓K1_neg_i, ↓K2_isN_n, ↓K2_isN_i, ↓K2_isN_s, ↓K2_isN_t, ↓K2_isN_l, ↓K2_isN_c, ↓K2_notN_n, ↓K2_notN_i, ↓K2_notN_s, ↓K2_notN_t, ↓K2_notN_l, ↓K2_notN_c, ↓K2_ix_t, ↓K2_ix_l, ↓KIx_0, ↓KIx_1, ↓KIx_2, ↓KIx_3, ↓KIx_4, ↓KIx_m1a, ↓KIx_m1b, ↓KIx_m1c, ↓KIx_m1d, ↓KN_len_t, ↓KN_len_l, ↓KN_max2, ↓KN_min2, ↓KN_int_i, ↓KN_int_t, ↓KN_int_f, ↓KN_tuple_l, ↓KN_tuple_t, ↓KN_maxl, ↓KN_suml, ↓K1_isi_n, ↓K1_isi_b, ↓K1_isi_i, ↓K1_isi_s, ↓K1_isi_t, ↓K1_isi_l, ↓KG_put_eq, ↓KG_put_ne, ↓KG_new_eq, ↓KG_new_ne, ↓KG_kill_ne, ↓K2_ix_c, ↓kIxL_at, ↓KN_len_c, ↓kLenL_l, ↓kLenL_d, ↓KN_tuple_c, ↓kTupL_at, ↓KN_max_c, ↓kMaxL_at, ↓KSl_c, ↓kSlL_at, ↓K_appE, ↓kApp1_at, ↓kApp1b_at, ↓kApp2_at, ↓kApp3_at, ↓K_sLput, ↓kPut1_at, ↓kPut2_at, ↓kPut3_at, ↓kPut4_at, ↓K2_dget_i, ↓K2_dget_s, ↓kDgD_at, ↓KVk_eq, ↓KVk_ne, ↓KVd_eq, ↓KVd_ne, ↓KVd_n, ↓K_dget2, ↓kDg1_at, ↓kDg1b_at, ↓kDg2_at, ↓kDg3_at, ↓kDg4_i, ↓kDg4_s, ↓K_sDput, ↓kDp1_at, ↓kDp2_at, ↓kDp3_i, ↓kDp3_s, ↓kDp4_at, ↓K1_fld, ↓kFldO_at, ↓KFl_eq, ↓KFl_ne, ↓K_sFput, ↓kFp1_at, ↓kFp2_at, ↓kFp3_at, ↓kPf_n, ↓kPf_eq, ↓kPu_c, ↓kPu_n, ↓kPf_ne, ↓K_callM, ↓kMt1_at, ↓kMt2_at, ↓kNo_n, ↓kNo_c, ↓kMt3_0, ↓kMt3_1, ↓kMt3_2, ↓kMt3_3, ↓kMt3_4, ↓K_mkE, ↓kMk_1, ↓kMk_2, ↓kMk_3, ↓kMk2_at, ↓K_sFor, ↓kFor_at, ↓K_itRng1, ↓kRng1_nat, ↓K_itRng2, ↓kRng2_at, ↓K_itSeq, ↓kSeqI_t, ↓kSeqI_l, ↓kSeqI_c, ↓kSeqL_at, ↓K_bodyG_nm, ↓K_bodyG_tp, ↓K_sWhile, ↓kComp_at, ↓K_comp, ↓K_compM, ↓kLst_at, ↓kLstM_at, ↓kEx_at, ↓K_exG_nm, ↓K_exG_tp, ↓kAlc_at, ↓K_opNM, ↓kOpNM_at, ↓KN_list_l2, ↓KN_list_t2, ↓KN_list_c, ↓kListL_at, ↓K_op2M, ↓kOp2Ma_at, ↓kOp2Mb_at, ↓K2_rep1, ↓K_prE_n, ↓K_prE_c, ↓kPr1_at, ↓kPr2_at, ↓kPr3_at, ↓K_dspE, ↓kDsp_s1, ↓kDsp_s2, ↓kDsp_s3, ↓kDsp_s4, ↓K_frz, ↓kFrz_c, ↓kFrz_l, ↓kFrz_t, ↓kFrz_n, ↓kFrzL_at, ↓K_extE, ↓kExt1_at, ↓kExt1b_at, ↓kExt2_at, ↓kExt3_at, ↓K_mt0E, ↓kMt0_at, ↓kMt0L_clear, ↓kMt0L_rev, ↓K2_in_t, ↓K2_in_f, ↓K2_notIn_t, ↓K2_notIn_f, ↓K_itZp, ↓kZp1_at, ↓K_itEn, ↓kEnI_t, ↓kEnI_l, ↓K2_din_i, ↓kDinD_at, ↓KR_put_0, ↓KR_put_1, ↓KR_put_2, ↓KR_put_l, ↓KR_put_into, ↓KR_put_end, ↓KR_put_looked, ↓KR_put_cut, ↓KR_move_0, ↓KR_move_1, ↓KR_move_2, ↓KR_move_l, ↓KR_move_into, ↓KR_move_end, ↓KR_move_looked, ↓KR_move_cut, ↓KR_add_0, ↓KR_add_1, ↓KR_add_2, ↓KR_add_3, ↓KR_add_l, ↓KR_add_into, ↓KR_add_end, ↓KR_add_looked, ↓KR_add_cut, ↓KR_take_0, ↓KR_take_1, ↓KR_take_2, ↓KR_take_3, ↓KR_take_l, ↓KR_take_into, ↓KR_take_end, ↓KR_take_looked, ↓KR_take_cut, ↓KR_times_0, ↓KR_times_1, ↓KR_times_2, ↓KR_times_3, ↓KR_times_l, ↓KR_times_into, ↓KR_times_end, ↓KR_times_looked, ↓KR_times_cut, ↓KR_get_0, ↓KR_get_1, ↓KR_get_2, ↓KR_get_l, ↓KR_get_into, ↓KR_get_end, ↓KR_get_looked, ↓KR_get_cut, ↓KR_set_0, ↓KR_set_1, ↓KR_set_2, ↓KR_set_l, ↓KR_set_into, ↓KR_set_end, ↓KR_set_looked, ↓KR_set_cut, ↓KR_say_0, ↓KR_say_1, ↓KR_say_l, ↓KR_say_into, ↓KR_say_end, ↓KR_say_looked, ↓KR_say_cut, ↓KR_rest_0, ↓KR_rest_l, ↓KR_rest_into, ↓KR_rest_end, ↓KR_rest_looked, ↓KR_rest_cut, ↓KR_go_0, ↓KR_go_1, ↓KR_go_l, ↓KR_go_into, ↓KR_go_end, ↓KR_go_looked, ↓KR_go_cut, ↓KR_ifr_0, ↓KR_ifr_1, ↓KR_ifr_2, ↓KR_ifr_l, ↓KR_ifr_into, ↓KR_ifr_end, ↓KR_ifr_looked, ↓KR_ifr_cut, ↓KR_stop_0, ↓KR_stop_l, ↓KR_stop_into, ↓KR_stop_end, ↓KR_stop_looked, ↓KR_stop_cut, ↓KR_late, ↓KR_far, ↓KR_num, ↓KR_mill_0, ↓KR_mill_1, ↓KR_mill_2, ↓KR_mill_3, ↓KR_pi_len, ↓KA_stop, ↓KA_goes, ↓KA_ends, ↓K_mt1E, ↓kM1_l, ↓kM1_s, ↓kM1b_at, ↓K1_isi_c, ↓kIsiL_at, ↓KN_minl, ↓K2_isB, ↓K2_notB, ↓K1_rev_t, ↓K1_rev_l, ↓K2_nin, ↓K2_nnotin, ↓kNinD_pk, ↓kNnotD_pk, ↓K_nget2, ↓kNg1_at, ↓kNg1b_at, ↓kNg2_at, ↓kNg3_at, ↓kNg4_pk, ↓K_ndctE, ↓K_sNput, ↓kNp1_at, ↓kNp2_at, ↓kNp4_at, ↓K_ndsp1, ↓kNd1_at, ↓KN_nlen_c, ↓kNlenL_at, start0, List.map_cons, List.map_nil, List.length_cons, List.length_nil, List.replicate_succ, List.replicate_zero, Nat.reduceSub, Nat.reduceAdd, wipeE, List.set_cons_zero, List.set_cons_succ, List.cons_append, List.nil_append, $as,*])
local macro_rules | `(tactic| simp_arith [$as,*] at $h:ident) => `(tactic| simp -implicitDefEqProofs (disch := first | assumption | decide | omega | (simp only [List.length_cons, List.length_nil, Mem.put_n, Mem.new_n, Mem.kill_n]; omega)) only [↓KO_some, ↓K_vr, ↓kVr_0, ↓kVr_s, ↓K_cn, ↓K_pure, ↓K_op2, ↓kOp2a_at, ↓kOp2b_at, ↓K_op1, ↓kOp1_at, ↓K_argN, ↓K_argC, ↓kArg1_at, ↓kArg2_at, ↓K_opN, ↓kOpN_at, ↓K_call, ↓kCall_1, ↓kCall_2, ↓kCall_3, ↓kCall_4, ↓kCall_5, ↓K_tpl, ↓K_lsl, ↓K_lsm, ↓K_dctE, ↓kTpl_0, ↓kTpl_1, ↓kTpl_2, ↓kTpl_3, ↓kTpl_4, ↓kTpl_5, ↓kLsl_0, ↓kLsl_1, ↓kLsl_2, ↓kLsl_3, ↓kLsl_4, ↓kLsm_0, ↓K_tV, ↓kTV_at, ↓K_tAnd, ↓kTAnd_t, ↓kTAnd_f, ↓K_tOr, ↓kTOr_t, ↓kTOr_f, ↓K_tNot, ↓kTNot_t, ↓kTNot_f, ↓kTNot_at, ↓K_tYes, ↓K_vAnd, ↓kVAnd_t, ↓kVAnd_f, ↓K_vOr, ↓kVOr_t, ↓kVOr_f, ↓K_vNot, ↓kVNot_at, ↓K_ifE, ↓kIfE_t, ↓kIfE_f, ↓K_chn, ↓kChn0_at, ↓kChn1_at, ↓kChn2_t, ↓kChn2_f, ↓K_soN, ↓K_soS, ↓kSoS_at, ↓K_slc, ↓kSlc0_at, ↓kSlc1_at, ↓kSlc2_at, ↓KSl_tup, ↓KSl_lst, ↓K_sNext, ↓K_sSeq, ↓kSeq_nx, ↓kSeq_rt, ↓K_sRet, ↓kRet_at, ↓K_sRetN, ↓K_sExp, ↓kExp_at, ↓K_sIf, ↓kIf_t, ↓kIf_f, ↓kSet_0, ↓kSet_s, ↓kUn_c, ↓kUn_n, ↓K_sAsg, ↓kAsg_nm, ↓kAsg_tp, ↓kNms_c, ↓kNmsC_at, ↓kNms_n, ↓K_sPar, ↓kPar1_at, ↓kPar2_at, ↓K_run, ↓kRun_rt, ↓kRun_nx, ↓K2_add_i, ↓K2_sub_i, ↓K2_mul_i, ↓K2_mod_i, ↓K2_fdiv_i, ↓K2_lt_i, ↓K2_le_i, ↓K2_gt_i, ↓K2_ge_i, ↓K2_eq_i, ↓K2_ne_i, ↓K2_eq_st, ↓K2_eq_sf, ↓K2_ne_st, ↓K2_ne_sf, ↓K2_eq_b, ↓K2_add_t, ↓K2_add_l, ↓K1_neg_i, ↓K2_isN_n, ↓K2_isN_i, ↓K2_isN_s, ↓K2_isN_t, ↓K2_isN_l, ↓K2_isN_c, ↓K2_notN_n, ↓K2_notN_i, ↓K2_notN_s, ↓K2_notN_t, ↓K2_notN_l, ↓K2_notN_c, ↓K2_ix_t, ↓K2_ix_l, ↓KIx_0, ↓KIx_1, ↓KIx_2, ↓KIx_3, ↓KIx_4, ↓KIx_m1a, ↓KIx_m1b, ↓KIx_m1c, ↓KIx_m1d, ↓KN_len_t, ↓KN_len_l, ↓KN_max2, ↓KN_min2, ↓KN_int_i, ↓KN_int_t, ↓KN_int_f, ↓KN_tuple_l, ↓KN_tuple_t, ↓KN_maxl, ↓KN_suml, ↓K1_isi_n, ↓K1_isi_b, ↓K1_isi_i, ↓K1_isi_s, ↓K1_isi_t, ↓K1_isi_l, ↓KG_put_eq, ↓KG_put_ne, ↓KG_new_eq, ↓KG_new_ne, ↓KG_kill_ne, ↓K2_ix_c, ↓kIxL_at, ↓KN_len_c, ↓kLenL_l, ↓kLenL_d, ↓KN_tuple_c, ↓kTupL_at, ↓KN_max_c, ↓kMaxL_at, ↓KSl_c, ↓kSlL_at, ↓K_appE, ↓kApp1_at, ↓kApp1b_at, ↓kApp2_at, ↓kApp3_at, ↓K_sLput, ↓kPut1_at, ↓kPut2_at, ↓kPut3_at, ↓kPut4_at, ↓K2_dget_i, ↓K2_dget_s, ↓kDgD_at, ↓KVk_eq, ↓KVk_ne, ↓KVd_eq, ↓KVd_ne, ↓KVd_n, ↓K_dget2, ↓kDg1_at, ↓kDg1b_at, ↓kDg2_at, ↓kDg3_at, ↓kDg4_i, ↓kDg4_s, ↓K_sDput, ↓kDp1_at, ↓kDp2_at, ↓kDp3_i, ↓kDp3_s, ↓kDp4_at, ↓K1_fld, ↓kFldO_at, ↓KFl_eq, ↓KFl_ne, ↓K_sFput, ↓kFp1_at, ↓kFp2_at, ↓kFp3_at, ↓kPf_n, ↓kPf_eq, ↓kPu_c, ↓kPu_n, ↓kPf_ne, ↓K_callM, ↓kMt1_at, ↓kMt2_at, ↓kNo_n, ↓kNo_c, ↓kMt3_0, ↓kMt3_1, ↓kMt3_2, ↓kMt3_3, ↓kMt3_4, ↓K_mkE, ↓kMk_1, ↓kMk_2, ↓kMk_3, ↓kMk2_at, ↓K_sFor, ↓kFor_at, ↓K_itRng1, ↓kRng1_nat, ↓K_itRng2, ↓kRng2_at, ↓K_itSeq, ↓kSeqI_t, ↓kSeqI_l, ↓kSeqI_c, ↓kSeqL_at, ↓K_bodyG_nm, ↓K_bodyG_tp, ↓K_sWhile, ↓kComp_at, ↓K_comp, ↓K_compM, ↓kLst_at, ↓kLstM_at, ↓kEx_at, ↓K_exG_nm, ↓K_exG_tp, ↓kAlc_at, ↓K_opNM, ↓kOpNM_at, ↓KN_list_l2, ↓KN_list_t2, ↓KN_list_c, ↓kListL_at, ↓K_op2M, ↓kOp2Ma_at, ↓kOp2Mb_at, ↓K2_rep1, ↓K_prE_n, ↓K_prE_c, ↓kPr1_at, ↓kPr2_at, ↓kPr3_at, ↓K_dspE, ↓kDsp_s1, ↓kDsp_s2, ↓kDsp_s3, ↓kDsp_s4, ↓K_frz, ↓kFrz_c, ↓kFrz_l, ↓kFrz_t, ↓kFrz_n, ↓kFrzL_at, ↓K_extE, ↓kExt1_at, ↓kExt1b_at, ↓kExt2_at, ↓kExt3_at, ↓K_mt0E, ↓kMt0_at, ↓kMt0L_clear, ↓kMt0L_rev, ↓K2_in_t, ↓K2_in_f, ↓K2_notIn_t, ↓K2_notIn_f, ↓K_itZp, ↓kZp1_at, ↓K_itEn, ↓kEnI_t, ↓kEnI_l, ↓K2_din_i, ↓kDinD_at, ↓KR_put_0, ↓KR_put_1, ↓KR_put_2, ↓KR_put_l, ↓KR_put_into, ↓KR_put_end, ↓KR_put_looked, ↓KR_put_cut, ↓KR_move_0, ↓KR_move_1, ↓KR_move_2, ↓KR_move_l, ↓KR_move_into, ↓KR_move_end, ↓KR_move_looked, ↓KR_move_cut, ↓KR_add_0, ↓KR_add_1, ↓KR_add_2, ↓KR_add_3, ↓KR_add_l, ↓KR_add_into, ↓KR_add_end, ↓KR_add_looked, ↓KR_add_cut, ↓KR_take_0, ↓KR_take_1, ↓KR_take_2, ↓KR_take_3, ↓KR_take_l, ↓KR_take_into, ↓KR_take_end, ↓KR_take_looked, ↓KR_take_cut, ↓KR_times_0, ↓KR_times_1, ↓KR_times_2, ↓KR_times_3, ↓KR_times_l, ↓KR_times_into, ↓KR_times_end, ↓KR_times_looked, ↓KR_times_cut, ↓KR_get_0, ↓KR_get_1, ↓KR_get_2, ↓KR_get_l, ↓KR_get_into, ↓KR_get_end, ↓KR_get_looked, ↓KR_get_cut, ↓KR_set_0, ↓KR_set_1, ↓KR_set_2, ↓KR_set_l, ↓KR_set_into, ↓KR_set_end, ↓KR_set_looked, ↓KR_set_cut, ↓KR_say_0, ↓KR_say_1, ↓KR_say_l, ↓KR_say_into, ↓KR_say_end, ↓KR_say_looked, ↓KR_say_cut, ↓KR_rest_0, ↓KR_rest_l, ↓KR_rest_into, ↓KR_rest_end, ↓KR_rest_looked, ↓KR_rest_cut, ↓KR_go_0, ↓KR_go_1, ↓KR_go_l, ↓KR_go_into, ↓KR_go_end, ↓KR_go_looked, ↓KR_go_cut, ↓KR_ifr_0, ↓KR_ifr_1, ↓KR_ifr_2, ↓KR_ifr_l, ↓KR_ifr_into, ↓KR_ifr_end, ↓KR_ifr_looked, ↓KR_ifr_cut, ↓KR_stop_0, ↓KR_stop_l, ↓KR_stop_into, ↓KR_stop_end, ↓KR_stop_looked, ↓KR_stop_cut, ↓KR_late, ↓KR_far, ↓KR_num, ↓KR_mill_0, ↓KR_mill_1, ↓KR_mill_2, ↓KR_mill_3, ↓KR_pi_len, ↓KA_stop, ↓KA_goes, ↓KA_ends, ↓K_mt1E, ↓kM1_l, ↓kM1_s, ↓kM1b_at, ↓K1_isi_c, ↓kIsiL_at, ↓KN_minl, ↓K2_isB, ↓K2_notB, ↓K1_rev_t, ↓K1_rev_l, ↓K2_nin, ↓K2_nnotin, ↓kNinD_pk, ↓kNnotD_pk, ↓K_nget2, ↓kNg1_at, ↓kNg1b_at, ↓kNg2_at, ↓kNg3_at, ↓kNg4_pk, ↓K_ndctE, ↓K_sNput, ↓kNp1_at, ↓kNp2_at, ↓kNp4_at, ↓K_ndsp1, ↓kNd1_at, ↓KN_nlen_c, ↓kNlenL_at, start0, List.map_cons, List.map_nil, List.length_cons, List.length_nil, List.replicate_succ, List.replicate_zero, Nat.reduceSub, Nat.reduceAdd, wipeE, List.set_cons_zero, List.set_cons_succ, List.cons_append, List.nil_append, $as,*] at $h:ident)
end
end LB

set_option Elab.async false
set_option linter.all false
set_option autoImplicit false
set_option maxRecDepth 100000
set_option maxHeartbeats 4000000
/-! Pure: the law's own fitting: how many beats. -/
namespace LB
open PySem
noncomputable section
local macro_rules | `(tactic| simp_arith [$as,*]) => `(tactic| simp -implicitDefEqProofs (disch := first | assumption | decide | omega | (simp only [List.length_cons, List.length_nil, Mem.put_n, Mem.new_n, Mem.kill_n]; omega)) only [↓KO_some, ↓K_vr, ↓kVr_0, ↓kVr_s, ↓K_cn, ↓K_pure, ↓K_op2, ↓kOp2a_at, ↓kOp2b_at, ↓K_op1, ↓kOp1_at, ↓K_argN, ↓K_argC, ↓kArg1_at, ↓kArg2_at, ↓K_opN, ↓kOpN_at, ↓K_call, ↓kCall_1, ↓kCall_2, ↓kCall_3, ↓kCall_4, ↓kCall_5, ↓K_tpl, ↓K_lsl, ↓K_lsm, ↓K_dctE, ↓kTpl_0, ↓kTpl_1, ↓kTpl_2, ↓kTpl_3, ↓kTpl_4, ↓kTpl_5, ↓kLsl_0, ↓kLsl_1, ↓kLsl_2, ↓kLsl_3, ↓kLsl_4, ↓kLsm_0, ↓K_tV, ↓kTV_at, ↓K_tAnd, ↓kTAnd_t, ↓kTAnd_f, ↓K_tOr, ↓kTOr_t, ↓kTOr_f, ↓K_tNot, ↓kTNot_t, ↓kTNot_f, ↓kTNot_at, ↓K_tYes, ↓K_vAnd, ↓kVAnd_t, ↓kVAnd_f, ↓K_vOr, ↓kVOr_t, ↓kVOr_f, ↓K_vNot, ↓kVNot_at, ↓K_ifE, ↓kIfE_t, ↓kIfE_f, ↓K_chn, ↓kChn0_at, ↓kChn1_at, ↓kChn2_t, ↓kChn2_f, ↓K_soN, ↓K_soS, ↓kSoS_at, ↓K_slc, ↓kSlc0_at, ↓kSlc1_at, ↓kSlc2_at, ↓KSl_tup, ↓KSl_lst, ↓K_sNext, ↓K_sSeq, ↓kSeq_nx, ↓kSeq_rt, ↓K_sRet, ↓kRet_at, ↓K_sRetN, ↓K_sExp, ↓kExp_at, ↓K_sIf, ↓kIf_t, ↓kIf_f, ↓kSet_0, ↓kSet_s, ↓kUn_c, ↓kUn_n, ↓K_sAsg, ↓kAsg_nm, ↓kAsg_tp, ↓kNms_c, ↓kNmsC_at, ↓kNms_n, ↓K_sPar, ↓kPar1_at, ↓kPar2_at, ↓K_run, ↓kRun_rt, ↓kRun_nx, ↓K2_add_i, ↓K2_sub_i, ↓K2_mul_i, ↓K2_mod_i, ↓K2_fdiv_i, ↓K2_lt_i, ↓K2_le_i, ↓K2_gt_i, ↓K2_ge_i, ↓K2_eq_i, ↓K2_ne_i, ↓K2_eq_st, ↓K2_eq_sf, ↓K2_ne_st, ↓K2_ne_sf, ↓K2_eq_b, ↓K2_add_t, ↓K2_add_l, ↓K1_neg_i, ↓K2_isN_n, ↓K2_isN_i, ↓K2_isN_s, ↓K2_isN_t, ↓K2_isN_l, ↓K2_isN_c, ↓K2_notN_n, ↓K2_notN_i, ↓K2_notN_s, ↓K2_notN_t, ↓K2_notN_l, ↓K2_notN_c, ↓K2_ix_t, ↓K2_ix_l, ↓KIx_0, ↓KIx_1, ↓KIx_2, ↓KIx_3, ↓KIx_4, ↓KIx_m1a, ↓KIx_m1b, ↓KIx_m1c, ↓KIx_m1d, ↓KN_len_t, ↓KN_len_l, ↓KN_max2, ↓KN_min2, ↓KN_int_i, ↓KN_int_t, ↓KN_int_f, ↓KN_tuple_l, ↓KN_tuple_t, ↓KN_maxl, ↓KN_suml, ↓K1_isi_n, ↓K1_isi_b, ↓K1_isi_i, ↓K1_isi_s, ↓K1_isi_t, ↓K1_isi_l, ↓KG_put_eq, ↓KG_put_ne, ↓KG_new_eq, ↓KG_new_ne, ↓KG_kill_ne, ↓K2_ix_c, ↓kIxL_at, ↓KN_len_c, ↓kLenL_l, ↓kLenL_d, ↓KN_tuple_c, ↓kTupL_at, ↓KN_max_c, ↓kMaxL_at, ↓KSl_c, ↓kSlL_at, ↓K_appE, ↓kApp1_at, ↓kApp1b_at, ↓kApp2_at, ↓kApp3_at, ↓K_sLput, ↓kPut1_at, ↓kPut2_at, ↓kPut3_at, ↓kPut4_at, ↓K2_dget_i, ↓K2_dget_s, ↓kDgD_at, ↓KVk_eq, ↓KVk_ne, ↓KVd_eq, ↓KVd_ne, ↓KVd_n, ↓K_dget2, ↓kDg1_at, ↓kDg1b_at, ↓kDg2_at, ↓kDg3_at, ↓kDg4_i, ↓kDg4_s, ↓K_sDput, ↓kDp1_at, ↓kDp2_at, ↓kDp3_i, ↓kDp3_s, ↓kDp4_at, ↓K1_fld, ↓kFldO_at, ↓KFl_eq, ↓KFl_ne, ↓K_sFput, ↓kFp1_at, ↓kFp2_at, ↓kFp3_at, ↓kPf_n, ↓kPf_eq, ↓kPu_c, ↓kPu_n, ↓kPf_ne, ↓K_callM, ↓kMt1_at, ↓kMt2_at, ↓kNo_n, ↓kNo_c, ↓kMt3_0, ↓kMt3_1, ↓kMt3_2, ↓kMt3_3, ↓kMt3_4, ↓K_mkE, ↓kMk_1, ↓kMk_2, ↓kMk_3, ↓kMk2_at, ↓K_sFor, ↓kFor_at, ↓K_itRng1, ↓kRng1_nat, ↓K_itRng2, ↓kRng2_at, ↓K_itSeq, ↓kSeqI_t, ↓kSeqI_l, ↓kSeqI_c, ↓kSeqL_at, ↓K_bodyG_nm, ↓K_bodyG_tp, ↓K_sWhile, ↓kComp_at, ↓K_comp, ↓K_compM, ↓kLst_at, ↓kLstM_at, ↓kEx_at, ↓K_exG_nm, ↓K_exG_tp, ↓kAlc_at, ↓K_opNM, ↓kOpNM_at, ↓KN_list_l2, ↓KN_list_t2, ↓KN_list_c, ↓kListL_at, ↓K_op2M, ↓kOp2Ma_at, ↓kOp2Mb_at, ↓K2_rep1, ↓K_prE_n, ↓K_prE_c, ↓kPr1_at, ↓kPr2_at, ↓kPr3_at, ↓K_dspE, ↓kDsp_s1, ↓kDsp_s2, ↓kDsp_s3, ↓kDsp_s4, ↓K_frz, ↓kFrz_c, ↓kFrz_l, ↓kFrz_t, ↓kFrz_n, ↓kFrzL_at, ↓K_extE, ↓kExt1_at, ↓kExt1b_at, ↓kExt2_at, ↓kExt3_at, ↓K_mt0E, ↓kMt0_at, ↓kMt0L_clear, ↓kMt0L_rev, ↓K2_in_t, ↓K2_in_f, ↓K2_notIn_t, ↓K2_notIn_f, ↓K_itZp, ↓kZp1_at, ↓K_itEn, ↓kEnI_t, ↓kEnI_l, ↓K2_din_i, ↓kDinD_at, ↓KR_put_0, ↓KR_put_1, ↓KR_put_2, ↓KR_put_l, ↓KR_put_into, ↓KR_put_end, ↓KR_put_looked, ↓KR_put_cut, ↓KR_move_0, ↓KR_move_1, ↓KR_move_2, ↓KR_move_l, ↓KR_move_into, ↓KR_move_end, ↓KR_move_looked, ↓KR_move_cut, ↓KR_add_0, ↓KR_add_1, ↓KR_add_2, ↓KR_add_3, ↓KR_add_l, ↓KR_add_into, ↓KR_add_end, ↓KR_add_looked, ↓KR_add_cut, ↓KR_take_0, ↓KR_take_1, ↓KR_take_2, ↓KR_take_3, ↓KR_take_l, ↓KR_take_into, ↓KR_take_end, ↓KR_take_looked, ↓KR_take_cut, ↓KR_times_0, ↓KR_times_1, ↓KR_times_2, ↓KR_times_3, ↓KR_times_l, ↓KR_times_into, ↓KR_times_end, ↓KR_times_looked, ↓KR_times_cut, ↓KR_get_0, ↓KR_get_1, ↓KR_get_2, ↓KR_get_l, ↓KR_get_into, ↓KR_get_end, ↓KR_get_looked, ↓KR_get_cut, ↓KR_set_0, ↓KR_set_1, ↓KR_set_2, ↓KR_set_l, ↓KR_set_into, ↓KR_set_end, ↓KR_set_looked, ↓KR_set_cut, ↓KR_say_0, ↓KR_say_1, ↓KR_say_l, ↓KR_say_into, ↓KR_say_end, ↓KR_say_looked, ↓KR_say_cut, ↓KR_rest_0, ↓KR_rest_l, ↓KR_rest_into, ↓KR_rest_end, ↓KR_rest_looked, ↓KR_rest_cut, ↓KR_go_0, ↓KR_go_1, ↓KR_go_l, ↓KR_go_into, ↓KR_go_end, ↓KR_go_looked, ↓KR_go_cut, ↓KR_ifr_0, ↓KR_ifr_1, ↓KR_ifr_2, ↓KR_ifr_l, ↓KR_ifr_into, ↓KR_ifr_end, ↓KR_ifr_looked, ↓KR_ifr_cut, ↓KR_stop_0, ↓KR_stop_l, ↓KR_stop_into, ↓KR_stop_end, ↓KR_stop_looked, ↓KR_stop_cut, ↓KR_late, ↓KR_far, ↓KR_num, ↓KR_mill_0, ↓KR_mill_1, ↓KR_mill_2, ↓KR_mill_3, ↓KR_pi_len, ↓KA_stop, ↓KA_goes, ↓KA_ends, ↓K_mt1E, ↓kM1_l, ↓kM1_s, ↓kM1b_at, ↓K1_isi_c, ↓kIsiL_at, ↓KN_minl, ↓K2_isB, ↓K2_notB, ↓K1_rev_t, ↓K1_rev_l, ↓K2_nin, ↓K2_nnotin, ↓kNinD_pk, ↓kNnotD_pk, ↓K_nget2, ↓kNg1_at, ↓kNg1b_at, ↓kNg2_at, ↓kNg3_at, ↓kNg4_pk, ↓K_ndctE, ↓K_sNput, ↓kNp1_at, ↓kNp2_at, ↓kNp4_at, ↓K_ndsp1, ↓kNd1_at, ↓KN_nlen_c, ↓kNlenL_at, start0, List.map_cons, List.map_nil, List.length_cons, List.length_nil, List.replicate_succ, List.replicate_zero, Nat.reduceSub, Nat.reduceAdd, wipeE, List.set_cons_zero, List.set_cons_succ, List.cons_append, List.nil_append, $as,*])
local macro_rules | `(tactic| simp_arith [$as,*] at $h:ident) => `(tactic| simp -implicitDefEqProofs (disch := first | assumption | decide | omega | (simp only [List.length_cons, List.length_nil, Mem.put_n, Mem.new_n, Mem.kill_n]; omega)) only [↓KO_some, ↓K_vr, ↓kVr_0, ↓kVr_s, ↓K_cn, ↓K_pure, ↓K_op2, ↓kOp2a_at, ↓kOp2b_at, ↓K_op1, ↓kOp1_at, ↓K_argN, ↓K_argC, ↓kArg1_at, ↓kArg2_at, ↓K_opN, ↓kOpN_at, ↓K_call, ↓kCall_1, ↓kCall_2, ↓kCall_3, ↓kCall_4, ↓kCall_5, ↓K_tpl, ↓K_lsl, ↓K_lsm, ↓K_dctE, ↓kTpl_0, ↓kTpl_1, ↓kTpl_2, ↓kTpl_3, ↓kTpl_4, ↓kTpl_5, ↓kLsl_0, ↓kLsl_1, ↓kLsl_2, ↓kLsl_3, ↓kLsl_4, ↓kLsm_0, ↓K_tV, ↓kTV_at, ↓K_tAnd, ↓kTAnd_t, ↓kTAnd_f, ↓K_tOr, ↓kTOr_t, ↓kTOr_f, ↓K_tNot, ↓kTNot_t, ↓kTNot_f, ↓kTNot_at, ↓K_tYes, ↓K_vAnd, ↓kVAnd_t, ↓kVAnd_f, ↓K_vOr, ↓kVOr_t, ↓kVOr_f, ↓K_vNot, ↓kVNot_at, ↓K_ifE, ↓kIfE_t, ↓kIfE_f, ↓K_chn, ↓kChn0_at, ↓kChn1_at, ↓kChn2_t, ↓kChn2_f, ↓K_soN, ↓K_soS, ↓kSoS_at, ↓K_slc, ↓kSlc0_at, ↓kSlc1_at, ↓kSlc2_at, ↓KSl_tup, ↓KSl_lst, ↓K_sNext, ↓K_sSeq, ↓kSeq_nx, ↓kSeq_rt, ↓K_sRet, ↓kRet_at, ↓K_sRetN, ↓K_sExp, ↓kExp_at, ↓K_sIf, ↓kIf_t, ↓kIf_f, ↓kSet_0, ↓kSet_s, ↓kUn_c, ↓kUn_n, ↓K_sAsg, ↓kAsg_nm, ↓kAsg_tp, ↓kNms_c, ↓kNmsC_at, ↓kNms_n, ↓K_sPar, ↓kPar1_at, ↓kPar2_at, ↓K_run, ↓kRun_rt, ↓kRun_nx, ↓K2_add_i, ↓K2_sub_i, ↓K2_mul_i, ↓K2_mod_i, ↓K2_fdiv_i, ↓K2_lt_i, ↓K2_le_i, ↓K2_gt_i, ↓K2_ge_i, ↓K2_eq_i, ↓K2_ne_i, ↓K2_eq_st, ↓K2_eq_sf, ↓K2_ne_st, ↓K2_ne_sf, ↓K2_eq_b, ↓K2_add_t, ↓K2_add_l, ↓K1_neg_i, ↓K2_isN_n, ↓K2_isN_i, ↓K2_isN_s, ↓K2_isN_t, ↓K2_isN_l, ↓K2_isN_c, ↓K2_notN_n, ↓K2_notN_i, ↓K2_notN_s, ↓K2_notN_t, ↓K2_notN_l, ↓K2_notN_c, ↓K2_ix_t, ↓K2_ix_l, ↓KIx_0, ↓KIx_1, ↓KIx_2, ↓KIx_3, ↓KIx_4, ↓KIx_m1a, ↓KIx_m1b, ↓KIx_m1c, ↓KIx_m1d, ↓KN_len_t, ↓KN_len_l, ↓KN_max2, ↓KN_min2, ↓KN_int_i, ↓KN_int_t, ↓KN_int_f, ↓KN_tuple_l, ↓KN_tuple_t, ↓KN_maxl, ↓KN_suml, ↓K1_isi_n, ↓K1_isi_b, ↓K1_isi_i, ↓K1_isi_s, ↓K1_isi_t, ↓K1_isi_l, ↓KG_put_eq, ↓KG_put_ne, ↓KG_new_eq, ↓KG_new_ne, ↓KG_kill_ne, ↓K2_ix_c, ↓kIxL_at, ↓KN_len_c, ↓kLenL_l, ↓kLenL_d, ↓KN_tuple_c, ↓kTupL_at, ↓KN_max_c, ↓kMaxL_at, ↓KSl_c, ↓kSlL_at, ↓K_appE, ↓kApp1_at, ↓kApp1b_at, ↓kApp2_at, ↓kApp3_at, ↓K_sLput, ↓kPut1_at, ↓kPut2_at, ↓kPut3_at, ↓kPut4_at, ↓K2_dget_i, ↓K2_dget_s, ↓kDgD_at, ↓KVk_eq, ↓KVk_ne, ↓KVd_eq, ↓KVd_ne, ↓KVd_n, ↓K_dget2, ↓kDg1_at, ↓kDg1b_at, ↓kDg2_at, ↓kDg3_at, ↓kDg4_i, ↓kDg4_s, ↓K_sDput, ↓kDp1_at, ↓kDp2_at, ↓kDp3_i, ↓kDp3_s, ↓kDp4_at, ↓K1_fld, ↓kFldO_at, ↓KFl_eq, ↓KFl_ne, ↓K_sFput, ↓kFp1_at, ↓kFp2_at, ↓kFp3_at, ↓kPf_n, ↓kPf_eq, ↓kPu_c, ↓kPu_n, ↓kPf_ne, ↓K_callM, ↓kMt1_at, ↓kMt2_at, ↓kNo_n, ↓kNo_c, ↓kMt3_0, ↓kMt3_1, ↓kMt3_2, ↓kMt3_3, ↓kMt3_4, ↓K_mkE, ↓kMk_1, ↓kMk_2, ↓kMk_3, ↓kMk2_at, ↓K_sFor, ↓kFor_at, ↓K_itRng1, ↓kRng1_nat, ↓K_itRng2, ↓kRng2_at, ↓K_itSeq, ↓kSeqI_t, ↓kSeqI_l, ↓kSeqI_c, ↓kSeqL_at, ↓K_bodyG_nm, ↓K_bodyG_tp, ↓K_sWhile, ↓kComp_at, ↓K_comp, ↓K_compM, ↓kLst_at, ↓kLstM_at, ↓kEx_at, ↓K_exG_nm, ↓K_exG_tp, ↓kAlc_at, ↓K_opNM, ↓kOpNM_at, ↓KN_list_l2, ↓KN_list_t2, ↓KN_list_c, ↓kListL_at, ↓K_op2M, ↓kOp2Ma_at, ↓kOp2Mb_at, ↓K2_rep1, ↓K_prE_n, ↓K_prE_c, ↓kPr1_at, ↓kPr2_at, ↓kPr3_at, ↓K_dspE, ↓kDsp_s1, ↓kDsp_s2, ↓kDsp_s3, ↓kDsp_s4, ↓K_frz, ↓kFrz_c, ↓kFrz_l, ↓kFrz_t, ↓kFrz_n, ↓kFrzL_at, ↓K_extE, ↓kExt1_at, ↓kExt1b_at, ↓kExt2_at, ↓kExt3_at, ↓K_mt0E, ↓kMt0_at, ↓kMt0L_clear, ↓kMt0L_rev, ↓K2_in_t, ↓K2_in_f, ↓K2_notIn_t, ↓K2_notIn_f, ↓K_itZp, ↓kZp1_at, ↓K_itEn, ↓kEnI_t, ↓kEnI_l, ↓K2_din_i, ↓kDinD_at, ↓KR_put_0, ↓KR_put_1, ↓KR_put_2, ↓KR_put_l, ↓KR_put_into, ↓KR_put_end, ↓KR_put_looked, ↓KR_put_cut, ↓KR_move_0, ↓KR_move_1, ↓KR_move_2, ↓KR_move_l, ↓KR_move_into, ↓KR_move_end, ↓KR_move_looked, ↓KR_move_cut, ↓KR_add_0, ↓KR_add_1, ↓KR_add_2, ↓KR_add_3, ↓KR_add_l, ↓KR_add_into, ↓KR_add_end, ↓KR_add_looked, ↓KR_add_cut, ↓KR_take_0, ↓KR_take_1, ↓KR_take_2, ↓KR_take_3, ↓KR_take_l, ↓KR_take_into, ↓KR_take_end, ↓KR_take_looked, ↓KR_take_cut, ↓KR_times_0, ↓KR_times_1, ↓KR_times_2, ↓KR_times_3, ↓KR_times_l, ↓KR_times_into, ↓KR_times_end, ↓KR_times_looked, ↓KR_times_cut, ↓KR_get_0, ↓KR_get_1, ↓KR_get_2, ↓KR_get_l, ↓KR_get_into, ↓KR_get_end, ↓KR_get_looked, ↓KR_get_cut, ↓KR_set_0, ↓KR_set_1, ↓KR_set_2, ↓KR_set_l, ↓KR_set_into, ↓KR_set_end, ↓KR_set_looked, ↓KR_set_cut, ↓KR_say_0, ↓KR_say_1, ↓KR_say_l, ↓KR_say_into, ↓KR_say_end, ↓KR_say_looked, ↓KR_say_cut, ↓KR_rest_0, ↓KR_rest_l, ↓KR_rest_into, ↓KR_rest_end, ↓KR_rest_looked, ↓KR_rest_cut, ↓KR_go_0, ↓KR_go_1, ↓KR_go_l, ↓KR_go_into, ↓KR_go_end, ↓KR_go_looked, ↓KR_go_cut, ↓KR_ifr_0, ↓KR_ifr_1, ↓KR_ifr_2, ↓KR_ifr_l, ↓KR_ifr_into, ↓KR_ifr_end, ↓KR_ifr_looked, ↓KR_ifr_cut, ↓KR_stop_0, ↓KR_stop_l, ↓KR_stop_into, ↓KR_stop_end, ↓KR_stop_looked, ↓KR_stop_cut, ↓KR_late, ↓KR_far, ↓KR_num, ↓KR_mill_0, ↓KR_mill_1, ↓KR_mill_2, ↓KR_mill_3, ↓KR_pi_len, ↓KA_stop, ↓KA_goes, ↓KA_ends, ↓K_mt1E, ↓kM1_l, ↓kM1_s, ↓kM1b_at, ↓K1_isi_c, ↓kIsiL_at, ↓KN_minl, ↓K2_isB, ↓K2_notB, ↓K1_rev_t, ↓K1_rev_l, ↓K2_nin, ↓K2_nnotin, ↓kNinD_pk, ↓kNnotD_pk, ↓K_nget2, ↓kNg1_at, ↓kNg1b_at, ↓kNg2_at, ↓kNg3_at, ↓kNg4_pk, ↓K_ndctE, ↓K_sNput, ↓kNp1_at, ↓kNp2_at, ↓kNp4_at, ↓K_ndsp1, ↓kNd1_at, ↓KN_nlen_c, ↓kNlenL_at, start0, List.map_cons, List.map_nil, List.length_cons, List.length_nil, List.replicate_succ, List.replicate_zero, Nat.reduceSub, Nat.reduceAdd, wipeE, List.set_cons_zero, List.set_cons_succ, List.cons_append, List.nil_append, $as,*] at $h:ident)
/-- ends stand last -/
def EndsLast (c : List Row) : Prop := ∀ i r, i + 1 < c.length → c[i]? = some r → r.ends = false
theorem blk_ends {p : List Row} {L : List Int} (hp : ProgOk p) (hL : Begs p L) {q : Int × Int} (hq : q ∈ blkI L p.length) {j : Nat} {r : Row} (h1 : q.1 ≤ j) (h2 : (j : Int) + 1 < q.2) (hr : p[j]? = some r) : r.ends = false := by
  obtain ⟨i, hi⟩ := List.getElem?_of_mem hq
  have hq2 := blkI_in hp hL hq
  have e1 : L[i]? = some q.1 := by rw [← blkI_keys L p.length, List.getElem?_map, hi]; rfl
  cases he : r.ends with
  | false => rfl
  | true =>
    have hx : (j : Int) + 1 ∈ L := (hL.mem _).mpr ⟨.inr ⟨j, r, (List.getElem?_eq_some_iff.mp hr).1, hr, .inr ⟨he, rfl⟩⟩, by omega⟩
    obtain ⟨k, hk⟩ := List.getElem?_of_mem hx
    have srt := List.pairwise_iff_getElem.mp hL.rise
    obtain ⟨hi1, hi2⟩ := List.getElem?_eq_some_iff.mp e1
    obtain ⟨hk1, hk2⟩ := List.getElem?_eq_some_iff.mp hk
    unfold blkI at hi
    rw [List.getElem?_zip_eq_some] at hi
    by_cases c : k ≤ i
    · have z : L[k] ≤ L[i] := by
        rcases Nat.lt_or_ge k i with c2 | c2
        · exact srt k i hk1 hi1 c2
        · have : k = i := by omega
          subst this
          exact Int.le_refl _
      rw [hi2, hk2] at z
      omega
    · have e2 := hi.2
      rw [List.getElem?_append_left (by rw [List.length_drop]; omega), List.getElem?_drop] at e2
      obtain ⟨hn1, hn2⟩ := List.getElem?_eq_some_iff.mp e2
      have z : L[1 + i] ≤ L[k] := by
        rcases Nat.lt_or_ge (1 + i) k with c2 | c2
        · exact srt (1 + i) k hn1 hk1 c2
        · have : k = 1 + i := by omega
          subst this
          exact Int.le_refl _
      rw [hn2, hk2] at z
      omega
end
end LB

set_option Elab.async false
set_option linter.all false
set_option autoImplicit false
set_option maxRecDepth 100000
set_option maxHeartbeats 2000000
/-! Pure: where the rows of a fitted program stand. -/
namespace LB
open PySem
noncomputable section
variable {p : List Row} {t : Mill}
def offB (p : List Row) (t : Mill) (qs : List Blk) (j : Nat) : Nat := (fitA p t (qs.take j)).1.length
def tilB (p : List Row) (t : Mill) (q : Blk) : List Row := laidP t (pieceOf p q.1) q.2
theorem fold_pre : ∀ (ys : List Blk) (a : FS), ∃ X, (ys.foldl (fitStep p t) a).1 = a.1 ++ X
  | [], a => ⟨[], (List.append_nil _).symm⟩
  | y :: ys, a => by
    obtain ⟨X, h⟩ := fold_pre ys (fitStep p t a y)
    exact ⟨tilB p t y ++ X, by rw [List.foldl_cons, h]; show (a.1 ++ tilB p t y) ++ X = _; rw [List.append_assoc]⟩
theorem fitA_split {qs : List Blk} {j : Nat} {q : Blk} (h : qs[j]? = some q) : (fitA p t (qs.take (j + 1))).1 = (fitA p t (qs.take j)).1 ++ tilB p t q := by
  rw [List.take_add_one, h]
  show (fitA p t (qs.take j ++ [q])).1 = _
  rw [fitA_add]
  rfl
theorem off_succ {qs : List Blk} {j : Nat} {q : Blk} (h : qs[j]? = some q) : offB p t qs (j + 1) = offB p t qs j + (tilB p t q).length := by
  unfold offB
  rw [fitA_split h, List.length_append]
theorem fitA_pre (qs : List Blk) (j : Nat) : ∃ X, (fitA p t qs).1 = (fitA p t (qs.take j)).1 ++ X := by
  have e : fitA p t qs = (qs.drop j).foldl (fitStep p t) (fitA p t (qs.take j)) := by
    unfold fitA
    rw [← List.foldl_append, List.take_append_drop]
  rw [e]
  exact fold_pre _ _
theorem off_len (qs : List Blk) : offB p t qs qs.length = (fitA p t qs).1.length := by
  unfold offB
  rw [List.take_length]
theorem off_le (qs : List Blk) (j : Nat) : offB p t qs j ≤ (fitA p t qs).1.length := by
  obtain ⟨X, hX⟩ := fitA_pre (p := p) (t := t) qs j
  rw [hX, List.length_append]
  exact Nat.le_add_right _ _
/-- the new begins -/
theorem gmB_mem : ∀ {bs : List (Int × Int)} {i v : Int}, (bs.map (·.1)).Nodup → (i, v) ∈ bs → gmB bs i = v
  | [], i, v, _, h => by cases h
  | q :: r, i, v, hn, h => by
    unfold gmB
    rw [List.map_cons, List.nodup_cons] at hn
    rcases List.mem_cons.mp h with h | h
    · rw [← h, if_pos rfl]
    · have : q.1 ≠ i := fun e => hn.1 (List.mem_map.mpr ⟨_, h, e.symm⟩)
      rw [if_neg this]
      exact gmB_mem hn.2 h
theorem begs_pre : ∀ (ys : List Blk) (a : FS) {x : Int × Int}, x ∈ a.2 → x ∈ (ys.foldl (fitStep p t) a).2
  | [], a, x, h => h
  | y :: ys, a, x, h => begs_pre ys _ (List.mem_append_left _ h)
theorem gm_off {qs : List Blk} (hn : (qs.map fun q => q.1.1).Nodup) {j : Nat} {q : Blk} (h : qs[j]? = some q) : gmB (fitA p t qs).2 q.1.1 = (offB p t qs j : Nat) := by
  refine gmB_mem (by rw [fitA_keys]; exact hn) ?_
  have e : fitA p t qs = (qs.drop (j + 1)).foldl (fitStep p t) (fitA p t (qs.take (j + 1))) := by
    unfold fitA
    rw [← List.foldl_append, List.take_append_drop]
  rw [e]
  refine begs_pre _ _ ?_
  rw [List.take_add_one, h]
  show _ ∈ (fitA p t (qs.take j ++ [q])).2
  rw [fitA_add]
  exact List.mem_append_right _ (List.mem_singleton.mpr rfl)
/-! told anew -/
theorem turn_goal {bs : List (Int × Int)} {r : Row} (h : r.goes = true) : goalR (turnR bs r) = (gmB bs r.goal).toNat := by
  cases r <;> first
    | (cases h; done)
    | rfl
theorem At.map {h : Nat} {rs : List Row} (a : At p h rs) (f : Row → Row) : At (p.map f) h (rs.map f) := fun i r hr => by
  rw [List.getElem?_map] at hr ⊢
  cases hx : rs[i]? with
  | none => rw [hx] at hr; cases hr
  | some x =>
    rw [hx] at hr
    rw [a i x hx]
    exact hr
theorem At.more {h : Nat} {rs : List Row} (a : At p h rs) (ys : List Row) : At (p ++ ys) h rs := fun i r hr => by
  have z := a i r hr
  rw [List.getElem?_append_left (List.getElem?_eq_some_iff.mp z).1]
  exact z
end
end LB

set_option Elab.async false
set_option linter.all false
set_option autoImplicit false
set_option maxRecDepth 100000
set_option maxHeartbeats 2000000
/-! Pure: a piece laid by starts that keep its ties does what the piece does. -/
namespace LB
open PySem
noncomputable section
/-- starts by which a piece may be laid, that keep the ties -/
structure Fits (c : List Row) (t : Mill) (s : List Int) : Prop where
  lay : LayOk c t s
  nd : s.Nodup
  tie : ∀ q, q ∈ tiesP c t → s.getD q.1 0 + q.2.2 ≤ s.getD q.2.1 0
theorem far_ge {r s : Row} {t : Mill} {f : Int} (h : f ∈ farL r s t) : ∃ F, maxL (farL r s t) = some F ∧ f ≤ F := by
  obtain ⟨F, hF⟩ := maxL_ex (xs := farL r s t) (List.length_pos_of_mem h)
  exact ⟨F, hF, maxL_ge hF f h⟩
theorem Fits.far {c : List Row} {t : Mill} {s : List Int} (h : Fits c t s) {i j : Nat} {r u : Row} (hij : i < j) (hr : c[i]? = some r) (hu : c[j]? = some u) {f : Int} (hf : f ∈ farL r u t) : s.getD i 0 + f ≤ s.getD j 0 := by
  obtain ⟨F, hF, hle⟩ := far_ge hf
  have z := h.tie (i, j, F) (mem_tiesP.mpr ⟨hij, r, u, hr, hu, hF⟩)
  have z : s.getD i 0 + F ≤ s.getD j 0 := z
  omega
theorem mem_one1 {b : Bool} {i : Int} (h : b = true) : i ∈ one1 b i := by
  unfold one1
  rw [if_pos h]
  exact List.mem_singleton.mpr rfl
theorem f1_mem {r u : Row} {t : Mill} {g : Int} (hr : r.into = some g) (hu : g ∈ u.looks) : ((r.late t : Int) + 1) ∈ farL r u t := by
  unfold farL far1
  refine List.mem_append_left _ (List.mem_append_left _ (List.mem_append_left _ (List.mem_append_left _ (mem_one1 ?_))))
  rw [hr]
  exact List.contains_iff_mem.mpr hu
theorem f2_mem {r u : Row} {t : Mill} {g : Int} (hr : r.into = some g) (hu : u.into = some g) : (if (r.late t : Int) - u.late t + 1 > 1 then (r.late t : Int) - u.late t + 1 else 1) ∈ farL r u t := by
  unfold farL far2
  refine List.mem_append_left _ (List.mem_append_left _ (List.mem_append_left _ (List.mem_append_right _ (mem_one1 ?_))))
  rw [hr, hu]
  exact decide_eq_true rfl
theorem f3_mem {r u : Row} {t : Mill} {g : Int} (hu : u.into = some g) (hr : g ∈ r.looks) : (1 : Int) ∈ farL r u t := by
  unfold farL far3
  refine List.mem_append_left _ (List.mem_append_left _ (List.mem_append_right _ (mem_one1 ?_)))
  rw [hu]
  exact List.contains_iff_mem.mpr hr
theorem f4_mem {r u : Row} {t : Mill} (h : (pairP r u || u.stops) = true) : (1 : Int) ∈ farL r u t := by
  unfold farL far4
  exact List.mem_append_left _ (List.mem_append_right _ (mem_one1 h))
theorem clash_tie {n : Int} {r u : Row} {t : Mill} (hr : r.okB n = true) (hu : u.okB n = true) (h : clash r u) : ∃ f : Int, 1 ≤ f ∧ f ∈ farL r u t := by
  have nat : ∀ {a b : Int}, in8 a → in8 b → a.toNat = b.toNat → a = b := fun ha hb e => by
    have := ha.1; have := hb.1; omega
  rcases h with ⟨g, h1, c, h2, h3⟩ | ⟨g, k, h1, h2, h3⟩ | ⟨g, h1, c, h2, h3⟩ | ⟨h1, h2⟩ | ⟨h1, h2⟩ | ⟨h1, h2⟩ | ⟨h1, h2⟩
  · have e := nat (looks8 hu c h2) (into_box hr h1) h3
    subst e
    exact ⟨_, by omega, f1_mem h1 h2⟩
  · have e := nat (into_box hr h1) (into_box hu h2) h3
    subst e
    exact ⟨_, by split <;> omega, f2_mem h1 h2⟩
  · have e := nat (looks8 hr c h2) (into_box hu h1) h3
    subst e
    exact ⟨_, by omega, f3_mem h1 h2⟩
  all_goals
    refine ⟨1, by omega, f4_mem ?_⟩
    cases r <;> first
      | (cases h1; done)
      | skip
    all_goals
      cases u <;> first
        | (cases h2; done)
        | rfl
theorem Fits.clash {n : Int} {c : List Row} {t : Mill} {s : List Int} (h : Fits c t s) (hc : ∀ r, r ∈ c → r.okB n = true) {i j : Nat} {r u : Row} (hij : i < j) (hr : c[i]? = some r) (hu : c[j]? = some u) (hcl : clash r u) : s.getD i 0 < s.getD j 0 := by
  obtain ⟨f, hf, hm⟩ := clash_tie (t := t) (hc r (List.mem_of_getElem? hr)) (hc u (List.mem_of_getElem? hu)) hcl
  have := h.far hij hr hu hm
  omega
/-! the laid list -/
theorem fold_miss {b : Nat} : ∀ (qs : List (Row × Int)) (L : List Row), (∀ q, q ∈ qs → q.2.toNat ≠ b) → (qs.foldl (fun L q => L.set q.2.toNat q.1) L)[b]? = L[b]?
  | [], L, _ => rfl
  | q :: qs, L, h => by
    rw [List.foldl_cons, fold_miss qs _ fun x hx => h x (List.mem_cons_of_mem _ hx), List.getElem?_set_ne (h q List.mem_cons_self)]
theorem fold_hit : ∀ (qs : List (Row × Int)) (L : List Row), (qs.map fun q => q.2.toNat).Nodup → ∀ q, q ∈ qs → q.2.toNat < L.length → (qs.foldl (fun L q => L.set q.2.toNat q.1) L)[q.2.toNat]? = some q.1
  | [], L, _, q, h, _ => by cases h
  | x :: qs, L, hn, q, h, hl => by
    rw [List.map_cons, List.nodup_cons] at hn
    rw [List.foldl_cons]
    rcases List.mem_cons.mp h with e | h
    · subst e
      rw [fold_miss qs _ fun y hy e => hn.1 (List.mem_map.mpr ⟨y, hy, e⟩), List.getElem?_set_self hl]
    · exact fold_hit qs _ hn.2 q h (by rw [List.length_set]; exact hl)
variable {c : List Row} {t : Mill} {s : List Int}
theorem Fits.nats (h : Fits c t s) : ((c.zip s).map fun q => q.2.toNat).Nodup := by
  have e : (c.zip s).map (fun q => q.2.toNat) = s.map Int.toNat := by
    have e1 : (c.zip s).map (fun q => q.2.toNat) = ((c.zip s).map (·.2)).map Int.toNat := by rw [List.map_map]; rfl
    rw [e1, List.map_snd_zip (by rw [h.lay.len]; exact Nat.le_refl _)]
  rw [e]
  have hn := h.lay.nn
  have hd := h.nd
  rw [List.nodup_iff_pairwise_ne, List.pairwise_map]
  refine (List.Pairwise.imp_of_mem (fun {a b} ha hb hab e => hab ?_)) hd
  have h1 := hn a ha
  have h2 := hn b hb
  omega
theorem Fits.hit (h : Fits c t s) {i : Nat} {r : Row} (hr : c[i]? = some r) : (layR c s (beatsP t c s).toNat)[(s.getD i 0).toNat]? = some r := by
  have hi := (List.getElem?_eq_some_iff.mp hr).1
  have hl := h.lay.len
  have hsm : s.getD i 0 ∈ s := getD_mem (by omega)
  have hm : (r, s.getD i 0) ∈ c.zip s := by
    refine List.mem_of_getElem? (i := i) ?_
    rw [List.getElem?_zip_eq_some]
    exact ⟨hr, by rw [List.getD_eq_getElem?_getD, List.getElem?_eq_getElem (by omega)]; rfl⟩
  have z := fold_hit (c.zip s) (List.replicate (beatsP t c s).toNat Row.rest) h.nats (r, s.getD i 0) hm (by
    rw [List.length_replicate]
    have h1 := h.lay.nn _ hsm
    have h2 := h.lay.lt _ hsm
    show (s.getD i 0).toNat < _
    omega)
  exact z
/-- a beat of none is a rest -/
theorem Fits.miss (h : Fits c t s) {b : Nat} (hb : b < (beatsP t c s).toNat) (hn : ∀ i, i < c.length → s.getD i 0 ≠ b) : (layR c s (beatsP t c s).toNat)[b]? = some .rest := by
  unfold layR
  rw [fold_miss _ _ fun q hq e => ?_]
  · rw [List.getElem?_replicate, if_pos hb]
  · obtain ⟨i, hi, he⟩ := List.getElem_of_mem hq
    have hl := h.lay.len
    rw [List.length_zip] at hi
    rw [List.getElem_zip] at he
    have h2 : s[i] = q.2 := by rw [← he]
    have h0 := h.lay.nn q.2 (List.of_mem_zip hq).2
    refine hn i (by omega) ?_
    rw [List.getD_eq_getElem?_getD, List.getElem?_eq_getElem (by omega)]
    show s[i] = _
    omega
end
end LB

set_option Elab.async false
set_option linter.all false
set_option autoImplicit false
set_option maxRecDepth 100000
set_option maxHeartbeats 2000000
/-! Pure: the laid rows do what the piece's do. -/
namespace LB
open PySem
noncomputable section
variable {c : List Row} {t : Mill} {s : List Int}
def pickB (c : List Row) (s : List Int) (b : Nat) : Option (Row × Int) := (c.zip s).find? fun q => decide (q.2 = (b : Int))
def rowB (c : List Row) (s : List Int) (b : Nat) : Row := match pickB c s b with
  | some q => q.1
  | none => .rest
theorem zip_at (hl : s.length = c.length) {q : Row × Int} (h : q ∈ c.zip s) : ∃ i, c[i]? = some q.1 ∧ s.getD i 0 = q.2 ∧ i < c.length := by
  obtain ⟨i, hi, he⟩ := List.getElem_of_mem h
  rw [List.length_zip] at hi
  rw [List.getElem_zip] at he
  refine ⟨i, ?_, ?_, by omega⟩
  · rw [List.getElem?_eq_getElem (by omega), ← he]
  · rw [List.getD_eq_getElem?_getD, List.getElem?_eq_getElem (by omega), ← he]
    rfl
theorem pick_some {b : Nat} {q : Row × Int} (h : pickB c s b = some q) : q ∈ c.zip s ∧ q.2 = b := by
  unfold pickB at h
  have h2 := List.find?_some h
  exact ⟨List.mem_of_find?_eq_some h, of_decide_eq_true h2⟩
theorem Fits.same (h : Fits c t s) {q u : Row × Int} (hq : q ∈ c.zip s) (hu : u ∈ c.zip s) (e : q.2 = u.2) : q = u := by
  obtain ⟨i, h1, h2, h3⟩ := zip_at h.lay.len hq
  obtain ⟨j, g1, g2, g3⟩ := zip_at h.lay.len hu
  have hl := h.lay.len
  have ei : i = j := by
    rw [List.getD_eq_getElem?_getD, List.getElem?_eq_getElem (by omega)] at h2 g2
    have h2 : s[i] = q.2 := h2
    have g2 : s[j] = u.2 := g2
    exact (List.getElem_inj h.nd).mp (by rw [h2, g2, e])
  subst ei
  rw [h1] at g1
  exact Prod.ext (Option.some.inj g1) e
theorem Fits.pick (h : Fits c t s) {q : Row × Int} (hq : q ∈ c.zip s) : pickB c s q.2.toNat = some q := by
  have h0 := h.lay.nn q.2 (List.of_mem_zip hq).2
  cases hp : pickB c s q.2.toNat with
  | none =>
    have := List.find?_eq_none.mp hp q hq
    rw [decide_eq_true (by omega)] at this
    exact (this rfl).elim
  | some u =>
    obtain ⟨h1, h2⟩ := pick_some hp
    rw [h.same h1 hq (by omega)]
theorem Fits.row (h : Fits c t s) : layR c s (beatsP t c s).toNat = (List.range (beatsP t c s).toNat).map (rowB c s) := by
  refine List.ext_getElem? fun b => ?_
  rw [List.getElem?_map]
  by_cases hb : b < (beatsP t c s).toNat
  · rw [List.getElem?_range hb]
    show _ = some (rowB c s b)
    unfold rowB
    cases hp : pickB c s b with
    | none =>
      refine h.miss hb fun i hi e => ?_
      have hl := h.lay.len
      have hm : (c[i], s[i]) ∈ c.zip s := List.mem_of_getElem? (i := i) (by rw [List.getElem?_zip_eq_some]; exact ⟨List.getElem?_eq_getElem hi, List.getElem?_eq_getElem (by omega)⟩)
      have := List.find?_eq_none.mp hp _ hm
      rw [List.getD_eq_getElem?_getD, List.getElem?_eq_getElem (by omega)] at e
      exact this (decide_eq_true e)
    | some q =>
      obtain ⟨h1, h2⟩ := pick_some hp
      obtain ⟨i, g1, g2, _⟩ := zip_at h.lay.len h1
      have z := h.hit g1
      rw [g2, h2, Int.toNat_natCast] at z
      exact z
  · rw [List.getElem?_eq_none (by rw [layR_len]; omega), List.getElem?_eq_none (by rw [List.length_range]; omega)]
    rfl
theorem exe_pick (f : Nat → Option (Row × Int)) : ∀ (bs : List Nat) (m : MS), exeL (bs.map fun b => match f b with
    | some q => q.1
    | none => .rest) m = exeL ((bs.filterMap f).map (·.1)) m
  | [], m => rfl
  | b :: bs, m => by
    rw [List.map_cons, exeL_cons, exe_pick f bs]
    cases hf : f b with
    | none => rw [List.filterMap_cons_none hf]; rfl
    | some q => rw [List.filterMap_cons_some hf]; rfl
theorem Fits.exe (h : Fits c t s) {n : Int} (hc : ∀ r, r ∈ c → r.okB n = true) (m : MS) : exeL (layR c s (beatsP t c s).toNat) m = exeL c m := by
  have hl := h.lay.len
  have e1 : exeL c m = exeL ((c.zip s).map (·.1)) m := by rw [List.map_fst_zip (by omega)]
  have e2 : exeL (layR c s (beatsP t c s).toNat) m = exeL (((List.range (beatsP t c s).toNat).filterMap (pickB c s)).map (·.1)) m := by
    rw [h.row]
    exact exe_pick (pickB c s) _ m
  rw [e1, e2]
  have srt : ((List.range (beatsP t c s).toNat).filterMap (pickB c s)).Pairwise fun a b => a.2 < b.2 := by
    rw [List.pairwise_filterMap]
    refine List.Pairwise.imp ?_ (List.pairwise_lt_range (n := (beatsP t c s).toNat))
    intro a b hab x hx y hy
    have h1 := (pick_some hx).2
    have h2 := (pick_some hy).2
    omega
  have nx : (c.zip s).Nodup := by
    have z := h.nats
    rw [List.nodup_iff_pairwise_ne, List.pairwise_map] at z
    rw [List.nodup_iff_pairwise_ne]
    exact z.imp fun hab e => hab (by rw [e])
  refine exe_perm (c.zip s) _ ((List.perm_ext_iff_of_nodup (srt.imp fun hab e => by rw [e] at hab; omega) nx).mpr fun q => ⟨fun hq => ?_, fun hq => ?_⟩) ?_ srt m
  · obtain ⟨b, _, hb⟩ := List.mem_filterMap.mp hq
    exact (pick_some hb).1
  · have h0 := h.lay.nn q.2 (List.of_mem_zip hq).2
    have h1 := h.lay.lt q.2 (List.of_mem_zip hq).2
    exact List.mem_filterMap.mpr ⟨q.2.toNat, List.mem_range.mpr (by omega), h.pick hq⟩
  · rw [List.pairwise_iff_getElem]
    intro i j hi hj hij hcl
    rw [List.length_zip] at hi hj
    rw [List.getElem_zip, List.getElem_zip] at hcl ⊢
    have z := h.clash hc hij (List.getElem?_eq_getElem (by omega)) (List.getElem?_eq_getElem (by omega)) hcl
    rw [List.getD_eq_getElem?_getD, List.getD_eq_getElem?_getD, List.getElem?_eq_getElem (by omega), List.getElem?_eq_getElem (by omega)] at z
    exact z
end
end LB

set_option Elab.async false
set_option linter.all false
set_option autoImplicit false
set_option maxRecDepth 100000
set_option maxHeartbeats 2000000
/-! Pure: the shape of a laid piece. -/
namespace LB
open PySem
noncomputable section
variable {c : List Row} {t : Mill} {s : List Int}
theorem exeL_bx {x : Int} : ∀ (rs : List Row) (m : MS), (∀ r, r ∈ rs → ∀ g, r.into = some g → x.toNat ≠ g.toNat) → (exeL rs m).bx x = m.bx x
  | [], m, _ => rfl
  | r :: rs, m, h => by
    rw [exeL_cons, exeL_bx rs _ fun y hy => h y (List.mem_cons_of_mem _ hy), exe_bx (h r List.mem_cons_self)]
structure EndShape (c T : List Row) (t : Mill) (c0 : List Row) (r : Row) (T0 T1 : List Row) : Prop where
  ce : c = c0 ++ [r]
  re : r.ends = true
  c0e : ∀ x, x ∈ c0 → x.ends = false
  te : T = T0 ++ r :: T1
  t0e : ∀ x, x ∈ T0 → x.ends = false
  t1e : ∀ x, x ∈ T1 → x.ends = false
  len : T1.length = r.tailR t
  went : ∀ m, wentM r (exeL T0 m) = wentM r (exeL c0 m)
/-- what stands at a beat -/
theorem Fits.what (h : Fits c t s) {b : Nat} {r : Row} (hr : (layR c s (beatsP t c s).toNat)[b]? = some r) : r = .rest ∨ ∃ i, c[i]? = some r ∧ s.getD i 0 = b ∧ i < c.length := by
  rw [h.row, List.getElem?_map] at hr
  by_cases hb : b < (beatsP t c s).toNat
  · rw [List.getElem?_range hb] at hr
    have hr : some (rowB c s b) = some r := hr
    rw [← Option.some.inj hr]
    unfold rowB
    cases hp : pickB c s b with
    | none => exact .inl rfl
    | some q =>
      obtain ⟨h1, h2⟩ := pick_some hp
      obtain ⟨i, g1, g2, g3⟩ := zip_at h.lay.len h1
      exact .inr ⟨i, g1, g2.trans h2, g3⟩
  · rw [List.getElem?_eq_none (by rw [List.length_range]; omega)] at hr
    cases hr
theorem Fits.shape (h : Fits c t s) (hE : EndsLast c) (h1 : 1 ≤ c.length) {n : Int} (hc : ∀ r, r ∈ c → r.okB n = true) :
    ((∀ r, r ∈ c → r.ends = false) ∧ ∀ r, r ∈ layR c s (beatsP t c s).toNat → r.ends = false) ∨ ∃ c0 r T0 T1, EndShape c (layR c s (beatsP t c s).toNat) t c0 r T0 T1 := by
  have hl := h.lay.len
  obtain ⟨r, hr⟩ := last_of h1
  obtain ⟨b, hb⟩ := last_of (xs := s) (by omega)
  have hrl : c[c.length - 1]? = some r := by rw [← List.getLast?_eq_getElem?]; exact hr
  have hbl : s.getD (c.length - 1) 0 = b := by
    rw [List.getLast?_eq_getElem?, hl] at hb
    rw [List.getD_eq_getElem?_getD, hb]
    rfl
  have hnl : ∀ i x, i + 1 < c.length → c[i]? = some x → x.ends = false := hE
  cases hre : r.ends with
  | false =>
    have hall : ∀ x, x ∈ c → x.ends = false := fun x hx => by
      obtain ⟨i, hi⟩ := List.getElem?_of_mem hx
      by_cases hil : i + 1 < c.length
      · exact hnl i x hil hi
      · have := (List.getElem?_eq_some_iff.mp hi).1
        have e : i = c.length - 1 := by omega
        rw [e, hrl] at hi
        rw [← Option.some.inj hi]
        exact hre
    refine .inl ⟨hall, fun x hx => ?_⟩
    obtain ⟨i, hi⟩ := List.getElem?_of_mem hx
    rcases h.what hi with rfl | ⟨k, hk, _, _⟩
    · rfl
    · exact hall x (List.mem_of_getElem? hk)
  | true =>
    have hsm : b ∈ s := List.mem_of_getLast? hb
    have b0 := h.lay.nn b hsm
    have hbt : beatsP t c s = b + r.tailR t + 1 := by rw [beatsP_end hr hb, if_pos hre]
    have hTr := h.hit hrl
    rw [hbl] at hTr
    have hoth : ∀ (i : Nat) x, (i : Int) ≠ b → (layR c s (beatsP t c s).toNat)[i]? = some x → x.ends = false ∧ (x = .rest ∨ ∃ k, k + 1 < c.length ∧ c[k]? = some x ∧ s.getD k 0 = i) := fun i x hib hx => by
      rcases h.what hx with rfl | ⟨k, hk, hs, hkl⟩
      · exact ⟨rfl, .inl rfl⟩
      · have hk2 : k + 1 < c.length := by
          rcases Nat.lt_or_ge (k + 1) c.length with h2 | h2
          · exact h2
          · have e : k = c.length - 1 := by omega
            rw [e, hbl] at hs
            exact (hib hs.symm).elim
        exact ⟨hnl k x hk2 hk, .inr ⟨k, hk2, hk, hs⟩⟩
    generalize hT : layR c s (beatsP t c s).toNat = T at *
    have hTl : T.length = (beatsP t c s).toNat := by rw [← hT, layR_len]
    have hbT := (List.getElem?_eq_some_iff.mp hTr).1
    have hce : c = c.dropLast ++ [r] := by
      rw [List.getLast?_eq_some_iff] at hr
      obtain ⟨q, rfl⟩ := hr
      rw [List.dropLast_concat]
    have hte : T = T.take b.toNat ++ r :: T.drop (b.toNat + 1) := by
      have e := List.drop_eq_getElem_cons hbT
      have e2 := (List.getElem?_eq_some_iff.mp hTr).2
      rw [e2] at e
      rw [← e, List.take_append_drop]
    have t0 : ∀ x, x ∈ T.take b.toNat → ∃ i : Nat, (i : Int) ≠ b ∧ T[i]? = some x := fun x hx => by
      obtain ⟨i, hi⟩ := List.getElem?_of_mem hx
      have hil := (List.getElem?_eq_some_iff.mp hi).1
      rw [List.length_take] at hil
      rw [List.getElem?_take_of_lt (by omega)] at hi
      exact ⟨i, by omega, hi⟩
    have t1 : ∀ x, x ∈ T.drop (b.toNat + 1) → ∃ i : Nat, b < (i : Int) ∧ T[i]? = some x := fun x hx => by
      obtain ⟨i, hi⟩ := List.getElem?_of_mem hx
      rw [List.getElem?_drop] at hi
      exact ⟨b.toNat + 1 + i, by omega, hi⟩
    refine .inr ⟨c.dropLast, r, T.take b.toNat, T.drop (b.toNat + 1), hce, hre, fun x hx => ?_, hte, fun x hx => ?_, fun x hx => ?_, ?_, fun m => ?_⟩
    · obtain ⟨i, hi⟩ := List.getElem?_of_mem hx
      have hil := (List.getElem?_eq_some_iff.mp hi).1
      rw [List.length_dropLast] at hil
      rw [List.getElem?_dropLast, if_pos (by omega)] at hi
      exact hnl i x (by omega) hi
    · obtain ⟨i, hib, hi⟩ := t0 x hx
      exact (hoth i x hib hi).1
    · obtain ⟨i, hib, hi⟩ := t1 x hx
      exact (hoth i x (by omega) hi).1
    · rw [List.length_drop, hTl, hbt]
      omega
    · have hex := h.exe hc m
      rw [hT] at hex
      cases r with
      | ifr x g =>
        have e1 : exeL T m = exeL (T.drop (b.toNat + 1)) (exeL (T.take b.toNat) m) := by
          have e : exeL T m = exeL (T.take b.toNat ++ Row.ifr x g :: T.drop (b.toNat + 1)) m := by rw [← hte]
          rw [e, exeL_app, exeL_cons]
          rfl
        have e2 : exeL c m = exeL c.dropLast m := by
          have e : exeL c m = exeL (c.dropLast ++ [Row.ifr x g]) m := by rw [← hce]
          rw [e, exeL_app]
          rfl
        have hx8 := looks8 (hc _ (List.mem_of_getElem? hrl)) x (by simp [Row.looks])
        have eb : (exeL (T.take b.toNat) m).bx x = (exeL c.dropLast m).bx x := by
          rw [← e2, ← hex, e1]
          refine (exeL_bx _ _ ?_).symm
          intro y hy g2 hg2 e
          obtain ⟨i, hib, hi⟩ := t1 y hy
          rcases (hoth i y (by omega) hi).2 with rfl | ⟨k, hk1, hk2, hk3⟩
          · cases hg2
          · have g8 := into_box (hc y (List.mem_of_getElem? hk2)) hg2
            have e3 : x = g2 := by have := hx8.1; have := g8.1; omega
            subst e3
            have z := h.far (show k < c.length - 1 by omega) hk2 hrl (f1_mem (t := t) hg2 (by simp [Row.looks]))
            rw [hk3, hbl] at z
            omega
        show (if (exeL (T.take b.toNat) m).bx x ≠ 0 then 1 else 0) = (if (exeL c.dropLast m).bx x ≠ 0 then 1 else 0)
        rw [eb]
      | go g => rfl
      | stop => rfl
      | _ => cases hre
end
end LB

set_option Elab.async false
set_option linter.all false
set_option autoImplicit false
set_option maxRecDepth 100000
set_option maxHeartbeats 2000000
/-! Pure: a fitted program, worths at once, goes as the plain one. -/
namespace LB
open PySem
noncomputable section
structure FitC (p : List Row) (t : Mill) (L : List Int) (qs : List Blk) : Prop where
  hp : ProgOk p
  hL : Begs p L
  fst : qs.map (·.1) = blkI L p.length
  fits : ∀ q, q ∈ qs → pieceOf p q.1 ≠ [] → Fits (pieceOf p q.1) t q.2
variable {p : List Row} {t : Mill} {L : List Int} {qs : List Blk}
def blkR (p : List Row) (q : Int × Int) : List Row := (p.drop q.1.toNat).take (q.2.toNat - q.1.toNat)
theorem FitC.keys (C : FitC p t L qs) : (qs.map fun q => q.1.1) = L := by
  have e : (qs.map fun q : Blk => q.1.1) = (qs.map (·.1)).map (·.1) := by rw [List.map_map]; rfl
  rw [e, C.fst, blkI_keys]
theorem FitC.len (C : FitC p t L qs) : qs.length = L.length := by
  have := congrArg List.length C.keys
  rwa [List.length_map] at this
theorem FitC.nd (C : FitC p t L qs) : (qs.map fun q => q.1.1).Nodup := by rw [C.keys]; exact C.hL.nd
theorem FitC.beg (C : FitC p t L qs) {j : Nat} {q : Blk} (h : qs[j]? = some q) : L[j]? = some q.1.1 := by
  rw [← C.keys, List.getElem?_map, h]
  rfl
theorem FitC.blk (C : FitC p t L qs) {j : Nat} {q : Blk} (h : qs[j]? = some q) : (blkI L p.length)[j]? = some q.1 := by
  rw [← C.fst, List.getElem?_map, h]
  rfl
theorem FitC.mem (C : FitC p t L qs) {j : Nat} {q : Blk} (h : qs[j]? = some q) : q.1 ∈ blkI L p.length := List.mem_of_getElem? (C.blk h)
/-- the end of a block is the next one's begin, or the program's end -/
theorem FitC.end_ (C : FitC p t L qs) {j : Nat} {q : Blk} (h : qs[j]? = some q) : q.1.1 < q.1.2 ∧ ((j + 1 = qs.length ∧ q.1.2 = p.length) ∨ ∃ q2, qs[j + 1]? = some q2 ∧ q2.1.1 = q.1.2 ∧ q.1.2 < p.length) := by
  have hb := C.blk h
  have hj := (List.getElem?_eq_some_iff.mp h).1
  have hbeg := C.beg h
  obtain ⟨hj1, hj2⟩ := List.getElem?_eq_some_iff.mp hbeg
  unfold blkI at hb
  rw [List.getElem?_zip_eq_some] at hb
  have e2 := hb.2
  by_cases hl : j + 1 < L.length
  · rw [List.getElem?_append_left (by rw [List.length_drop]; omega), List.getElem?_drop, Nat.add_comm] at e2
    obtain ⟨hn1, hn2⟩ := List.getElem?_eq_some_iff.mp e2
    have h1 := List.pairwise_iff_getElem.mp C.hL.rise j (j + 1) hj1 hn1 (Nat.lt_succ_self j)
    have h2 : L[j] ≠ L[j + 1] := fun e => by
      have := (List.getElem_inj C.hL.nd).mp e
      omega
    rw [hj2, hn2] at h1 h2
    refine ⟨by omega, .inr ⟨qs[j + 1]'(by rw [C.len]; omega), List.getElem?_eq_getElem _, ?_, ?_⟩⟩
    · have := C.beg (List.getElem?_eq_getElem (show j + 1 < qs.length by rw [C.len]; omega))
      rw [e2] at this
      exact (Option.some.inj this).symm
    · exact (begs_nn C.hp C.hL (List.mem_of_getElem? e2)).2
  · have hjl : j + 1 = L.length := by omega
    rw [List.getElem?_append_right (by rw [List.length_drop]; omega), List.length_drop] at e2
    have e0 : j - (L.length - 1) = 0 := by omega
    rw [e0] at e2
    have e3 : (p.length : Int) = q.1.2 := Option.some.inj e2
    have hlt := (begs_nn C.hp C.hL (List.mem_of_getElem? hbeg)).2
    exact ⟨by omega, .inl ⟨by rw [C.len]; exact hjl, e3.symm⟩⟩
theorem FitC.rows (C : FitC p t L qs) {j : Nat} {q : Blk} (h : qs[j]? = some q) : At p q.1.1.toNat (blkR p q.1) ∧ blkR p q.1 ≠ [] ∧ q.1.1.toNat + (blkR p q.1).length = q.1.2.toNat ∧ EndsLast (blkR p q.1) := by
  have hin := blkI_in C.hp C.hL (C.mem h)
  have hlt := (C.end_ h).1
  have hl : (blkR p q.1).length = q.1.2.toNat - q.1.1.toNat := by
    unfold blkR
    rw [List.length_take, List.length_drop]
    omega
  refine ⟨fun i r hr => ?_, fun e => ?_, by rw [hl]; omega, fun i r hi hr => ?_⟩
  · have hil := (List.getElem?_eq_some_iff.mp hr).1
    unfold blkR at hr
    rw [List.getElem?_take_of_lt (by omega), List.getElem?_drop] at hr
    exact hr
  · rw [e] at hl
    simp at hl
    omega
  · unfold blkR at hr
    rw [List.getElem?_take_of_lt (by omega), List.getElem?_drop] at hr
    exact blk_ends C.hp C.hL (C.mem h) (j := q.1.1.toNat + i) (by omega) (by omega) hr
/-- where a jump goes -/
theorem FitC.goal (C : FitC p t L qs) {r : Row} (hr : r ∈ (fitA p t qs).1) (hg : r.goes = true) : ∃ k q, qs[k]? = some q ∧ goalR r = q.1.1.toNat ∧ goalR r < p.length ∧ goalR (turnR (fitA p t qs).2 r) = offB p t qs k ∧ offB p t qs k < (fitEnd (fitA p t qs)).length := by
  have hrp : r ∈ p := by
    rcases fitA_mem qs hr with rfl | h
    · cases hg
    · exact h
  have hgl := goal_in C.hL C.hp hrp hg
  obtain ⟨k, hk⟩ := List.getElem?_of_mem hgl
  have hkl := (List.getElem?_eq_some_iff.mp hk).1
  have hq : qs[k]? = some (qs[k]'(by rw [C.len]; exact hkl)) := List.getElem?_eq_getElem _
  generalize qs[k]'(by rw [C.len]; exact hkl) = q at hq
  have hb := C.beg hq
  rw [hk] at hb
  have hb : r.goal = q.1.1 := Option.some.inj hb
  have hgr : goalR r = r.goal.toNat := by
    cases r <;> first
      | (cases hg; done)
      | rfl
  have hnn := begs_nn C.hp C.hL hgl
  have hoff := gm_off (p := p) (t := t) C.nd hq
  refine ⟨k, q, hq, by rw [hgr, hb], by omega, ?_, ?_⟩
  · rw [turn_goal hg, hb, hoff, Int.toNat_natCast]
  · have hle := off_le (p := p) (t := t) qs k
    have hl : (fitA p t qs).1.length ≤ (fitEnd (fitA p t qs)).length := by
      unfold fitEnd fitRows
      rw [List.length_map]
      split
      · rw [List.length_append]; exact Nat.le_add_right _ _
      · exact Nat.le_refl _
    rcases Nat.lt_or_ge (offB p t qs k) (fitA p t qs).1.length with h | h
    · omega
    · have e : offB p t qs k = (fitA p t qs).1.length := by omega
      have hin : ((fitA p t qs).1.length : Int) ∈ goalsA (fitA p t qs) := List.mem_map.mpr ⟨r, List.mem_filter.mpr ⟨hr, hg⟩, by rw [hb, hoff, e]⟩
      unfold fitEnd fitRows
      rw [if_pos (.inr hin), List.length_map, List.length_append, List.length_singleton, e]
      exact Nat.lt_succ_self _
end
end LB

set_option Elab.async false
set_option linter.all false
set_option autoImplicit false
set_option maxRecDepth 100000
set_option maxHeartbeats 2000000
/-! Pure: a fitted program tells the same. -/
namespace LB
open PySem
noncomputable section
variable {p : List Row} {t : Mill} {L : List Int} {qs : List Blk}
end
end LB

set_option Elab.async false
set_option linter.all false
set_option autoImplicit false
set_option maxRecDepth 100000
set_option maxHeartbeats 2000000
/-! Pure: a fitted program is a program. -/
namespace LB
open PySem
noncomputable section
variable {p : List Row} {t : Mill} {L : List Int} {qs : List Blk}
def cntR (p : List Row) (b : Int) : Nat := ((p.take b.toNat).filter Row.notRest).length
/-- how far the blocks reach -/
theorem FitC.reach (C : FitC p t L qs) (hb : ∀ q, q ∈ qs → pieceOf p q.1 ≠ [] → beatsP t (pieceOf p q.1) q.2 ≤ 5 * (pieceOf p q.1).length) : ∀ (j : Nat) (q : Blk), qs[j]? = some q → offB p t qs j ≤ 5 * cntR p q.1.1 ∧ offB p t qs (j + 1) ≤ 5 * cntR p q.1.2 := by
  have step : ∀ (j : Nat) (q : Blk), qs[j]? = some q → offB p t qs j ≤ 5 * cntR p q.1.1 → offB p t qs (j + 1) ≤ 5 * cntR p q.1.2 := fun j q hq h => by
    have hin := blkI_in C.hp C.hL (C.mem hq)
    have hlt := (C.end_ hq).1
    have e : p.take q.1.2.toNat = p.take q.1.1.toNat ++ blkR p q.1 := by
      unfold blkR
      have e2 : q.1.2.toNat = q.1.1.toNat + (q.1.2.toNat - q.1.1.toNat) := by omega
      conv => lhs; rw [e2]
      rw [List.take_add]
    have hc : cntR p q.1.2 = cntR p q.1.1 + (pieceOf p q.1).length := by
      unfold cntR
      rw [e, List.filter_append, List.length_append]
      rfl
    have hT : (tilB p t q).length ≤ 5 * (pieceOf p q.1).length := by
      unfold tilB laidP
      split
      · exact Nat.zero_le _
      · rename_i hne
        rw [layR_len]
        have := hb q (List.mem_of_getElem? hq) hne
        omega
    rw [off_succ hq, hc]
    omega
  intro j
  induction j with
  | zero =>
    intro q hq
    have h0 : offB p t qs 0 ≤ 5 * cntR p q.1.1 := by
      have : offB p t qs 0 = 0 := rfl
      omega
    exact ⟨h0, step 0 q hq h0⟩
  | succ j ih =>
    intro q hq
    have hj := (List.getElem?_eq_some_iff.mp hq).1
    have hq0 : qs[j]? = some qs[j] := List.getElem?_eq_getElem (by omega)
    have h1 := (ih _ hq0).2
    rcases (C.end_ hq0).2 with ⟨h2, _⟩ | ⟨q2, h2, h3, _⟩
    · omega
    · rw [hq] at h2
      rw [← Option.some.inj h2] at h3
      rw [← h3] at h1
      exact ⟨h1, step (j + 1) q hq h1⟩
theorem cntR_le (p : List Row) (b : Int) : cntR p b ≤ b.toNat := by
  unfold cntR
  refine Nat.le_trans (List.length_filter_le _ _) ?_
  rw [List.length_take]
  exact Nat.min_le_left _ _
theorem FitC.most (C : FitC p t L qs) (hb : ∀ q, q ∈ qs → pieceOf p q.1 ≠ [] → beatsP t (pieceOf p q.1) q.2 ≤ 5 * (pieceOf p q.1).length) (h40 : p.length ≤ 40) : (fitEnd (fitA p t qs)).length ≤ 200 := by
  have hR := C.reach hb
  have hall : (fitA p t qs).1.length ≤ 200 := by
    rw [← off_len]
    cases hq : qs[qs.length - 1]? with
    | none =>
      have := List.getElem?_eq_none_iff.mp hq
      have e : qs.length = 0 := by omega
      rw [e]
      show 0 ≤ 200
      omega
    | some q =>
      have h1 := (List.getElem?_eq_some_iff.mp hq).1
      have h2 := (hR _ q hq).2
      have h3 := cntR_le p q.1.2
      have h4 := blkI_in C.hp C.hL (C.mem hq)
      have e : qs.length - 1 + 1 = qs.length := by omega
      rw [e] at h2
      omega
  unfold fitEnd fitRows
  rw [List.length_map]
  split
  · rename_i h
    rw [List.length_append, List.length_singleton]
    rcases h with h | h
    · rw [h]
      decide
    · obtain ⟨r, hr, he⟩ := List.mem_map.mp h
      obtain ⟨hrm, hg⟩ := List.mem_filter.mp hr
      obtain ⟨k, q, hq, g1, g2, g3, g4⟩ := C.goal hrm hg
      have h2 := (hR _ q hq).1
      have h3 := cntR_le p q.1.1
      have h5 := blkI_in C.hp C.hL (C.mem hq)
      have hlt := (begs_nn C.hp C.hL h5.1).2
      rw [turn_goal hg, he] at g3
      omega
  · exact hall
theorem okB_any {n k : Int} {r : Row} (h : r.okB n = true) (hg : r.goes = false) : r.okB k = true := by
  cases r <;> first
    | (cases hg; done)
    | exact h
theorem FitC.prog (C : FitC p t L qs) (hb : ∀ q, q ∈ qs → pieceOf p q.1 ≠ [] → beatsP t (pieceOf p q.1) q.2 ≤ 5 * (pieceOf p q.1).length) (h40 : p.length ≤ 40) : ProgOk (fitEnd (fitA p t qs)) := by
  refine ⟨?_, C.most hb h40, fun r hr => ?_⟩
  · unfold fitEnd fitRows
    rw [List.length_map]
    split
    · rw [List.length_append]
      exact Nat.le_add_left _ _
    · rename_i h
      refine List.length_pos_iff.mpr fun e => h (.inl e)
  · unfold fitEnd at hr
    obtain ⟨r0, h0, rfl⟩ := List.mem_map.mp hr
    have hr0 : r0 = .rest ∨ r0 ∈ (fitA p t qs).1 := by
      unfold fitRows at h0
      split at h0
      · rcases List.mem_append.mp h0 with h | h
        · exact .inr h
        · exact .inl (List.mem_singleton.mp h)
      · exact .inr h0
    rcases hr0 with rfl | hm
    · rfl
    · have hp2 : r0 = .rest ∨ r0 ∈ p := fitA_mem qs hm
      rcases hp2 with rfl | hp2
      · rfl
      have ho := C.hp.rows r0 hp2
      cases hg : r0.goes with
      | false =>
        rw [turn_no hg]
        exact okB_any ho hg
      | true =>
        obtain ⟨k, q, hq, g1, g2, g3, g4⟩ := C.goal hm hg
        have hoff := gm_off (p := p) (t := t) C.nd hq
        have hge : gmB (fitA p t qs).2 r0.goal = (offB p t qs k : Nat) := by
          have hgl := C.beg hq
          have e : r0.goal = q.1.1 := by
            have h1 : goalR r0 = r0.goal.toNat := by
              cases r0 <;> first
                | (cases hg; done)
                | rfl
            have h2 := begs_nn C.hp C.hL (goal_in C.hL C.hp hp2 hg)
            have h3 := begs_nn C.hp C.hL (List.mem_of_getElem? hgl)
            omega
          rw [e, hoff]
        cases r0 <;> first
          | (cases hg; done)
          | skip
        · rename_i g
          have hge : gmB (fitA p t qs).2 g = (offB p t qs k : Nat) := hge
          show (Row.go (gmB (fitA p t qs).2 g)).okB _ = true
          rw [hge]
          simp [Row.okB, Row.parts, Row.sorts, LB.most]
          omega
        · rename_i x g
          have hge : gmB (fitA p t qs).2 g = (offB p t qs k : Nat) := hge
          show (Row.ifr x (gmB (fitA p t qs).2 g)).okB _ = true
          rw [hge]
          simp [Row.okB, Row.parts, Row.sorts, LB.most] at ho ⊢
          omega
end
end LB

set_option Elab.async false
set_option linter.all false
set_option autoImplicit false
set_option maxRecDepth 100000
set_option maxHeartbeats 2000000
/-! Pure: what a look meets in a fitted program. -/
namespace LB
open PySem
noncomputable section
variable {c : List Row} {t : Mill} {s : List Int}
structure WsI (c : List Row) (t : Mill) (s : List Int) (b : Nat) (ws : List Nat) : Prop where
  len : ws.length = 8
  up : ∀ (i : Nat) r g, c[i]? = some r → s.getD i 0 < (b : Int) → r.into = some g → s.getD i 0 + r.late t + 1 ≤ (b : Int) + wN ws g.toNat
  ex : ∀ x, x < 8 → wN ws x = 0 ∨ ∃ (i : Nat) (r : Row) (g : Int), c[i]? = some r ∧ s.getD i 0 < (b : Int) ∧ r.into = some g ∧ g.toNat = x ∧ s.getD i 0 + r.late t + 1 = (b : Int) + wN ws x
theorem WsI.zero (h : Fits c t s) {ws : List Nat} (hl : ws.length = 8) (hz : ∀ x, x < 8 → wN ws x = 0) : WsI c t s 0 ws := by
  refine ⟨hl, fun i r g hi hs hg => ?_, fun x hx => .inl (hz x hx)⟩
  have hil := (List.getElem?_eq_some_iff.mp hi).1
  have := h.lay.nn (s.getD i 0) (getD_mem (by rw [h.lay.len]; exact hil))
  omega
/-- a beat of none -/
theorem WsI.rest {b : Nat} {ws : List Nat} (h : WsI c t s b ws) (hno : ∀ (i : Nat) r, c[i]? = some r → s.getD i 0 ≠ b) : WsI c t s (b + 1) (ws.map fun w => w - 1) := by
  refine ⟨by rw [List.length_map]; exact h.len, fun i r g hi hs hg => ?_, fun x hx => ?_⟩
  · have h1 := hno i r hi
    have h2 := h.up i r g hi (by omega) hg
    rw [map_wN]
    omega
  · rw [map_wN]
    rcases h.ex x hx with h0 | ⟨i, r, g, hi, hs, hg, hgx, he⟩
    · left; omega
    · by_cases hw : wN ws x = 0
      · left; omega
      · exact .inr ⟨i, r, g, hi, by omega, hg, hgx, by omega⟩
/-- a row that writes nothing -/
theorem WsI.none (hF : Fits c t s) {b : Nat} {ws : List Nat} (h : WsI c t s b ws) {k : Nat} {u : Row} (hk : c[k]? = some u) (hs : s.getD k 0 = b) (hu : u.into = none) : WsI c t s (b + 1) (ws.map fun w => w - 1) := by
  have same : ∀ (i : Nat) r, c[i]? = some r → s.getD i 0 = b → i = k := fun i r hi he => by
    have hl := hF.lay.len
    have h1 := (List.getElem?_eq_some_iff.mp hi).1
    have h2 := (List.getElem?_eq_some_iff.mp hk).1
    rw [List.getD_eq_getElem?_getD, List.getElem?_eq_getElem (by omega)] at he hs
    exact (List.getElem_inj hF.nd).mp (show s[i] = s[k] from he.trans hs.symm)
  refine ⟨by rw [List.length_map]; exact h.len, fun i r g hi hs2 hg => ?_, fun x hx => ?_⟩
  · by_cases he : s.getD i 0 = b
    · have := same i r hi he
      subst this
      rw [hk] at hi
      rw [← Option.some.inj hi, hu] at hg
      cases hg
    · have h2 := h.up i r g hi (by omega) hg
      rw [map_wN]
      omega
  · rw [map_wN]
    rcases h.ex x hx with h0 | ⟨i, r, g, hi, hs2, hg, hgx, he⟩
    · left; omega
    · by_cases hw : wN ws x = 0
      · left; omega
      · exact .inr ⟨i, r, g, hi, by omega, hg, hgx, by omega⟩
theorem Fits.idx (hF : Fits c t s) {i k : Nat} {r u : Row} (hi : c[i]? = some r) (hk : c[k]? = some u) (e : s.getD i 0 = s.getD k 0) : i = k := by
  have hl := hF.lay.len
  have h1 := (List.getElem?_eq_some_iff.mp hi).1
  have h2 := (List.getElem?_eq_some_iff.mp hk).1
  rw [List.getD_eq_getElem?_getD, List.getD_eq_getElem?_getD, List.getElem?_eq_getElem (by omega), List.getElem?_eq_getElem (by omega)] at e
  exact (List.getElem_inj hF.nd).mp e
/-- writers of one box, the later issued one in order -/
theorem Fits.over (hF : Fits c t s) {i k : Nat} {r u : Row} {g : Int} (hi : c[i]? = some r) (hk : c[k]? = some u) (hr : r.into = some g) (hu : u.into = some g) (hlt : s.getD i 0 < s.getD k 0) : s.getD i 0 + r.late t + 1 ≤ s.getD k 0 + u.late t := by
  rcases Nat.lt_trichotomy i k with h | h | h
  · have z := hF.far h hi hk (f2_mem (t := t) hr hu)
    split at z <;> omega
  · subst h
    omega
  · have z := hF.far h hk hi (f2_mem (t := t) hu hr)
    split at z <;> omega
/-- a row that writes -/
theorem WsI.put (hF : Fits c t s) {n : Int} (hc : ∀ r, r ∈ c → r.okB n = true) {b : Nat} {ws : List Nat} (h : WsI c t s b ws) {k : Nat} {u : Row} {g : Int} (hk : c[k]? = some u) (hs : s.getD k 0 = b) (hu : u.into = some g) : WsI c t s (b + 1) ((ws.map fun w => w - 1).set g.toNat (u.late t)) := by
  have g8 := into_box (hc u (List.mem_of_getElem? hk)) hu
  have hg8 : g.toNat < 8 := by have := g8.1; have := g8.2; omega
  have hl8 : (ws.map fun w => w - 1).length = 8 := by rw [List.length_map]; exact h.len
  refine ⟨by rw [List.length_set]; exact hl8, fun i r g2 hi hs2 hg => ?_, fun x hx => ?_⟩
  · have g28 := into_box (hc r (List.mem_of_getElem? hi)) hg
    by_cases he : g2.toNat = g.toNat
    · have e : g2 = g := by have := g8.1; have := g28.1; omega
      subst e
      rw [set_weq (by rw [hl8]; exact hg8)]
      by_cases hik : s.getD i 0 = s.getD k 0
      · have := hF.idx hi hk hik
        subst this
        rw [hk] at hi
        rw [← Option.some.inj hi]
        omega
      · have z := hF.over hi hk hg hu (by omega)
        omega
    · rw [set_wne (fun e => he e.symm), map_wN]
      have hik : s.getD i 0 ≠ b := fun e => by
        have := hF.idx hi hk (by omega)
        subst this
        rw [hk] at hi
        rw [← Option.some.inj hi, hu] at hg
        exact he (by rw [Option.some.inj hg])
      have h2 := h.up i r g2 hi (by omega) hg
      omega
  · by_cases he : x = g.toNat
    · subst he
      rw [set_weq (by rw [hl8]; exact hg8)]
      exact .inr ⟨k, u, g, hk, by omega, hu, rfl, by omega⟩
    · rw [set_wne (fun e => he e.symm), map_wN]
      rcases h.ex x hx with h0 | ⟨i, r, g2, hi, hs2, hg, hgx, he2⟩
      · left; omega
      · by_cases hw : wN ws x = 0
        · left; omega
        · exact .inr ⟨i, r, g2, hi, by omega, hg, hgx, by omega⟩
/-- what a row looks at is there -/
theorem WsI.looks (hF : Fits c t s) {n : Int} (hc : ∀ r, r ∈ c → r.okB n = true) {b : Nat} {ws : List Nat} (h : WsI c t s b ws) {k : Nat} {u : Row} (hk : c[k]? = some u) (hs : s.getD k 0 = b) {x : Int} (hx : x ∈ u.looks) : wN ws x.toNat = 0 := by
  have x8 := looks8 (hc u (List.mem_of_getElem? hk)) x hx
  rcases h.ex x.toNat (by have := x8.1; have := x8.2; omega) with h0 | ⟨i, r, g, hi, hs2, hg, hgx, he⟩
  · exact h0
  · have g8 := into_box (hc r (List.mem_of_getElem? hi)) hg
    have e : g = x := by have := g8.1; have := x8.1; omega
    subst e
    rcases Nat.lt_trichotomy i k with hik | hik | hik
    · have z := hF.far hik hi hk (f1_mem (t := t) hg hx)
      omega
    · subst hik
      omega
    · have z := hF.far hik hk hi (f3_mem (t := t) hg hx)
      omega
theorem WsI.over (hF : Fits c t s) {n : Int} (hc : ∀ r, r ∈ c → r.okB n = true) {b : Nat} {ws : List Nat} (h : WsI c t s b ws) {k : Nat} {u : Row} {g : Int} (hk : c[k]? = some u) (hs : s.getD k 0 = b) (hu : u.into = some g) : wN ws g.toNat ≤ u.late t := by
  have g8 := into_box (hc u (List.mem_of_getElem? hk)) hu
  rcases h.ex g.toNat (by have := g8.1; have := g8.2; omega) with h0 | ⟨i, r, g2, hi, hs2, hg, hgx, he⟩
  · omega
  · have g28 := into_box (hc r (List.mem_of_getElem? hi)) hg
    have e : g2 = g := by have := g8.1; have := g28.1; omega
    subst e
    have z := hF.over hi hk hg hu (by omega)
    omega
end
end LB

set_option Elab.async false
set_option linter.all false
set_option autoImplicit false
set_option maxRecDepth 100000
set_option maxHeartbeats 2000000
/-! Pure: the states of a look at a fitted program. -/
namespace LB
open PySem
noncomputable section
variable {p : List Row} {t : Mill} {L : List Int} {qs : List Blk}
/-- the row at a beat -/
structure BeatR (p : List Row) (t : Mill) (qs : List Blk) (j : Nat) (q : Blk) (b : Nat) (r : Row) : Prop where
  F : Fits (pieceOf p q.1) t q.2
  ne : 1 ≤ (pieceOf p q.1).length
  row : (tilB p t q)[b]? = some r
  len : (tilB p t q).length = (beatsP t (pieceOf p q.1) q.2).toNat
  what : (r = .rest ∧ ∀ (i : Nat) x, (pieceOf p q.1)[i]? = some x → q.2.getD i 0 ≠ b) ∨ ∃ i : Nat, (pieceOf p q.1)[i]? = some r ∧ q.2.getD i 0 = (b : Int)
theorem FitC.beat (C : FitC p t L qs) {j : Nat} {q : Blk} {b : Nat} (hq : qs[j]? = some q) (hb : b < (tilB p t q).length) : ∃ r, BeatR p t qs j q b r := by
  have hc : pieceOf p q.1 ≠ [] := fun e => by
    have : tilB p t q = [] := by unfold tilB laidP; rw [if_pos e]
    rw [this] at hb
    exact absurd hb (Nat.not_lt_zero _)
  have F := C.fits q (List.mem_of_getElem? hq) hc
  have hT : tilB p t q = layR (pieceOf p q.1) q.2 (beatsP t (pieceOf p q.1) q.2).toNat := by unfold tilB laidP; rw [if_neg hc]
  have hl : (tilB p t q).length = (beatsP t (pieceOf p q.1) q.2).toNat := by rw [hT, layR_len]
  have hr : (tilB p t q)[b]? = some (tilB p t q)[b] := List.getElem?_eq_getElem hb
  by_cases h : ∃ i : Nat, i < (pieceOf p q.1).length ∧ q.2.getD i 0 = (b : Int)
  · obtain ⟨i, hi, he⟩ := h
    have z := F.hit (List.getElem?_eq_getElem hi)
    rw [he, Int.toNat_natCast, ← hT] at z
    exact ⟨_, F, List.length_pos_iff.mpr hc, z, hl, .inr ⟨i, List.getElem?_eq_getElem hi, he⟩⟩
  · have hno : ∀ i, i < (pieceOf p q.1).length → q.2.getD i 0 ≠ (b : Int) := fun i hi e => h ⟨i, hi, e⟩
    have z := F.miss (by rw [← hl]; exact hb) hno
    rw [← hT] at z
    exact ⟨.rest, F, List.length_pos_iff.mpr hc, z, hl, .inl ⟨rfl, fun i x hx => hno i (List.getElem?_eq_some_iff.mp hx).1⟩⟩
/-- an end stands at the last start -/
theorem BeatR.end_ {j : Nat} {q : Blk} {b : Nat} {r : Row} (B : BeatR p t qs j q b r) (hE : EndsLast (pieceOf p q.1)) (hr : r.ends = true) : (pieceOf p q.1).getLast? = some r ∧ q.2.getD ((pieceOf p q.1).length - 1) 0 = (b : Int) := by
  rcases B.what with ⟨rfl, _⟩ | ⟨i, hi, hs⟩
  · cases hr
  · have hil := (List.getElem?_eq_some_iff.mp hi).1
    have e : i = (pieceOf p q.1).length - 1 := by
      rcases Nat.lt_or_ge (i + 1) (pieceOf p q.1).length with h | h
      · rw [hE i r h hi] at hr
        cases hr
      · omega
    subst e
    exact ⟨by rw [List.getLast?_eq_getElem?]; exact hi, hs⟩
end
end LB

set_option Elab.async false
set_option linter.all false
set_option autoImplicit false
set_option maxRecDepth 100000
set_option maxHeartbeats 2000000
/-! Pure: the states of a look at a fitted program are closed. -/
namespace LB
open PySem
noncomputable section
variable {p : List Row} {t : Mill} {L : List Int} {qs : List Blk}
end
end LB

set_option Elab.async false
set_option linter.all false
set_option autoImplicit false
set_option maxRecDepth 100000
set_option maxHeartbeats 2000000
/-! Pure: a fitted program is never found to break, and tells the same. -/
namespace LB
open PySem
noncomputable section
variable {p : List Row} {t : Mill} {L : List Int} {qs : List Blk}
theorem FitC.first (C : FitC p t L qs) : ∃ q, qs[0]? = some q ∧ q.1.1.toNat = 0 := by
  have h0 : (0 : Int) ∈ L := (C.hL.mem 0).mpr ⟨.inl rfl, by have := C.hp.one; omega⟩
  obtain ⟨k, hk⟩ := List.getElem?_of_mem h0
  obtain ⟨hk1, hk2⟩ := List.getElem?_eq_some_iff.mp hk
  have hl : 0 < qs.length := by rw [C.len]; omega
  have hq : qs[0]? = some qs[0] := List.getElem?_eq_getElem hl
  have hb := C.beg hq
  obtain ⟨hb1, hb2⟩ := List.getElem?_eq_some_iff.mp hb
  refine ⟨qs[0], hq, ?_⟩
  by_cases e : k = 0
  · subst e
    rw [← hb2, hk2]
    rfl
  · have := List.pairwise_iff_getElem.mp C.hL.rise 0 k hb1 hk1 (by omega)
    rw [hk2, hb2] at this
    omega
end
end LB

set_option Elab.async false
set_option linter.all false
set_option autoImplicit false
set_option maxRecDepth 100000
set_option maxHeartbeats 4000000
/-! Pure: the law's own fitting, block by block. -/
namespace LB
open PySem
noncomputable section
local macro_rules | `(tactic| simp_arith [$as,*]) => `(tactic| simp -implicitDefEqProofs (disch := first | assumption | decide | omega | (simp only [List.length_cons, List.length_nil, Mem.put_n, Mem.new_n, Mem.kill_n]; omega)) only [↓KO_some, ↓K_vr, ↓kVr_0, ↓kVr_s, ↓K_cn, ↓K_pure, ↓K_op2, ↓kOp2a_at, ↓kOp2b_at, ↓K_op1, ↓kOp1_at, ↓K_argN, ↓K_argC, ↓kArg1_at, ↓kArg2_at, ↓K_opN, ↓kOpN_at, ↓K_call, ↓kCall_1, ↓kCall_2, ↓kCall_3, ↓kCall_4, ↓kCall_5, ↓K_tpl, ↓K_lsl, ↓K_lsm, ↓K_dctE, ↓kTpl_0, ↓kTpl_1, ↓kTpl_2, ↓kTpl_3, ↓kTpl_4, ↓kTpl_5, ↓kLsl_0, ↓kLsl_1, ↓kLsl_2, ↓kLsl_3, ↓kLsl_4, ↓kLsm_0, ↓K_tV, ↓kTV_at, ↓K_tAnd, ↓kTAnd_t, ↓kTAnd_f, ↓K_tOr, ↓kTOr_t, ↓kTOr_f, ↓K_tNot, ↓kTNot_t, ↓kTNot_f, ↓kTNot_at, ↓K_tYes, ↓K_vAnd, ↓kVAnd_t, ↓kVAnd_f, ↓K_vOr, ↓kVOr_t, ↓kVOr_f, ↓K_vNot, ↓kVNot_at, ↓K_ifE, ↓kIfE_t, ↓kIfE_f, ↓K_chn, ↓kChn0_at, ↓kChn1_at, ↓kChn2_t, ↓kChn2_f, ↓K_soN, ↓K_soS, ↓kSoS_at, ↓K_slc, ↓kSlc0_at, ↓kSlc1_at, ↓kSlc2_at, ↓KSl_tup, ↓KSl_lst, ↓K_sNext, ↓K_sSeq, ↓kSeq_nx, ↓kSeq_rt, ↓K_sRet, ↓kRet_at, ↓K_sRetN, ↓K_sExp, ↓kExp_at, ↓K_sIf, ↓kIf_t, ↓kIf_f, ↓kSet_0, ↓kSet_s, ↓kUn_c, ↓kUn_n, ↓K_sAsg, ↓kAsg_nm, ↓kAsg_tp, ↓kNms_c, ↓kNmsC_at, ↓kNms_n, ↓K_sPar, ↓kPar1_at, ↓kPar2_at, ↓K_run, ↓kRun_rt, ↓kRun_nx, ↓K2_add_i, ↓K2_sub_i, ↓K2_mul_i, ↓K2_mod_i, ↓K2_fdiv_i, ↓K2_lt_i, ↓K2_le_i, ↓K2_gt_i, ↓K2_ge_i, ↓K2_eq_i, ↓K2_ne_i, ↓K2_eq_st, ↓K2_eq_sf, ↓K2_ne_st, ↓K2_ne_sf, ↓K2_eq_b, ↓K2_add_t, ↓K2_add_l, ↓K1_neg_i, ↓K2_isN_n, ↓K2_isN_i, ↓K2_isN_s, ↓K2_isN_t, ↓K2_isN_l, ↓K2_isN_c, ↓K2_notN_n, ↓K2_notN_i, ↓K2_notN_s, ↓K2_notN_t, ↓K2_notN_l, ↓K2_notN_c, ↓K2_ix_t, ↓K2_ix_l, ↓KIx_0, ↓KIx_1, ↓KIx_2, ↓KIx_3, ↓KIx_4, ↓KIx_m1a, ↓KIx_m1b, ↓KIx_m1c, ↓KIx_m1d, ↓KN_len_t, ↓KN_len_l, ↓KN_max2, ↓KN_min2, ↓KN_int_i, ↓KN_int_t, ↓KN_int_f, ↓KN_tuple_l, ↓KN_tuple_t, ↓KN_maxl, ↓KN_suml, ↓K1_isi_n, ↓K1_isi_b, ↓K1_isi_i, ↓K1_isi_s, ↓K1_isi_t, ↓K1_isi_l, ↓KG_put_eq, ↓KG_put_ne, ↓KG_new_eq, ↓KG_new_ne, ↓KG_kill_ne, ↓K2_ix_c, ↓kIxL_at, ↓KN_len_c, ↓kLenL_l, ↓kLenL_d, ↓KN_tuple_c, ↓kTupL_at, ↓KN_max_c, ↓kMaxL_at, ↓KSl_c, ↓kSlL_at, ↓K_appE, ↓kApp1_at, ↓kApp1b_at, ↓kApp2_at, ↓kApp3_at, ↓K_sLput, ↓kPut1_at, ↓kPut2_at, ↓kPut3_at, ↓kPut4_at, ↓K2_dget_i, ↓K2_dget_s, ↓kDgD_at, ↓KVk_eq, ↓KVk_ne, ↓KVd_eq, ↓KVd_ne, ↓KVd_n, ↓K_dget2, ↓kDg1_at, ↓kDg1b_at, ↓kDg2_at, ↓kDg3_at, ↓kDg4_i, ↓kDg4_s, ↓K_sDput, ↓kDp1_at, ↓kDp2_at, ↓kDp3_i, ↓kDp3_s, ↓kDp4_at, ↓K1_fld, ↓kFldO_at, ↓KFl_eq, ↓KFl_ne, ↓K_sFput, ↓kFp1_at, ↓kFp2_at, ↓kFp3_at, ↓kPf_n, ↓kPf_eq, ↓kPu_c, ↓kPu_n, ↓kPf_ne, ↓K_callM, ↓kMt1_at, ↓kMt2_at, ↓kNo_n, ↓kNo_c, ↓kMt3_0, ↓kMt3_1, ↓kMt3_2, ↓kMt3_3, ↓kMt3_4, ↓K_mkE, ↓kMk_1, ↓kMk_2, ↓kMk_3, ↓kMk2_at, ↓K_sFor, ↓kFor_at, ↓K_itRng1, ↓kRng1_nat, ↓K_itRng2, ↓kRng2_at, ↓K_itSeq, ↓kSeqI_t, ↓kSeqI_l, ↓kSeqI_c, ↓kSeqL_at, ↓K_bodyG_nm, ↓K_bodyG_tp, ↓K_sWhile, ↓kComp_at, ↓K_comp, ↓K_compM, ↓kLst_at, ↓kLstM_at, ↓kEx_at, ↓K_exG_nm, ↓K_exG_tp, ↓kAlc_at, ↓K_opNM, ↓kOpNM_at, ↓KN_list_l2, ↓KN_list_t2, ↓KN_list_c, ↓kListL_at, ↓K_op2M, ↓kOp2Ma_at, ↓kOp2Mb_at, ↓K2_rep1, ↓K_prE_n, ↓K_prE_c, ↓kPr1_at, ↓kPr2_at, ↓kPr3_at, ↓K_dspE, ↓kDsp_s1, ↓kDsp_s2, ↓kDsp_s3, ↓kDsp_s4, ↓K_frz, ↓kFrz_c, ↓kFrz_l, ↓kFrz_t, ↓kFrz_n, ↓kFrzL_at, ↓K_extE, ↓kExt1_at, ↓kExt1b_at, ↓kExt2_at, ↓kExt3_at, ↓K_mt0E, ↓kMt0_at, ↓kMt0L_clear, ↓kMt0L_rev, ↓K2_in_t, ↓K2_in_f, ↓K2_notIn_t, ↓K2_notIn_f, ↓K_itZp, ↓kZp1_at, ↓K_itEn, ↓kEnI_t, ↓kEnI_l, ↓K2_din_i, ↓kDinD_at, ↓KR_put_0, ↓KR_put_1, ↓KR_put_2, ↓KR_put_l, ↓KR_put_into, ↓KR_put_end, ↓KR_put_looked, ↓KR_put_cut, ↓KR_move_0, ↓KR_move_1, ↓KR_move_2, ↓KR_move_l, ↓KR_move_into, ↓KR_move_end, ↓KR_move_looked, ↓KR_move_cut, ↓KR_add_0, ↓KR_add_1, ↓KR_add_2, ↓KR_add_3, ↓KR_add_l, ↓KR_add_into, ↓KR_add_end, ↓KR_add_looked, ↓KR_add_cut, ↓KR_take_0, ↓KR_take_1, ↓KR_take_2, ↓KR_take_3, ↓KR_take_l, ↓KR_take_into, ↓KR_take_end, ↓KR_take_looked, ↓KR_take_cut, ↓KR_times_0, ↓KR_times_1, ↓KR_times_2, ↓KR_times_3, ↓KR_times_l, ↓KR_times_into, ↓KR_times_end, ↓KR_times_looked, ↓KR_times_cut, ↓KR_get_0, ↓KR_get_1, ↓KR_get_2, ↓KR_get_l, ↓KR_get_into, ↓KR_get_end, ↓KR_get_looked, ↓KR_get_cut, ↓KR_set_0, ↓KR_set_1, ↓KR_set_2, ↓KR_set_l, ↓KR_set_into, ↓KR_set_end, ↓KR_set_looked, ↓KR_set_cut, ↓KR_say_0, ↓KR_say_1, ↓KR_say_l, ↓KR_say_into, ↓KR_say_end, ↓KR_say_looked, ↓KR_say_cut, ↓KR_rest_0, ↓KR_rest_l, ↓KR_rest_into, ↓KR_rest_end, ↓KR_rest_looked, ↓KR_rest_cut, ↓KR_go_0, ↓KR_go_1, ↓KR_go_l, ↓KR_go_into, ↓KR_go_end, ↓KR_go_looked, ↓KR_go_cut, ↓KR_ifr_0, ↓KR_ifr_1, ↓KR_ifr_2, ↓KR_ifr_l, ↓KR_ifr_into, ↓KR_ifr_end, ↓KR_ifr_looked, ↓KR_ifr_cut, ↓KR_stop_0, ↓KR_stop_l, ↓KR_stop_into, ↓KR_stop_end, ↓KR_stop_looked, ↓KR_stop_cut, ↓KR_late, ↓KR_far, ↓KR_num, ↓KR_mill_0, ↓KR_mill_1, ↓KR_mill_2, ↓KR_mill_3, ↓KR_pi_len, ↓KA_stop, ↓KA_goes, ↓KA_ends, ↓K_mt1E, ↓kM1_l, ↓kM1_s, ↓kM1b_at, ↓K1_isi_c, ↓kIsiL_at, ↓KN_minl, ↓K2_isB, ↓K2_notB, ↓K1_rev_t, ↓K1_rev_l, ↓K2_nin, ↓K2_nnotin, ↓kNinD_pk, ↓kNnotD_pk, ↓K_nget2, ↓kNg1_at, ↓kNg1b_at, ↓kNg2_at, ↓kNg3_at, ↓kNg4_pk, ↓K_ndctE, ↓K_sNput, ↓kNp1_at, ↓kNp2_at, ↓kNp4_at, ↓K_ndsp1, ↓kNd1_at, ↓KN_nlen_c, ↓kNlenL_at, start0, List.map_cons, List.map_nil, List.length_cons, List.length_nil, List.replicate_succ, List.replicate_zero, Nat.reduceSub, Nat.reduceAdd, wipeE, List.set_cons_zero, List.set_cons_succ, List.cons_append, List.nil_append, $as,*])
local macro_rules | `(tactic| simp_arith [$as,*] at $h:ident) => `(tactic| simp -implicitDefEqProofs (disch := first | assumption | decide | omega | (simp only [List.length_cons, List.length_nil, Mem.put_n, Mem.new_n, Mem.kill_n]; omega)) only [↓KO_some, ↓K_vr, ↓kVr_0, ↓kVr_s, ↓K_cn, ↓K_pure, ↓K_op2, ↓kOp2a_at, ↓kOp2b_at, ↓K_op1, ↓kOp1_at, ↓K_argN, ↓K_argC, ↓kArg1_at, ↓kArg2_at, ↓K_opN, ↓kOpN_at, ↓K_call, ↓kCall_1, ↓kCall_2, ↓kCall_3, ↓kCall_4, ↓kCall_5, ↓K_tpl, ↓K_lsl, ↓K_lsm, ↓K_dctE, ↓kTpl_0, ↓kTpl_1, ↓kTpl_2, ↓kTpl_3, ↓kTpl_4, ↓kTpl_5, ↓kLsl_0, ↓kLsl_1, ↓kLsl_2, ↓kLsl_3, ↓kLsl_4, ↓kLsm_0, ↓K_tV, ↓kTV_at, ↓K_tAnd, ↓kTAnd_t, ↓kTAnd_f, ↓K_tOr, ↓kTOr_t, ↓kTOr_f, ↓K_tNot, ↓kTNot_t, ↓kTNot_f, ↓kTNot_at, ↓K_tYes, ↓K_vAnd, ↓kVAnd_t, ↓kVAnd_f, ↓K_vOr, ↓kVOr_t, ↓kVOr_f, ↓K_vNot, ↓kVNot_at, ↓K_ifE, ↓kIfE_t, ↓kIfE_f, ↓K_chn, ↓kChn0_at, ↓kChn1_at, ↓kChn2_t, ↓kChn2_f, ↓K_soN, ↓K_soS, ↓kSoS_at, ↓K_slc, ↓kSlc0_at, ↓kSlc1_at, ↓kSlc2_at, ↓KSl_tup, ↓KSl_lst, ↓K_sNext, ↓K_sSeq, ↓kSeq_nx, ↓kSeq_rt, ↓K_sRet, ↓kRet_at, ↓K_sRetN, ↓K_sExp, ↓kExp_at, ↓K_sIf, ↓kIf_t, ↓kIf_f, ↓kSet_0, ↓kSet_s, ↓kUn_c, ↓kUn_n, ↓K_sAsg, ↓kAsg_nm, ↓kAsg_tp, ↓kNms_c, ↓kNmsC_at, ↓kNms_n, ↓K_sPar, ↓kPar1_at, ↓kPar2_at, ↓K_run, ↓kRun_rt, ↓kRun_nx, ↓K2_add_i, ↓K2_sub_i, ↓K2_mul_i, ↓K2_mod_i, ↓K2_fdiv_i, ↓K2_lt_i, ↓K2_le_i, ↓K2_gt_i, ↓K2_ge_i, ↓K2_eq_i, ↓K2_ne_i, ↓K2_eq_st, ↓K2_eq_sf, ↓K2_ne_st, ↓K2_ne_sf, ↓K2_eq_b, ↓K2_add_t, ↓K2_add_l, ↓K1_neg_i, ↓K2_isN_n, ↓K2_isN_i, ↓K2_isN_s, ↓K2_isN_t, ↓K2_isN_l, ↓K2_isN_c, ↓K2_notN_n, ↓K2_notN_i, ↓K2_notN_s, ↓K2_notN_t, ↓K2_notN_l, ↓K2_notN_c, ↓K2_ix_t, ↓K2_ix_l, ↓KIx_0, ↓KIx_1, ↓KIx_2, ↓KIx_3, ↓KIx_4, ↓KIx_m1a, ↓KIx_m1b, ↓KIx_m1c, ↓KIx_m1d, ↓KN_len_t, ↓KN_len_l, ↓KN_max2, ↓KN_min2, ↓KN_int_i, ↓KN_int_t, ↓KN_int_f, ↓KN_tuple_l, ↓KN_tuple_t, ↓KN_maxl, ↓KN_suml, ↓K1_isi_n, ↓K1_isi_b, ↓K1_isi_i, ↓K1_isi_s, ↓K1_isi_t, ↓K1_isi_l, ↓KG_put_eq, ↓KG_put_ne, ↓KG_new_eq, ↓KG_new_ne, ↓KG_kill_ne, ↓K2_ix_c, ↓kIxL_at, ↓KN_len_c, ↓kLenL_l, ↓kLenL_d, ↓KN_tuple_c, ↓kTupL_at, ↓KN_max_c, ↓kMaxL_at, ↓KSl_c, ↓kSlL_at, ↓K_appE, ↓kApp1_at, ↓kApp1b_at, ↓kApp2_at, ↓kApp3_at, ↓K_sLput, ↓kPut1_at, ↓kPut2_at, ↓kPut3_at, ↓kPut4_at, ↓K2_dget_i, ↓K2_dget_s, ↓kDgD_at, ↓KVk_eq, ↓KVk_ne, ↓KVd_eq, ↓KVd_ne, ↓KVd_n, ↓K_dget2, ↓kDg1_at, ↓kDg1b_at, ↓kDg2_at, ↓kDg3_at, ↓kDg4_i, ↓kDg4_s, ↓K_sDput, ↓kDp1_at, ↓kDp2_at, ↓kDp3_i, ↓kDp3_s, ↓kDp4_at, ↓K1_fld, ↓kFldO_at, ↓KFl_eq, ↓KFl_ne, ↓K_sFput, ↓kFp1_at, ↓kFp2_at, ↓kFp3_at, ↓kPf_n, ↓kPf_eq, ↓kPu_c, ↓kPu_n, ↓kPf_ne, ↓K_callM, ↓kMt1_at, ↓kMt2_at, ↓kNo_n, ↓kNo_c, ↓kMt3_0, ↓kMt3_1, ↓kMt3_2, ↓kMt3_3, ↓kMt3_4, ↓K_mkE, ↓kMk_1, ↓kMk_2, ↓kMk_3, ↓kMk2_at, ↓K_sFor, ↓kFor_at, ↓K_itRng1, ↓kRng1_nat, ↓K_itRng2, ↓kRng2_at, ↓K_itSeq, ↓kSeqI_t, ↓kSeqI_l, ↓kSeqI_c, ↓kSeqL_at, ↓K_bodyG_nm, ↓K_bodyG_tp, ↓K_sWhile, ↓kComp_at, ↓K_comp, ↓K_compM, ↓kLst_at, ↓kLstM_at, ↓kEx_at, ↓K_exG_nm, ↓K_exG_tp, ↓kAlc_at, ↓K_opNM, ↓kOpNM_at, ↓KN_list_l2, ↓KN_list_t2, ↓KN_list_c, ↓kListL_at, ↓K_op2M, ↓kOp2Ma_at, ↓kOp2Mb_at, ↓K2_rep1, ↓K_prE_n, ↓K_prE_c, ↓kPr1_at, ↓kPr2_at, ↓kPr3_at, ↓K_dspE, ↓kDsp_s1, ↓kDsp_s2, ↓kDsp_s3, ↓kDsp_s4, ↓K_frz, ↓kFrz_c, ↓kFrz_l, ↓kFrz_t, ↓kFrz_n, ↓kFrzL_at, ↓K_extE, ↓kExt1_at, ↓kExt1b_at, ↓kExt2_at, ↓kExt3_at, ↓K_mt0E, ↓kMt0_at, ↓kMt0L_clear, ↓kMt0L_rev, ↓K2_in_t, ↓K2_in_f, ↓K2_notIn_t, ↓K2_notIn_f, ↓K_itZp, ↓kZp1_at, ↓K_itEn, ↓kEnI_t, ↓kEnI_l, ↓K2_din_i, ↓kDinD_at, ↓KR_put_0, ↓KR_put_1, ↓KR_put_2, ↓KR_put_l, ↓KR_put_into, ↓KR_put_end, ↓KR_put_looked, ↓KR_put_cut, ↓KR_move_0, ↓KR_move_1, ↓KR_move_2, ↓KR_move_l, ↓KR_move_into, ↓KR_move_end, ↓KR_move_looked, ↓KR_move_cut, ↓KR_add_0, ↓KR_add_1, ↓KR_add_2, ↓KR_add_3, ↓KR_add_l, ↓KR_add_into, ↓KR_add_end, ↓KR_add_looked, ↓KR_add_cut, ↓KR_take_0, ↓KR_take_1, ↓KR_take_2, ↓KR_take_3, ↓KR_take_l, ↓KR_take_into, ↓KR_take_end, ↓KR_take_looked, ↓KR_take_cut, ↓KR_times_0, ↓KR_times_1, ↓KR_times_2, ↓KR_times_3, ↓KR_times_l, ↓KR_times_into, ↓KR_times_end, ↓KR_times_looked, ↓KR_times_cut, ↓KR_get_0, ↓KR_get_1, ↓KR_get_2, ↓KR_get_l, ↓KR_get_into, ↓KR_get_end, ↓KR_get_looked, ↓KR_get_cut, ↓KR_set_0, ↓KR_set_1, ↓KR_set_2, ↓KR_set_l, ↓KR_set_into, ↓KR_set_end, ↓KR_set_looked, ↓KR_set_cut, ↓KR_say_0, ↓KR_say_1, ↓KR_say_l, ↓KR_say_into, ↓KR_say_end, ↓KR_say_looked, ↓KR_say_cut, ↓KR_rest_0, ↓KR_rest_l, ↓KR_rest_into, ↓KR_rest_end, ↓KR_rest_looked, ↓KR_rest_cut, ↓KR_go_0, ↓KR_go_1, ↓KR_go_l, ↓KR_go_into, ↓KR_go_end, ↓KR_go_looked, ↓KR_go_cut, ↓KR_ifr_0, ↓KR_ifr_1, ↓KR_ifr_2, ↓KR_ifr_l, ↓KR_ifr_into, ↓KR_ifr_end, ↓KR_ifr_looked, ↓KR_ifr_cut, ↓KR_stop_0, ↓KR_stop_l, ↓KR_stop_into, ↓KR_stop_end, ↓KR_stop_looked, ↓KR_stop_cut, ↓KR_late, ↓KR_far, ↓KR_num, ↓KR_mill_0, ↓KR_mill_1, ↓KR_mill_2, ↓KR_mill_3, ↓KR_pi_len, ↓KA_stop, ↓KA_goes, ↓KA_ends, ↓K_mt1E, ↓kM1_l, ↓kM1_s, ↓kM1b_at, ↓K1_isi_c, ↓kIsiL_at, ↓KN_minl, ↓K2_isB, ↓K2_notB, ↓K1_rev_t, ↓K1_rev_l, ↓K2_nin, ↓K2_nnotin, ↓kNinD_pk, ↓kNnotD_pk, ↓K_nget2, ↓kNg1_at, ↓kNg1b_at, ↓kNg2_at, ↓kNg3_at, ↓kNg4_pk, ↓K_ndctE, ↓K_sNput, ↓kNp1_at, ↓kNp2_at, ↓kNp4_at, ↓K_ndsp1, ↓kNd1_at, ↓KN_nlen_c, ↓kNlenL_at, start0, List.map_cons, List.map_nil, List.length_cons, List.length_nil, List.replicate_succ, List.replicate_zero, Nat.reduceSub, Nat.reduceAdd, wipeE, List.set_cons_zero, List.set_cons_succ, List.cons_append, List.nil_append, $as,*] at $h:ident)
end
end LB

set_option Elab.async false
set_option linter.all false
set_option autoImplicit false
set_option maxRecDepth 100000
set_option maxHeartbeats 4000000
/-! Pure: the law's own fitting, whole. -/
namespace LB
open PySem
noncomputable section
local macro_rules | `(tactic| simp_arith [$as,*]) => `(tactic| simp -implicitDefEqProofs (disch := first | assumption | decide | omega | (simp only [List.length_cons, List.length_nil, Mem.put_n, Mem.new_n, Mem.kill_n]; omega)) only [↓KO_some, ↓K_vr, ↓kVr_0, ↓kVr_s, ↓K_cn, ↓K_pure, ↓K_op2, ↓kOp2a_at, ↓kOp2b_at, ↓K_op1, ↓kOp1_at, ↓K_argN, ↓K_argC, ↓kArg1_at, ↓kArg2_at, ↓K_opN, ↓kOpN_at, ↓K_call, ↓kCall_1, ↓kCall_2, ↓kCall_3, ↓kCall_4, ↓kCall_5, ↓K_tpl, ↓K_lsl, ↓K_lsm, ↓K_dctE, ↓kTpl_0, ↓kTpl_1, ↓kTpl_2, ↓kTpl_3, ↓kTpl_4, ↓kTpl_5, ↓kLsl_0, ↓kLsl_1, ↓kLsl_2, ↓kLsl_3, ↓kLsl_4, ↓kLsm_0, ↓K_tV, ↓kTV_at, ↓K_tAnd, ↓kTAnd_t, ↓kTAnd_f, ↓K_tOr, ↓kTOr_t, ↓kTOr_f, ↓K_tNot, ↓kTNot_t, ↓kTNot_f, ↓kTNot_at, ↓K_tYes, ↓K_vAnd, ↓kVAnd_t, ↓kVAnd_f, ↓K_vOr, ↓kVOr_t, ↓kVOr_f, ↓K_vNot, ↓kVNot_at, ↓K_ifE, ↓kIfE_t, ↓kIfE_f, ↓K_chn, ↓kChn0_at, ↓kChn1_at, ↓kChn2_t, ↓kChn2_f, ↓K_soN, ↓K_soS, ↓kSoS_at, ↓K_slc, ↓kSlc0_at, ↓kSlc1_at, ↓kSlc2_at, ↓KSl_tup, ↓KSl_lst, ↓K_sNext, ↓K_sSeq, ↓kSeq_nx, ↓kSeq_rt, ↓K_sRet, ↓kRet_at, ↓K_sRetN, ↓K_sExp, ↓kExp_at, ↓K_sIf, ↓kIf_t, ↓kIf_f, ↓kSet_0, ↓kSet_s, ↓kUn_c, ↓kUn_n, ↓K_sAsg, ↓kAsg_nm, ↓kAsg_tp, ↓kNms_c, ↓kNmsC_at, ↓kNms_n, ↓K_sPar, ↓kPar1_at, ↓kPar2_at, ↓K_run, ↓kRun_rt, ↓kRun_nx, ↓K2_add_i, ↓K2_sub_i, ↓K2_mul_i, ↓K2_mod_i, ↓K2_fdiv_i, ↓K2_lt_i, ↓K2_le_i, ↓K2_gt_i, ↓K2_ge_i, ↓K2_eq_i, ↓K2_ne_i, ↓K2_eq_st, ↓K2_eq_sf, ↓K2_ne_st, ↓K2_ne_sf, ↓K2_eq_b, ↓K2_add_t, ↓K2_add_l, ↓K1_neg_i, ↓K2_isN_n, ↓K2_isN_i, ↓K2_isN_s, ↓K2_isN_t, ↓K2_isN_l, ↓K2_isN_c, ↓K2_notN_n, ↓K2_notN_i, ↓K2_notN_s, ↓K2_notN_t, ↓K2_notN_l, ↓K2_notN_c, ↓K2_ix_t, ↓K2_ix_l, ↓KIx_0, ↓KIx_1, ↓KIx_2, ↓KIx_3, ↓KIx_4, ↓KIx_m1a, ↓KIx_m1b, ↓KIx_m1c, ↓KIx_m1d, ↓KN_len_t, ↓KN_len_l, ↓KN_max2, ↓KN_min2, ↓KN_int_i, ↓KN_int_t, ↓KN_int_f, ↓KN_tuple_l, ↓KN_tuple_t, ↓KN_maxl, ↓KN_suml, ↓K1_isi_n, ↓K1_isi_b, ↓K1_isi_i, ↓K1_isi_s, ↓K1_isi_t, ↓K1_isi_l, ↓KG_put_eq, ↓KG_put_ne, ↓KG_new_eq, ↓KG_new_ne, ↓KG_kill_ne, ↓K2_ix_c, ↓kIxL_at, ↓KN_len_c, ↓kLenL_l, ↓kLenL_d, ↓KN_tuple_c, ↓kTupL_at, ↓KN_max_c, ↓kMaxL_at, ↓KSl_c, ↓kSlL_at, ↓K_appE, ↓kApp1_at, ↓kApp1b_at, ↓kApp2_at, ↓kApp3_at, ↓K_sLput, ↓kPut1_at, ↓kPut2_at, ↓kPut3_at, ↓kPut4_at, ↓K2_dget_i, ↓K2_dget_s, ↓kDgD_at, ↓KVk_eq, ↓KVk_ne, ↓KVd_eq, ↓KVd_ne, ↓KVd_n, ↓K_dget2, ↓kDg1_at, ↓kDg1b_at, ↓kDg2_at, ↓kDg3_at, ↓kDg4_i, ↓kDg4_s, ↓K_sDput, ↓kDp1_at, ↓kDp2_at, ↓kDp3_i, ↓kDp3_s, ↓kDp4_at, ↓K1_fld, ↓kFldO_at, ↓KFl_eq, ↓KFl_ne, ↓K_sFput, ↓kFp1_at, ↓kFp2_at, ↓kFp3_at, ↓kPf_n, ↓kPf_eq, ↓kPu_c, ↓kPu_n, ↓kPf_ne, ↓K_callM, ↓kMt1_at, ↓kMt2_at, ↓kNo_n, ↓kNo_c, ↓kMt3_0, ↓kMt3_1, ↓kMt3_2, ↓kMt3_3, ↓kMt3_4, ↓K_mkE, ↓kMk_1, ↓kMk_2, ↓kMk_3, ↓kMk2_at, ↓K_sFor, ↓kFor_at, ↓K_itRng1, ↓kRng1_nat, ↓K_itRng2, ↓kRng2_at, ↓K_itSeq, ↓kSeqI_t, ↓kSeqI_l, ↓kSeqI_c, ↓kSeqL_at, ↓K_bodyG_nm, ↓K_bodyG_tp, ↓K_sWhile, ↓kComp_at, ↓K_comp, ↓K_compM, ↓kLst_at, ↓kLstM_at, ↓kEx_at, ↓K_exG_nm, ↓K_exG_tp, ↓kAlc_at, ↓K_opNM, ↓kOpNM_at, ↓KN_list_l2, ↓KN_list_t2, ↓KN_list_c, ↓kListL_at, ↓K_op2M, ↓kOp2Ma_at, ↓kOp2Mb_at, ↓K2_rep1, ↓K_prE_n, ↓K_prE_c, ↓kPr1_at, ↓kPr2_at, ↓kPr3_at, ↓K_dspE, ↓kDsp_s1, ↓kDsp_s2, ↓kDsp_s3, ↓kDsp_s4, ↓K_frz, ↓kFrz_c, ↓kFrz_l, ↓kFrz_t, ↓kFrz_n, ↓kFrzL_at, ↓K_extE, ↓kExt1_at, ↓kExt1b_at, ↓kExt2_at, ↓kExt3_at, ↓K_mt0E, ↓kMt0_at, ↓kMt0L_clear, ↓kMt0L_rev, ↓K2_in_t, ↓K2_in_f, ↓K2_notIn_t, ↓K2_notIn_f, ↓K_itZp, ↓kZp1_at, ↓K_itEn, ↓kEnI_t, ↓kEnI_l, ↓K2_din_i, ↓kDinD_at, ↓KR_put_0, ↓KR_put_1, ↓KR_put_2, ↓KR_put_l, ↓KR_put_into, ↓KR_put_end, ↓KR_put_looked, ↓KR_put_cut, ↓KR_move_0, ↓KR_move_1, ↓KR_move_2, ↓KR_move_l, ↓KR_move_into, ↓KR_move_end, ↓KR_move_looked, ↓KR_move_cut, ↓KR_add_0, ↓KR_add_1, ↓KR_add_2, ↓KR_add_3, ↓KR_add_l, ↓KR_add_into, ↓KR_add_end, ↓KR_add_looked, ↓KR_add_cut, ↓KR_take_0, ↓KR_take_1, ↓KR_take_2, ↓KR_take_3, ↓KR_take_l, ↓KR_take_into, ↓KR_take_end, ↓KR_take_looked, ↓KR_take_cut, ↓KR_times_0, ↓KR_times_1, ↓KR_times_2, ↓KR_times_3, ↓KR_times_l, ↓KR_times_into, ↓KR_times_end, ↓KR_times_looked, ↓KR_times_cut, ↓KR_get_0, ↓KR_get_1, ↓KR_get_2, ↓KR_get_l, ↓KR_get_into, ↓KR_get_end, ↓KR_get_looked, ↓KR_get_cut, ↓KR_set_0, ↓KR_set_1, ↓KR_set_2, ↓KR_set_l, ↓KR_set_into, ↓KR_set_end, ↓KR_set_looked, ↓KR_set_cut, ↓KR_say_0, ↓KR_say_1, ↓KR_say_l, ↓KR_say_into, ↓KR_say_end, ↓KR_say_looked, ↓KR_say_cut, ↓KR_rest_0, ↓KR_rest_l, ↓KR_rest_into, ↓KR_rest_end, ↓KR_rest_looked, ↓KR_rest_cut, ↓KR_go_0, ↓KR_go_1, ↓KR_go_l, ↓KR_go_into, ↓KR_go_end, ↓KR_go_looked, ↓KR_go_cut, ↓KR_ifr_0, ↓KR_ifr_1, ↓KR_ifr_2, ↓KR_ifr_l, ↓KR_ifr_into, ↓KR_ifr_end, ↓KR_ifr_looked, ↓KR_ifr_cut, ↓KR_stop_0, ↓KR_stop_l, ↓KR_stop_into, ↓KR_stop_end, ↓KR_stop_looked, ↓KR_stop_cut, ↓KR_late, ↓KR_far, ↓KR_num, ↓KR_mill_0, ↓KR_mill_1, ↓KR_mill_2, ↓KR_mill_3, ↓KR_pi_len, ↓KA_stop, ↓KA_goes, ↓KA_ends, ↓K_mt1E, ↓kM1_l, ↓kM1_s, ↓kM1b_at, ↓K1_isi_c, ↓kIsiL_at, ↓KN_minl, ↓K2_isB, ↓K2_notB, ↓K1_rev_t, ↓K1_rev_l, ↓K2_nin, ↓K2_nnotin, ↓kNinD_pk, ↓kNnotD_pk, ↓K_nget2, ↓kNg1_at, ↓kNg1b_at, ↓kNg2_at, ↓kNg3_at, ↓kNg4_pk, ↓K_ndctE, ↓K_sNput, ↓kNp1_at, ↓kNp2_at, ↓kNp4_at, ↓K_ndsp1, ↓kNd1_at, ↓KN_nlen_c, ↓kNlenL_at, start0, List.map_cons, List.map_nil, List.length_cons, List.length_nil, List.replicate_succ, List.replicate_zero, Nat.reduceSub, Nat.reduceAdd, wipeE, List.set_cons_zero, List.set_cons_succ, List.cons_append, List.nil_append, $as,*])
local macro_rules | `(tactic| simp_arith [$as,*] at $h:ident) => `(tactic| simp -implicitDefEqProofs (disch := first | assumption | decide | omega | (simp only [List.length_cons, List.length_nil, Mem.put_n, Mem.new_n, Mem.kill_n]; omega)) only [↓KO_some, ↓K_vr, ↓kVr_0, ↓kVr_s, ↓K_cn, ↓K_pure, ↓K_op2, ↓kOp2a_at, ↓kOp2b_at, ↓K_op1, ↓kOp1_at, ↓K_argN, ↓K_argC, ↓kArg1_at, ↓kArg2_at, ↓K_opN, ↓kOpN_at, ↓K_call, ↓kCall_1, ↓kCall_2, ↓kCall_3, ↓kCall_4, ↓kCall_5, ↓K_tpl, ↓K_lsl, ↓K_lsm, ↓K_dctE, ↓kTpl_0, ↓kTpl_1, ↓kTpl_2, ↓kTpl_3, ↓kTpl_4, ↓kTpl_5, ↓kLsl_0, ↓kLsl_1, ↓kLsl_2, ↓kLsl_3, ↓kLsl_4, ↓kLsm_0, ↓K_tV, ↓kTV_at, ↓K_tAnd, ↓kTAnd_t, ↓kTAnd_f, ↓K_tOr, ↓kTOr_t, ↓kTOr_f, ↓K_tNot, ↓kTNot_t, ↓kTNot_f, ↓kTNot_at, ↓K_tYes, ↓K_vAnd, ↓kVAnd_t, ↓kVAnd_f, ↓K_vOr, ↓kVOr_t, ↓kVOr_f, ↓K_vNot, ↓kVNot_at, ↓K_ifE, ↓kIfE_t, ↓kIfE_f, ↓K_chn, ↓kChn0_at, ↓kChn1_at, ↓kChn2_t, ↓kChn2_f, ↓K_soN, ↓K_soS, ↓kSoS_at, ↓K_slc, ↓kSlc0_at, ↓kSlc1_at, ↓kSlc2_at, ↓KSl_tup, ↓KSl_lst, ↓K_sNext, ↓K_sSeq, ↓kSeq_nx, ↓kSeq_rt, ↓K_sRet, ↓kRet_at, ↓K_sRetN, ↓K_sExp, ↓kExp_at, ↓K_sIf, ↓kIf_t, ↓kIf_f, ↓kSet_0, ↓kSet_s, ↓kUn_c, ↓kUn_n, ↓K_sAsg, ↓kAsg_nm, ↓kAsg_tp, ↓kNms_c, ↓kNmsC_at, ↓kNms_n, ↓K_sPar, ↓kPar1_at, ↓kPar2_at, ↓K_run, ↓kRun_rt, ↓kRun_nx, ↓K2_add_i, ↓K2_sub_i, ↓K2_mul_i, ↓K2_mod_i, ↓K2_fdiv_i, ↓K2_lt_i, ↓K2_le_i, ↓K2_gt_i, ↓K2_ge_i, ↓K2_eq_i, ↓K2_ne_i, ↓K2_eq_st, ↓K2_eq_sf, ↓K2_ne_st, ↓K2_ne_sf, ↓K2_eq_b, ↓K2_add_t, ↓K2_add_l, ↓K1_neg_i, ↓K2_isN_n, ↓K2_isN_i, ↓K2_isN_s, ↓K2_isN_t, ↓K2_isN_l, ↓K2_isN_c, ↓K2_notN_n, ↓K2_notN_i, ↓K2_notN_s, ↓K2_notN_t, ↓K2_notN_l, ↓K2_notN_c, ↓K2_ix_t, ↓K2_ix_l, ↓KIx_0, ↓KIx_1, ↓KIx_2, ↓KIx_3, ↓KIx_4, ↓KIx_m1a, ↓KIx_m1b, ↓KIx_m1c, ↓KIx_m1d, ↓KN_len_t, ↓KN_len_l, ↓KN_max2, ↓KN_min2, ↓KN_int_i, ↓KN_int_t, ↓KN_int_f, ↓KN_tuple_l, ↓KN_tuple_t, ↓KN_maxl, ↓KN_suml, ↓K1_isi_n, ↓K1_isi_b, ↓K1_isi_i, ↓K1_isi_s, ↓K1_isi_t, ↓K1_isi_l, ↓KG_put_eq, ↓KG_put_ne, ↓KG_new_eq, ↓KG_new_ne, ↓KG_kill_ne, ↓K2_ix_c, ↓kIxL_at, ↓KN_len_c, ↓kLenL_l, ↓kLenL_d, ↓KN_tuple_c, ↓kTupL_at, ↓KN_max_c, ↓kMaxL_at, ↓KSl_c, ↓kSlL_at, ↓K_appE, ↓kApp1_at, ↓kApp1b_at, ↓kApp2_at, ↓kApp3_at, ↓K_sLput, ↓kPut1_at, ↓kPut2_at, ↓kPut3_at, ↓kPut4_at, ↓K2_dget_i, ↓K2_dget_s, ↓kDgD_at, ↓KVk_eq, ↓KVk_ne, ↓KVd_eq, ↓KVd_ne, ↓KVd_n, ↓K_dget2, ↓kDg1_at, ↓kDg1b_at, ↓kDg2_at, ↓kDg3_at, ↓kDg4_i, ↓kDg4_s, ↓K_sDput, ↓kDp1_at, ↓kDp2_at, ↓kDp3_i, ↓kDp3_s, ↓kDp4_at, ↓K1_fld, ↓kFldO_at, ↓KFl_eq, ↓KFl_ne, ↓K_sFput, ↓kFp1_at, ↓kFp2_at, ↓kFp3_at, ↓kPf_n, ↓kPf_eq, ↓kPu_c, ↓kPu_n, ↓kPf_ne, ↓K_callM, ↓kMt1_at, ↓kMt2_at, ↓kNo_n, ↓kNo_c, ↓kMt3_0, ↓kMt3_1, ↓kMt3_2, ↓kMt3_3, ↓kMt3_4, ↓K_mkE, ↓kMk_1, ↓kMk_2, ↓kMk_3, ↓kMk2_at, ↓K_sFor, ↓kFor_at, ↓K_itRng1, ↓kRng1_nat, ↓K_itRng2, ↓kRng2_at, ↓K_itSeq, ↓kSeqI_t, ↓kSeqI_l, ↓kSeqI_c, ↓kSeqL_at, ↓K_bodyG_nm, ↓K_bodyG_tp, ↓K_sWhile, ↓kComp_at, ↓K_comp, ↓K_compM, ↓kLst_at, ↓kLstM_at, ↓kEx_at, ↓K_exG_nm, ↓K_exG_tp, ↓kAlc_at, ↓K_opNM, ↓kOpNM_at, ↓KN_list_l2, ↓KN_list_t2, ↓KN_list_c, ↓kListL_at, ↓K_op2M, ↓kOp2Ma_at, ↓kOp2Mb_at, ↓K2_rep1, ↓K_prE_n, ↓K_prE_c, ↓kPr1_at, ↓kPr2_at, ↓kPr3_at, ↓K_dspE, ↓kDsp_s1, ↓kDsp_s2, ↓kDsp_s3, ↓kDsp_s4, ↓K_frz, ↓kFrz_c, ↓kFrz_l, ↓kFrz_t, ↓kFrz_n, ↓kFrzL_at, ↓K_extE, ↓kExt1_at, ↓kExt1b_at, ↓kExt2_at, ↓kExt3_at, ↓K_mt0E, ↓kMt0_at, ↓kMt0L_clear, ↓kMt0L_rev, ↓K2_in_t, ↓K2_in_f, ↓K2_notIn_t, ↓K2_notIn_f, ↓K_itZp, ↓kZp1_at, ↓K_itEn, ↓kEnI_t, ↓kEnI_l, ↓K2_din_i, ↓kDinD_at, ↓KR_put_0, ↓KR_put_1, ↓KR_put_2, ↓KR_put_l, ↓KR_put_into, ↓KR_put_end, ↓KR_put_looked, ↓KR_put_cut, ↓KR_move_0, ↓KR_move_1, ↓KR_move_2, ↓KR_move_l, ↓KR_move_into, ↓KR_move_end, ↓KR_move_looked, ↓KR_move_cut, ↓KR_add_0, ↓KR_add_1, ↓KR_add_2, ↓KR_add_3, ↓KR_add_l, ↓KR_add_into, ↓KR_add_end, ↓KR_add_looked, ↓KR_add_cut, ↓KR_take_0, ↓KR_take_1, ↓KR_take_2, ↓KR_take_3, ↓KR_take_l, ↓KR_take_into, ↓KR_take_end, ↓KR_take_looked, ↓KR_take_cut, ↓KR_times_0, ↓KR_times_1, ↓KR_times_2, ↓KR_times_3, ↓KR_times_l, ↓KR_times_into, ↓KR_times_end, ↓KR_times_looked, ↓KR_times_cut, ↓KR_get_0, ↓KR_get_1, ↓KR_get_2, ↓KR_get_l, ↓KR_get_into, ↓KR_get_end, ↓KR_get_looked, ↓KR_get_cut, ↓KR_set_0, ↓KR_set_1, ↓KR_set_2, ↓KR_set_l, ↓KR_set_into, ↓KR_set_end, ↓KR_set_looked, ↓KR_set_cut, ↓KR_say_0, ↓KR_say_1, ↓KR_say_l, ↓KR_say_into, ↓KR_say_end, ↓KR_say_looked, ↓KR_say_cut, ↓KR_rest_0, ↓KR_rest_l, ↓KR_rest_into, ↓KR_rest_end, ↓KR_rest_looked, ↓KR_rest_cut, ↓KR_go_0, ↓KR_go_1, ↓KR_go_l, ↓KR_go_into, ↓KR_go_end, ↓KR_go_looked, ↓KR_go_cut, ↓KR_ifr_0, ↓KR_ifr_1, ↓KR_ifr_2, ↓KR_ifr_l, ↓KR_ifr_into, ↓KR_ifr_end, ↓KR_ifr_looked, ↓KR_ifr_cut, ↓KR_stop_0, ↓KR_stop_l, ↓KR_stop_into, ↓KR_stop_end, ↓KR_stop_looked, ↓KR_stop_cut, ↓KR_late, ↓KR_far, ↓KR_num, ↓KR_mill_0, ↓KR_mill_1, ↓KR_mill_2, ↓KR_mill_3, ↓KR_pi_len, ↓KA_stop, ↓KA_goes, ↓KA_ends, ↓K_mt1E, ↓kM1_l, ↓kM1_s, ↓kM1b_at, ↓K1_isi_c, ↓kIsiL_at, ↓KN_minl, ↓K2_isB, ↓K2_notB, ↓K1_rev_t, ↓K1_rev_l, ↓K2_nin, ↓K2_nnotin, ↓kNinD_pk, ↓kNnotD_pk, ↓K_nget2, ↓kNg1_at, ↓kNg1b_at, ↓kNg2_at, ↓kNg3_at, ↓kNg4_pk, ↓K_ndctE, ↓K_sNput, ↓kNp1_at, ↓kNp2_at, ↓kNp4_at, ↓K_ndsp1, ↓kNd1_at, ↓KN_nlen_c, ↓kNlenL_at, start0, List.map_cons, List.map_nil, List.length_cons, List.length_nil, List.replicate_succ, List.replicate_zero, Nat.reduceSub, Nat.reduceAdd, wipeE, List.set_cons_zero, List.set_cons_succ, List.cons_append, List.nil_append, $as,*] at $h:ident)
end
end LB

set_option Elab.async false
set_option linter.all false
set_option autoImplicit false
set_option maxRecDepth 100000
set_option maxHeartbeats 2000000
/-! Pure: the program fitted by rests, as blocks with their starts. -/
namespace LB
open PySem
noncomputable section
end
end LB

set_option Elab.async false
set_option linter.all false
set_option autoImplicit false
set_option maxRecDepth 100000
set_option maxHeartbeats 4000000
/-! Pure: look, also where too many states are met. -/
namespace LB
open PySem
noncomputable section
local macro_rules | `(tactic| simp_arith [$as,*]) => `(tactic| simp -implicitDefEqProofs (disch := first | assumption | decide | omega | (simp only [List.length_cons, List.length_nil, Mem.put_n, Mem.new_n, Mem.kill_n]; omega)) only [↓KO_some, ↓K_vr, ↓kVr_0, ↓kVr_s, ↓K_cn, ↓K_pure, ↓K_op2, ↓kOp2a_at, ↓kOp2b_at, ↓K_op1, ↓kOp1_at, ↓K_argN, ↓K_argC, ↓kArg1_at, ↓kArg2_at, ↓K_opN, ↓kOpN_at, ↓K_call, ↓kCall_1, ↓kCall_2, ↓kCall_3, ↓kCall_4, ↓kCall_5, ↓K_tpl, ↓K_lsl, ↓K_lsm, ↓K_dctE, ↓kTpl_0, ↓kTpl_1, ↓kTpl_2, ↓kTpl_3, ↓kTpl_4, ↓kTpl_5, ↓kLsl_0, ↓kLsl_1, ↓kLsl_2, ↓kLsl_3, ↓kLsl_4, ↓kLsm_0, ↓K_tV, ↓kTV_at, ↓K_tAnd, ↓kTAnd_t, ↓kTAnd_f, ↓K_tOr, ↓kTOr_t, ↓kTOr_f, ↓K_tNot, ↓kTNot_t, ↓kTNot_f, ↓kTNot_at, ↓K_tYes, ↓K_vAnd, ↓kVAnd_t, ↓kVAnd_f, ↓K_vOr, ↓kVOr_t, ↓kVOr_f, ↓K_vNot, ↓kVNot_at, ↓K_ifE, ↓kIfE_t, ↓kIfE_f, ↓K_chn, ↓kChn0_at, ↓kChn1_at, ↓kChn2_t, ↓kChn2_f, ↓K_soN, ↓K_soS, ↓kSoS_at, ↓K_slc, ↓kSlc0_at, ↓kSlc1_at, ↓kSlc2_at, ↓KSl_tup, ↓KSl_lst, ↓K_sNext, ↓K_sSeq, ↓kSeq_nx, ↓kSeq_rt, ↓K_sRet, ↓kRet_at, ↓K_sRetN, ↓K_sExp, ↓kExp_at, ↓K_sIf, ↓kIf_t, ↓kIf_f, ↓kSet_0, ↓kSet_s, ↓kUn_c, ↓kUn_n, ↓K_sAsg, ↓kAsg_nm, ↓kAsg_tp, ↓kNms_c, ↓kNmsC_at, ↓kNms_n, ↓K_sPar, ↓kPar1_at, ↓kPar2_at, ↓K_run, ↓kRun_rt, ↓kRun_nx, ↓K2_add_i, ↓K2_sub_i, ↓K2_mul_i, ↓K2_mod_i, ↓K2_fdiv_i, ↓K2_lt_i, ↓K2_le_i, ↓K2_gt_i, ↓K2_ge_i, ↓K2_eq_i, ↓K2_ne_i, ↓K2_eq_st, ↓K2_eq_sf, ↓K2_ne_st, ↓K2_ne_sf, ↓K2_eq_b, ↓K2_add_t, ↓K2_add_l, ↓K1_neg_i, ↓K2_isN_n, ↓K2_isN_i, ↓K2_isN_s, ↓K2_isN_t, ↓K2_isN_l, ↓K2_isN_c, ↓K2_notN_n, ↓K2_notN_i, ↓K2_notN_s, ↓K2_notN_t, ↓K2_notN_l, ↓K2_notN_c, ↓K2_ix_t, ↓K2_ix_l, ↓KIx_0, ↓KIx_1, ↓KIx_2, ↓KIx_3, ↓KIx_4, ↓KIx_m1a, ↓KIx_m1b, ↓KIx_m1c, ↓KIx_m1d, ↓KN_len_t, ↓KN_len_l, ↓KN_max2, ↓KN_min2, ↓KN_int_i, ↓KN_int_t, ↓KN_int_f, ↓KN_tuple_l, ↓KN_tuple_t, ↓KN_maxl, ↓KN_suml, ↓K1_isi_n, ↓K1_isi_b, ↓K1_isi_i, ↓K1_isi_s, ↓K1_isi_t, ↓K1_isi_l, ↓KG_put_eq, ↓KG_put_ne, ↓KG_new_eq, ↓KG_new_ne, ↓KG_kill_ne, ↓K2_ix_c, ↓kIxL_at, ↓KN_len_c, ↓kLenL_l, ↓kLenL_d, ↓KN_tuple_c, ↓kTupL_at, ↓KN_max_c, ↓kMaxL_at, ↓KSl_c, ↓kSlL_at, ↓K_appE, ↓kApp1_at, ↓kApp1b_at, ↓kApp2_at, ↓kApp3_at, ↓K_sLput, ↓kPut1_at, ↓kPut2_at, ↓kPut3_at, ↓kPut4_at, ↓K2_dget_i, ↓K2_dget_s, ↓kDgD_at, ↓KVk_eq, ↓KVk_ne, ↓KVd_eq, ↓KVd_ne, ↓KVd_n, ↓K_dget2, ↓kDg1_at, ↓kDg1b_at, ↓kDg2_at, ↓kDg3_at, ↓kDg4_i, ↓kDg4_s, ↓K_sDput, ↓kDp1_at, ↓kDp2_at, ↓kDp3_i, ↓kDp3_s, ↓kDp4_at, ↓K1_fld, ↓kFldO_at, ↓KFl_eq, ↓KFl_ne, ↓K_sFput, ↓kFp1_at, ↓kFp2_at, ↓kFp3_at, ↓kPf_n, ↓kPf_eq, ↓kPu_c, ↓kPu_n, ↓kPf_ne, ↓K_callM, ↓kMt1_at, ↓kMt2_at, ↓kNo_n, ↓kNo_c, ↓kMt3_0, ↓kMt3_1, ↓kMt3_2, ↓kMt3_3, ↓kMt3_4, ↓K_mkE, ↓kMk_1, ↓kMk_2, ↓kMk_3, ↓kMk2_at, ↓K_sFor, ↓kFor_at, ↓K_itRng1, ↓kRng1_nat, ↓K_itRng2, ↓kRng2_at, ↓K_itSeq, ↓kSeqI_t, ↓kSeqI_l, ↓kSeqI_c, ↓kSeqL_at, ↓K_bodyG_nm, ↓K_bodyG_tp, ↓K_sWhile, ↓kComp_at, ↓K_comp, ↓K_compM, ↓kLst_at, ↓kLstM_at, ↓kEx_at, ↓K_exG_nm, ↓K_exG_tp, ↓kAlc_at, ↓K_opNM, ↓kOpNM_at, ↓KN_list_l2, ↓KN_list_t2, ↓KN_list_c, ↓kListL_at, ↓K_op2M, ↓kOp2Ma_at, ↓kOp2Mb_at, ↓K2_rep1, ↓K_prE_n, ↓K_prE_c, ↓kPr1_at, ↓kPr2_at, ↓kPr3_at, ↓K_dspE, ↓kDsp_s1, ↓kDsp_s2, ↓kDsp_s3, ↓kDsp_s4, ↓K_frz, ↓kFrz_c, ↓kFrz_l, ↓kFrz_t, ↓kFrz_n, ↓kFrzL_at, ↓K_extE, ↓kExt1_at, ↓kExt1b_at, ↓kExt2_at, ↓kExt3_at, ↓K_mt0E, ↓kMt0_at, ↓kMt0L_clear, ↓kMt0L_rev, ↓K2_in_t, ↓K2_in_f, ↓K2_notIn_t, ↓K2_notIn_f, ↓K_itZp, ↓kZp1_at, ↓K_itEn, ↓kEnI_t, ↓kEnI_l, ↓K2_din_i, ↓kDinD_at, ↓KR_put_0, ↓KR_put_1, ↓KR_put_2, ↓KR_put_l, ↓KR_put_into, ↓KR_put_end, ↓KR_put_looked, ↓KR_put_cut, ↓KR_move_0, ↓KR_move_1, ↓KR_move_2, ↓KR_move_l, ↓KR_move_into, ↓KR_move_end, ↓KR_move_looked, ↓KR_move_cut, ↓KR_add_0, ↓KR_add_1, ↓KR_add_2, ↓KR_add_3, ↓KR_add_l, ↓KR_add_into, ↓KR_add_end, ↓KR_add_looked, ↓KR_add_cut, ↓KR_take_0, ↓KR_take_1, ↓KR_take_2, ↓KR_take_3, ↓KR_take_l, ↓KR_take_into, ↓KR_take_end, ↓KR_take_looked, ↓KR_take_cut, ↓KR_times_0, ↓KR_times_1, ↓KR_times_2, ↓KR_times_3, ↓KR_times_l, ↓KR_times_into, ↓KR_times_end, ↓KR_times_looked, ↓KR_times_cut, ↓KR_get_0, ↓KR_get_1, ↓KR_get_2, ↓KR_get_l, ↓KR_get_into, ↓KR_get_end, ↓KR_get_looked, ↓KR_get_cut, ↓KR_set_0, ↓KR_set_1, ↓KR_set_2, ↓KR_set_l, ↓KR_set_into, ↓KR_set_end, ↓KR_set_looked, ↓KR_set_cut, ↓KR_say_0, ↓KR_say_1, ↓KR_say_l, ↓KR_say_into, ↓KR_say_end, ↓KR_say_looked, ↓KR_say_cut, ↓KR_rest_0, ↓KR_rest_l, ↓KR_rest_into, ↓KR_rest_end, ↓KR_rest_looked, ↓KR_rest_cut, ↓KR_go_0, ↓KR_go_1, ↓KR_go_l, ↓KR_go_into, ↓KR_go_end, ↓KR_go_looked, ↓KR_go_cut, ↓KR_ifr_0, ↓KR_ifr_1, ↓KR_ifr_2, ↓KR_ifr_l, ↓KR_ifr_into, ↓KR_ifr_end, ↓KR_ifr_looked, ↓KR_ifr_cut, ↓KR_stop_0, ↓KR_stop_l, ↓KR_stop_into, ↓KR_stop_end, ↓KR_stop_looked, ↓KR_stop_cut, ↓KR_late, ↓KR_far, ↓KR_num, ↓KR_mill_0, ↓KR_mill_1, ↓KR_mill_2, ↓KR_mill_3, ↓KR_pi_len, ↓KA_stop, ↓KA_goes, ↓KA_ends, ↓K_mt1E, ↓kM1_l, ↓kM1_s, ↓kM1b_at, ↓K1_isi_c, ↓kIsiL_at, ↓KN_minl, ↓K2_isB, ↓K2_notB, ↓K1_rev_t, ↓K1_rev_l, ↓K2_nin, ↓K2_nnotin, ↓kNinD_pk, ↓kNnotD_pk, ↓K_nget2, ↓kNg1_at, ↓kNg1b_at, ↓kNg2_at, ↓kNg3_at, ↓kNg4_pk, ↓K_ndctE, ↓K_sNput, ↓kNp1_at, ↓kNp2_at, ↓kNp4_at, ↓K_ndsp1, ↓kNd1_at, ↓KN_nlen_c, ↓kNlenL_at, start0, List.map_cons, List.map_nil, List.length_cons, List.length_nil, List.replicate_succ, List.replicate_zero, Nat.reduceSub, Nat.reduceAdd, wipeE, List.set_cons_zero, List.set_cons_succ, List.cons_append, List.nil_append, $as,*])
local macro_rules | `(tactic| simp_arith [$as,*] at $h:ident) => `(tactic| simp -implicitDefEqProofs (disch := first | assumption | decide | omega | (simp only [List.length_cons, List.length_nil, Mem.put_n, Mem.new_n, Mem.kill_n]; omega)) only [↓KO_some, ↓K_vr, ↓kVr_0, ↓kVr_s, ↓K_cn, ↓K_pure, ↓K_op2, ↓kOp2a_at, ↓kOp2b_at, ↓K_op1, ↓kOp1_at, ↓K_argN, ↓K_argC, ↓kArg1_at, ↓kArg2_at, ↓K_opN, ↓kOpN_at, ↓K_call, ↓kCall_1, ↓kCall_2, ↓kCall_3, ↓kCall_4, ↓kCall_5, ↓K_tpl, ↓K_lsl, ↓K_lsm, ↓K_dctE, ↓kTpl_0, ↓kTpl_1, ↓kTpl_2, ↓kTpl_3, ↓kTpl_4, ↓kTpl_5, ↓kLsl_0, ↓kLsl_1, ↓kLsl_2, ↓kLsl_3, ↓kLsl_4, ↓kLsm_0, ↓K_tV, ↓kTV_at, ↓K_tAnd, ↓kTAnd_t, ↓kTAnd_f, ↓K_tOr, ↓kTOr_t, ↓kTOr_f, ↓K_tNot, ↓kTNot_t, ↓kTNot_f, ↓kTNot_at, ↓K_tYes, ↓K_vAnd, ↓kVAnd_t, ↓kVAnd_f, ↓K_vOr, ↓kVOr_t, ↓kVOr_f, ↓K_vNot, ↓kVNot_at, ↓K_ifE, ↓kIfE_t, ↓kIfE_f, ↓K_chn, ↓kChn0_at, ↓kChn1_at, ↓kChn2_t, ↓kChn2_f, ↓K_soN, ↓K_soS, ↓kSoS_at, ↓K_slc, ↓kSlc0_at, ↓kSlc1_at, ↓kSlc2_at, ↓KSl_tup, ↓KSl_lst, ↓K_sNext, ↓K_sSeq, ↓kSeq_nx, ↓kSeq_rt, ↓K_sRet, ↓kRet_at, ↓K_sRetN, ↓K_sExp, ↓kExp_at, ↓K_sIf, ↓kIf_t, ↓kIf_f, ↓kSet_0, ↓kSet_s, ↓kUn_c, ↓kUn_n, ↓K_sAsg, ↓kAsg_nm, ↓kAsg_tp, ↓kNms_c, ↓kNmsC_at, ↓kNms_n, ↓K_sPar, ↓kPar1_at, ↓kPar2_at, ↓K_run, ↓kRun_rt, ↓kRun_nx, ↓K2_add_i, ↓K2_sub_i, ↓K2_mul_i, ↓K2_mod_i, ↓K2_fdiv_i, ↓K2_lt_i, ↓K2_le_i, ↓K2_gt_i, ↓K2_ge_i, ↓K2_eq_i, ↓K2_ne_i, ↓K2_eq_st, ↓K2_eq_sf, ↓K2_ne_st, ↓K2_ne_sf, ↓K2_eq_b, ↓K2_add_t, ↓K2_add_l, ↓K1_neg_i, ↓K2_isN_n, ↓K2_isN_i, ↓K2_isN_s, ↓K2_isN_t, ↓K2_isN_l, ↓K2_isN_c, ↓K2_notN_n, ↓K2_notN_i, ↓K2_notN_s, ↓K2_notN_t, ↓K2_notN_l, ↓K2_notN_c, ↓K2_ix_t, ↓K2_ix_l, ↓KIx_0, ↓KIx_1, ↓KIx_2, ↓KIx_3, ↓KIx_4, ↓KIx_m1a, ↓KIx_m1b, ↓KIx_m1c, ↓KIx_m1d, ↓KN_len_t, ↓KN_len_l, ↓KN_max2, ↓KN_min2, ↓KN_int_i, ↓KN_int_t, ↓KN_int_f, ↓KN_tuple_l, ↓KN_tuple_t, ↓KN_maxl, ↓KN_suml, ↓K1_isi_n, ↓K1_isi_b, ↓K1_isi_i, ↓K1_isi_s, ↓K1_isi_t, ↓K1_isi_l, ↓KG_put_eq, ↓KG_put_ne, ↓KG_new_eq, ↓KG_new_ne, ↓KG_kill_ne, ↓K2_ix_c, ↓kIxL_at, ↓KN_len_c, ↓kLenL_l, ↓kLenL_d, ↓KN_tuple_c, ↓kTupL_at, ↓KN_max_c, ↓kMaxL_at, ↓KSl_c, ↓kSlL_at, ↓K_appE, ↓kApp1_at, ↓kApp1b_at, ↓kApp2_at, ↓kApp3_at, ↓K_sLput, ↓kPut1_at, ↓kPut2_at, ↓kPut3_at, ↓kPut4_at, ↓K2_dget_i, ↓K2_dget_s, ↓kDgD_at, ↓KVk_eq, ↓KVk_ne, ↓KVd_eq, ↓KVd_ne, ↓KVd_n, ↓K_dget2, ↓kDg1_at, ↓kDg1b_at, ↓kDg2_at, ↓kDg3_at, ↓kDg4_i, ↓kDg4_s, ↓K_sDput, ↓kDp1_at, ↓kDp2_at, ↓kDp3_i, ↓kDp3_s, ↓kDp4_at, ↓K1_fld, ↓kFldO_at, ↓KFl_eq, ↓KFl_ne, ↓K_sFput, ↓kFp1_at, ↓kFp2_at, ↓kFp3_at, ↓kPf_n, ↓kPf_eq, ↓kPu_c, ↓kPu_n, ↓kPf_ne, ↓K_callM, ↓kMt1_at, ↓kMt2_at, ↓kNo_n, ↓kNo_c, ↓kMt3_0, ↓kMt3_1, ↓kMt3_2, ↓kMt3_3, ↓kMt3_4, ↓K_mkE, ↓kMk_1, ↓kMk_2, ↓kMk_3, ↓kMk2_at, ↓K_sFor, ↓kFor_at, ↓K_itRng1, ↓kRng1_nat, ↓K_itRng2, ↓kRng2_at, ↓K_itSeq, ↓kSeqI_t, ↓kSeqI_l, ↓kSeqI_c, ↓kSeqL_at, ↓K_bodyG_nm, ↓K_bodyG_tp, ↓K_sWhile, ↓kComp_at, ↓K_comp, ↓K_compM, ↓kLst_at, ↓kLstM_at, ↓kEx_at, ↓K_exG_nm, ↓K_exG_tp, ↓kAlc_at, ↓K_opNM, ↓kOpNM_at, ↓KN_list_l2, ↓KN_list_t2, ↓KN_list_c, ↓kListL_at, ↓K_op2M, ↓kOp2Ma_at, ↓kOp2Mb_at, ↓K2_rep1, ↓K_prE_n, ↓K_prE_c, ↓kPr1_at, ↓kPr2_at, ↓kPr3_at, ↓K_dspE, ↓kDsp_s1, ↓kDsp_s2, ↓kDsp_s3, ↓kDsp_s4, ↓K_frz, ↓kFrz_c, ↓kFrz_l, ↓kFrz_t, ↓kFrz_n, ↓kFrzL_at, ↓K_extE, ↓kExt1_at, ↓kExt1b_at, ↓kExt2_at, ↓kExt3_at, ↓K_mt0E, ↓kMt0_at, ↓kMt0L_clear, ↓kMt0L_rev, ↓K2_in_t, ↓K2_in_f, ↓K2_notIn_t, ↓K2_notIn_f, ↓K_itZp, ↓kZp1_at, ↓K_itEn, ↓kEnI_t, ↓kEnI_l, ↓K2_din_i, ↓kDinD_at, ↓KR_put_0, ↓KR_put_1, ↓KR_put_2, ↓KR_put_l, ↓KR_put_into, ↓KR_put_end, ↓KR_put_looked, ↓KR_put_cut, ↓KR_move_0, ↓KR_move_1, ↓KR_move_2, ↓KR_move_l, ↓KR_move_into, ↓KR_move_end, ↓KR_move_looked, ↓KR_move_cut, ↓KR_add_0, ↓KR_add_1, ↓KR_add_2, ↓KR_add_3, ↓KR_add_l, ↓KR_add_into, ↓KR_add_end, ↓KR_add_looked, ↓KR_add_cut, ↓KR_take_0, ↓KR_take_1, ↓KR_take_2, ↓KR_take_3, ↓KR_take_l, ↓KR_take_into, ↓KR_take_end, ↓KR_take_looked, ↓KR_take_cut, ↓KR_times_0, ↓KR_times_1, ↓KR_times_2, ↓KR_times_3, ↓KR_times_l, ↓KR_times_into, ↓KR_times_end, ↓KR_times_looked, ↓KR_times_cut, ↓KR_get_0, ↓KR_get_1, ↓KR_get_2, ↓KR_get_l, ↓KR_get_into, ↓KR_get_end, ↓KR_get_looked, ↓KR_get_cut, ↓KR_set_0, ↓KR_set_1, ↓KR_set_2, ↓KR_set_l, ↓KR_set_into, ↓KR_set_end, ↓KR_set_looked, ↓KR_set_cut, ↓KR_say_0, ↓KR_say_1, ↓KR_say_l, ↓KR_say_into, ↓KR_say_end, ↓KR_say_looked, ↓KR_say_cut, ↓KR_rest_0, ↓KR_rest_l, ↓KR_rest_into, ↓KR_rest_end, ↓KR_rest_looked, ↓KR_rest_cut, ↓KR_go_0, ↓KR_go_1, ↓KR_go_l, ↓KR_go_into, ↓KR_go_end, ↓KR_go_looked, ↓KR_go_cut, ↓KR_ifr_0, ↓KR_ifr_1, ↓KR_ifr_2, ↓KR_ifr_l, ↓KR_ifr_into, ↓KR_ifr_end, ↓KR_ifr_looked, ↓KR_ifr_cut, ↓KR_stop_0, ↓KR_stop_l, ↓KR_stop_into, ↓KR_stop_end, ↓KR_stop_looked, ↓KR_stop_cut, ↓KR_late, ↓KR_far, ↓KR_num, ↓KR_mill_0, ↓KR_mill_1, ↓KR_mill_2, ↓KR_mill_3, ↓KR_pi_len, ↓KA_stop, ↓KA_goes, ↓KA_ends, ↓K_mt1E, ↓kM1_l, ↓kM1_s, ↓kM1b_at, ↓K1_isi_c, ↓kIsiL_at, ↓KN_minl, ↓K2_isB, ↓K2_notB, ↓K1_rev_t, ↓K1_rev_l, ↓K2_nin, ↓K2_nnotin, ↓kNinD_pk, ↓kNnotD_pk, ↓K_nget2, ↓kNg1_at, ↓kNg1b_at, ↓kNg2_at, ↓kNg3_at, ↓kNg4_pk, ↓K_ndctE, ↓K_sNput, ↓kNp1_at, ↓kNp2_at, ↓kNp4_at, ↓K_ndsp1, ↓kNd1_at, ↓KN_nlen_c, ↓kNlenL_at, start0, List.map_cons, List.map_nil, List.length_cons, List.length_nil, List.replicate_succ, List.replicate_zero, Nat.reduceSub, Nat.reduceAdd, wipeE, List.set_cons_zero, List.set_cons_succ, List.cons_append, List.nil_append, $as,*] at $h:ident)
section
variable {m : Mem} {o cm : Nat} {p : List Row} {t : Mill} {fnd : D}
end
section
variable {m : Mem} {p : List Row} {t : Mill}
end
end
end LB

set_option Elab.async false
set_option linter.all false
set_option autoImplicit false
set_option maxRecDepth 100000
set_option maxHeartbeats 4000000
/-! Pure: the law's look: broken, onward. -/
namespace LB
open PySem
noncomputable section
local macro_rules | `(tactic| simp_arith [$as,*]) => `(tactic| simp -implicitDefEqProofs (disch := first | assumption | decide | omega | (simp only [List.length_cons, List.length_nil, Mem.put_n, Mem.new_n, Mem.kill_n]; omega)) only [↓KO_some, ↓K_vr, ↓kVr_0, ↓kVr_s, ↓K_cn, ↓K_pure, ↓K_op2, ↓kOp2a_at, ↓kOp2b_at, ↓K_op1, ↓kOp1_at, ↓K_argN, ↓K_argC, ↓kArg1_at, ↓kArg2_at, ↓K_opN, ↓kOpN_at, ↓K_call, ↓kCall_1, ↓kCall_2, ↓kCall_3, ↓kCall_4, ↓kCall_5, ↓K_tpl, ↓K_lsl, ↓K_lsm, ↓K_dctE, ↓kTpl_0, ↓kTpl_1, ↓kTpl_2, ↓kTpl_3, ↓kTpl_4, ↓kTpl_5, ↓kLsl_0, ↓kLsl_1, ↓kLsl_2, ↓kLsl_3, ↓kLsl_4, ↓kLsm_0, ↓K_tV, ↓kTV_at, ↓K_tAnd, ↓kTAnd_t, ↓kTAnd_f, ↓K_tOr, ↓kTOr_t, ↓kTOr_f, ↓K_tNot, ↓kTNot_t, ↓kTNot_f, ↓kTNot_at, ↓K_tYes, ↓K_vAnd, ↓kVAnd_t, ↓kVAnd_f, ↓K_vOr, ↓kVOr_t, ↓kVOr_f, ↓K_vNot, ↓kVNot_at, ↓K_ifE, ↓kIfE_t, ↓kIfE_f, ↓K_chn, ↓kChn0_at, ↓kChn1_at, ↓kChn2_t, ↓kChn2_f, ↓K_soN, ↓K_soS, ↓kSoS_at, ↓K_slc, ↓kSlc0_at, ↓kSlc1_at, ↓kSlc2_at, ↓KSl_tup, ↓KSl_lst, ↓K_sNext, ↓K_sSeq, ↓kSeq_nx, ↓kSeq_rt, ↓K_sRet, ↓kRet_at, ↓K_sRetN, ↓K_sExp, ↓kExp_at, ↓K_sIf, ↓kIf_t, ↓kIf_f, ↓kSet_0, ↓kSet_s, ↓kUn_c, ↓kUn_n, ↓K_sAsg, ↓kAsg_nm, ↓kAsg_tp, ↓kNms_c, ↓kNmsC_at, ↓kNms_n, ↓K_sPar, ↓kPar1_at, ↓kPar2_at, ↓K_run, ↓kRun_rt, ↓kRun_nx, ↓K2_add_i, ↓K2_sub_i, ↓K2_mul_i, ↓K2_mod_i, ↓K2_fdiv_i, ↓K2_lt_i, ↓K2_le_i, ↓K2_gt_i, ↓K2_ge_i, ↓K2_eq_i, ↓K2_ne_i, ↓K2_eq_st, ↓K2_eq_sf, ↓K2_ne_st, ↓K2_ne_sf, ↓K2_eq_b, ↓K2_add_t, ↓K2_add_l, ↓K1_neg_i, ↓K2_isN_n, ↓K2_isN_i, ↓K2_isN_s, ↓K2_isN_t, ↓K2_isN_l, ↓K2_isN_c, ↓K2_notN_n, ↓K2_notN_i, ↓K2_notN_s, ↓K2_notN_t, ↓K2_notN_l, ↓K2_notN_c, ↓K2_ix_t, ↓K2_ix_l, ↓KIx_0, ↓KIx_1, ↓KIx_2, ↓KIx_3, ↓KIx_4, ↓KIx_m1a, ↓KIx_m1b, ↓KIx_m1c, ↓KIx_m1d, ↓KN_len_t, ↓KN_len_l, ↓KN_max2, ↓KN_min2, ↓KN_int_i, ↓KN_int_t, ↓KN_int_f, ↓KN_tuple_l, ↓KN_tuple_t, ↓KN_maxl, ↓KN_suml, ↓K1_isi_n, ↓K1_isi_b, ↓K1_isi_i, ↓K1_isi_s, ↓K1_isi_t, ↓K1_isi_l, ↓KG_put_eq, ↓KG_put_ne, ↓KG_new_eq, ↓KG_new_ne, ↓KG_kill_ne, ↓K2_ix_c, ↓kIxL_at, ↓KN_len_c, ↓kLenL_l, ↓kLenL_d, ↓KN_tuple_c, ↓kTupL_at, ↓KN_max_c, ↓kMaxL_at, ↓KSl_c, ↓kSlL_at, ↓K_appE, ↓kApp1_at, ↓kApp1b_at, ↓kApp2_at, ↓kApp3_at, ↓K_sLput, ↓kPut1_at, ↓kPut2_at, ↓kPut3_at, ↓kPut4_at, ↓K2_dget_i, ↓K2_dget_s, ↓kDgD_at, ↓KVk_eq, ↓KVk_ne, ↓KVd_eq, ↓KVd_ne, ↓KVd_n, ↓K_dget2, ↓kDg1_at, ↓kDg1b_at, ↓kDg2_at, ↓kDg3_at, ↓kDg4_i, ↓kDg4_s, ↓K_sDput, ↓kDp1_at, ↓kDp2_at, ↓kDp3_i, ↓kDp3_s, ↓kDp4_at, ↓K1_fld, ↓kFldO_at, ↓KFl_eq, ↓KFl_ne, ↓K_sFput, ↓kFp1_at, ↓kFp2_at, ↓kFp3_at, ↓kPf_n, ↓kPf_eq, ↓kPu_c, ↓kPu_n, ↓kPf_ne, ↓K_callM, ↓kMt1_at, ↓kMt2_at, ↓kNo_n, ↓kNo_c, ↓kMt3_0, ↓kMt3_1, ↓kMt3_2, ↓kMt3_3, ↓kMt3_4, ↓K_mkE, ↓kMk_1, ↓kMk_2, ↓kMk_3, ↓kMk2_at, ↓K_sFor, ↓kFor_at, ↓K_itRng1, ↓kRng1_nat, ↓K_itRng2, ↓kRng2_at, ↓K_itSeq, ↓kSeqI_t, ↓kSeqI_l, ↓kSeqI_c, ↓kSeqL_at, ↓K_bodyG_nm, ↓K_bodyG_tp, ↓K_sWhile, ↓kComp_at, ↓K_comp, ↓K_compM, ↓kLst_at, ↓kLstM_at, ↓kEx_at, ↓K_exG_nm, ↓K_exG_tp, ↓kAlc_at, ↓K_opNM, ↓kOpNM_at, ↓KN_list_l2, ↓KN_list_t2, ↓KN_list_c, ↓kListL_at, ↓K_op2M, ↓kOp2Ma_at, ↓kOp2Mb_at, ↓K2_rep1, ↓K_prE_n, ↓K_prE_c, ↓kPr1_at, ↓kPr2_at, ↓kPr3_at, ↓K_dspE, ↓kDsp_s1, ↓kDsp_s2, ↓kDsp_s3, ↓kDsp_s4, ↓K_frz, ↓kFrz_c, ↓kFrz_l, ↓kFrz_t, ↓kFrz_n, ↓kFrzL_at, ↓K_extE, ↓kExt1_at, ↓kExt1b_at, ↓kExt2_at, ↓kExt3_at, ↓K_mt0E, ↓kMt0_at, ↓kMt0L_clear, ↓kMt0L_rev, ↓K2_in_t, ↓K2_in_f, ↓K2_notIn_t, ↓K2_notIn_f, ↓K_itZp, ↓kZp1_at, ↓K_itEn, ↓kEnI_t, ↓kEnI_l, ↓K2_din_i, ↓kDinD_at, ↓KR_put_0, ↓KR_put_1, ↓KR_put_2, ↓KR_put_l, ↓KR_put_into, ↓KR_put_end, ↓KR_put_looked, ↓KR_put_cut, ↓KR_move_0, ↓KR_move_1, ↓KR_move_2, ↓KR_move_l, ↓KR_move_into, ↓KR_move_end, ↓KR_move_looked, ↓KR_move_cut, ↓KR_add_0, ↓KR_add_1, ↓KR_add_2, ↓KR_add_3, ↓KR_add_l, ↓KR_add_into, ↓KR_add_end, ↓KR_add_looked, ↓KR_add_cut, ↓KR_take_0, ↓KR_take_1, ↓KR_take_2, ↓KR_take_3, ↓KR_take_l, ↓KR_take_into, ↓KR_take_end, ↓KR_take_looked, ↓KR_take_cut, ↓KR_times_0, ↓KR_times_1, ↓KR_times_2, ↓KR_times_3, ↓KR_times_l, ↓KR_times_into, ↓KR_times_end, ↓KR_times_looked, ↓KR_times_cut, ↓KR_get_0, ↓KR_get_1, ↓KR_get_2, ↓KR_get_l, ↓KR_get_into, ↓KR_get_end, ↓KR_get_looked, ↓KR_get_cut, ↓KR_set_0, ↓KR_set_1, ↓KR_set_2, ↓KR_set_l, ↓KR_set_into, ↓KR_set_end, ↓KR_set_looked, ↓KR_set_cut, ↓KR_say_0, ↓KR_say_1, ↓KR_say_l, ↓KR_say_into, ↓KR_say_end, ↓KR_say_looked, ↓KR_say_cut, ↓KR_rest_0, ↓KR_rest_l, ↓KR_rest_into, ↓KR_rest_end, ↓KR_rest_looked, ↓KR_rest_cut, ↓KR_go_0, ↓KR_go_1, ↓KR_go_l, ↓KR_go_into, ↓KR_go_end, ↓KR_go_looked, ↓KR_go_cut, ↓KR_ifr_0, ↓KR_ifr_1, ↓KR_ifr_2, ↓KR_ifr_l, ↓KR_ifr_into, ↓KR_ifr_end, ↓KR_ifr_looked, ↓KR_ifr_cut, ↓KR_stop_0, ↓KR_stop_l, ↓KR_stop_into, ↓KR_stop_end, ↓KR_stop_looked, ↓KR_stop_cut, ↓KR_late, ↓KR_far, ↓KR_num, ↓KR_mill_0, ↓KR_mill_1, ↓KR_mill_2, ↓KR_mill_3, ↓KR_pi_len, ↓KA_stop, ↓KA_goes, ↓KA_ends, ↓K_mt1E, ↓kM1_l, ↓kM1_s, ↓kM1b_at, ↓K1_isi_c, ↓kIsiL_at, ↓KN_minl, ↓K2_isB, ↓K2_notB, ↓K1_rev_t, ↓K1_rev_l, ↓K2_nin, ↓K2_nnotin, ↓kNinD_pk, ↓kNnotD_pk, ↓K_nget2, ↓kNg1_at, ↓kNg1b_at, ↓kNg2_at, ↓kNg3_at, ↓kNg4_pk, ↓K_ndctE, ↓K_sNput, ↓kNp1_at, ↓kNp2_at, ↓kNp4_at, ↓K_ndsp1, ↓kNd1_at, ↓KN_nlen_c, ↓kNlenL_at, start0, List.map_cons, List.map_nil, List.length_cons, List.length_nil, List.replicate_succ, List.replicate_zero, Nat.reduceSub, Nat.reduceAdd, wipeE, List.set_cons_zero, List.set_cons_succ, List.cons_append, List.nil_append, $as,*])
local macro_rules | `(tactic| simp_arith [$as,*] at $h:ident) => `(tactic| simp -implicitDefEqProofs (disch := first | assumption | decide | omega | (simp only [List.length_cons, List.length_nil, Mem.put_n, Mem.new_n, Mem.kill_n]; omega)) only [↓KO_some, ↓K_vr, ↓kVr_0, ↓kVr_s, ↓K_cn, ↓K_pure, ↓K_op2, ↓kOp2a_at, ↓kOp2b_at, ↓K_op1, ↓kOp1_at, ↓K_argN, ↓K_argC, ↓kArg1_at, ↓kArg2_at, ↓K_opN, ↓kOpN_at, ↓K_call, ↓kCall_1, ↓kCall_2, ↓kCall_3, ↓kCall_4, ↓kCall_5, ↓K_tpl, ↓K_lsl, ↓K_lsm, ↓K_dctE, ↓kTpl_0, ↓kTpl_1, ↓kTpl_2, ↓kTpl_3, ↓kTpl_4, ↓kTpl_5, ↓kLsl_0, ↓kLsl_1, ↓kLsl_2, ↓kLsl_3, ↓kLsl_4, ↓kLsm_0, ↓K_tV, ↓kTV_at, ↓K_tAnd, ↓kTAnd_t, ↓kTAnd_f, ↓K_tOr, ↓kTOr_t, ↓kTOr_f, ↓K_tNot, ↓kTNot_t, ↓kTNot_f, ↓kTNot_at, ↓K_tYes, ↓K_vAnd, ↓kVAnd_t, ↓kVAnd_f, ↓K_vOr, ↓kVOr_t, ↓kVOr_f, ↓K_vNot, ↓kVNot_at, ↓K_ifE, ↓kIfE_t, ↓kIfE_f, ↓K_chn, ↓kChn0_at, ↓kChn1_at, ↓kChn2_t, ↓kChn2_f, ↓K_soN, ↓K_soS, ↓kSoS_at, ↓K_slc, ↓kSlc0_at, ↓kSlc1_at, ↓kSlc2_at, ↓KSl_tup, ↓KSl_lst, ↓K_sNext, ↓K_sSeq, ↓kSeq_nx, ↓kSeq_rt, ↓K_sRet, ↓kRet_at, ↓K_sRetN, ↓K_sExp, ↓kExp_at, ↓K_sIf, ↓kIf_t, ↓kIf_f, ↓kSet_0, ↓kSet_s, ↓kUn_c, ↓kUn_n, ↓K_sAsg, ↓kAsg_nm, ↓kAsg_tp, ↓kNms_c, ↓kNmsC_at, ↓kNms_n, ↓K_sPar, ↓kPar1_at, ↓kPar2_at, ↓K_run, ↓kRun_rt, ↓kRun_nx, ↓K2_add_i, ↓K2_sub_i, ↓K2_mul_i, ↓K2_mod_i, ↓K2_fdiv_i, ↓K2_lt_i, ↓K2_le_i, ↓K2_gt_i, ↓K2_ge_i, ↓K2_eq_i, ↓K2_ne_i, ↓K2_eq_st, ↓K2_eq_sf, ↓K2_ne_st, ↓K2_ne_sf, ↓K2_eq_b, ↓K2_add_t, ↓K2_add_l, ↓K1_neg_i, ↓K2_isN_n, ↓K2_isN_i, ↓K2_isN_s, ↓K2_isN_t, ↓K2_isN_l, ↓K2_isN_c, ↓K2_notN_n, ↓K2_notN_i, ↓K2_notN_s, ↓K2_notN_t, ↓K2_notN_l, ↓K2_notN_c, ↓K2_ix_t, ↓K2_ix_l, ↓KIx_0, ↓KIx_1, ↓KIx_2, ↓KIx_3, ↓KIx_4, ↓KIx_m1a, ↓KIx_m1b, ↓KIx_m1c, ↓KIx_m1d, ↓KN_len_t, ↓KN_len_l, ↓KN_max2, ↓KN_min2, ↓KN_int_i, ↓KN_int_t, ↓KN_int_f, ↓KN_tuple_l, ↓KN_tuple_t, ↓KN_maxl, ↓KN_suml, ↓K1_isi_n, ↓K1_isi_b, ↓K1_isi_i, ↓K1_isi_s, ↓K1_isi_t, ↓K1_isi_l, ↓KG_put_eq, ↓KG_put_ne, ↓KG_new_eq, ↓KG_new_ne, ↓KG_kill_ne, ↓K2_ix_c, ↓kIxL_at, ↓KN_len_c, ↓kLenL_l, ↓kLenL_d, ↓KN_tuple_c, ↓kTupL_at, ↓KN_max_c, ↓kMaxL_at, ↓KSl_c, ↓kSlL_at, ↓K_appE, ↓kApp1_at, ↓kApp1b_at, ↓kApp2_at, ↓kApp3_at, ↓K_sLput, ↓kPut1_at, ↓kPut2_at, ↓kPut3_at, ↓kPut4_at, ↓K2_dget_i, ↓K2_dget_s, ↓kDgD_at, ↓KVk_eq, ↓KVk_ne, ↓KVd_eq, ↓KVd_ne, ↓KVd_n, ↓K_dget2, ↓kDg1_at, ↓kDg1b_at, ↓kDg2_at, ↓kDg3_at, ↓kDg4_i, ↓kDg4_s, ↓K_sDput, ↓kDp1_at, ↓kDp2_at, ↓kDp3_i, ↓kDp3_s, ↓kDp4_at, ↓K1_fld, ↓kFldO_at, ↓KFl_eq, ↓KFl_ne, ↓K_sFput, ↓kFp1_at, ↓kFp2_at, ↓kFp3_at, ↓kPf_n, ↓kPf_eq, ↓kPu_c, ↓kPu_n, ↓kPf_ne, ↓K_callM, ↓kMt1_at, ↓kMt2_at, ↓kNo_n, ↓kNo_c, ↓kMt3_0, ↓kMt3_1, ↓kMt3_2, ↓kMt3_3, ↓kMt3_4, ↓K_mkE, ↓kMk_1, ↓kMk_2, ↓kMk_3, ↓kMk2_at, ↓K_sFor, ↓kFor_at, ↓K_itRng1, ↓kRng1_nat, ↓K_itRng2, ↓kRng2_at, ↓K_itSeq, ↓kSeqI_t, ↓kSeqI_l, ↓kSeqI_c, ↓kSeqL_at, ↓K_bodyG_nm, ↓K_bodyG_tp, ↓K_sWhile, ↓kComp_at, ↓K_comp, ↓K_compM, ↓kLst_at, ↓kLstM_at, ↓kEx_at, ↓K_exG_nm, ↓K_exG_tp, ↓kAlc_at, ↓K_opNM, ↓kOpNM_at, ↓KN_list_l2, ↓KN_list_t2, ↓KN_list_c, ↓kListL_at, ↓K_op2M, ↓kOp2Ma_at, ↓kOp2Mb_at, ↓K2_rep1, ↓K_prE_n, ↓K_prE_c, ↓kPr1_at, ↓kPr2_at, ↓kPr3_at, ↓K_dspE, ↓kDsp_s1, ↓kDsp_s2, ↓kDsp_s3, ↓kDsp_s4, ↓K_frz, ↓kFrz_c, ↓kFrz_l, ↓kFrz_t, ↓kFrz_n, ↓kFrzL_at, ↓K_extE, ↓kExt1_at, ↓kExt1b_at, ↓kExt2_at, ↓kExt3_at, ↓K_mt0E, ↓kMt0_at, ↓kMt0L_clear, ↓kMt0L_rev, ↓K2_in_t, ↓K2_in_f, ↓K2_notIn_t, ↓K2_notIn_f, ↓K_itZp, ↓kZp1_at, ↓K_itEn, ↓kEnI_t, ↓kEnI_l, ↓K2_din_i, ↓kDinD_at, ↓KR_put_0, ↓KR_put_1, ↓KR_put_2, ↓KR_put_l, ↓KR_put_into, ↓KR_put_end, ↓KR_put_looked, ↓KR_put_cut, ↓KR_move_0, ↓KR_move_1, ↓KR_move_2, ↓KR_move_l, ↓KR_move_into, ↓KR_move_end, ↓KR_move_looked, ↓KR_move_cut, ↓KR_add_0, ↓KR_add_1, ↓KR_add_2, ↓KR_add_3, ↓KR_add_l, ↓KR_add_into, ↓KR_add_end, ↓KR_add_looked, ↓KR_add_cut, ↓KR_take_0, ↓KR_take_1, ↓KR_take_2, ↓KR_take_3, ↓KR_take_l, ↓KR_take_into, ↓KR_take_end, ↓KR_take_looked, ↓KR_take_cut, ↓KR_times_0, ↓KR_times_1, ↓KR_times_2, ↓KR_times_3, ↓KR_times_l, ↓KR_times_into, ↓KR_times_end, ↓KR_times_looked, ↓KR_times_cut, ↓KR_get_0, ↓KR_get_1, ↓KR_get_2, ↓KR_get_l, ↓KR_get_into, ↓KR_get_end, ↓KR_get_looked, ↓KR_get_cut, ↓KR_set_0, ↓KR_set_1, ↓KR_set_2, ↓KR_set_l, ↓KR_set_into, ↓KR_set_end, ↓KR_set_looked, ↓KR_set_cut, ↓KR_say_0, ↓KR_say_1, ↓KR_say_l, ↓KR_say_into, ↓KR_say_end, ↓KR_say_looked, ↓KR_say_cut, ↓KR_rest_0, ↓KR_rest_l, ↓KR_rest_into, ↓KR_rest_end, ↓KR_rest_looked, ↓KR_rest_cut, ↓KR_go_0, ↓KR_go_1, ↓KR_go_l, ↓KR_go_into, ↓KR_go_end, ↓KR_go_looked, ↓KR_go_cut, ↓KR_ifr_0, ↓KR_ifr_1, ↓KR_ifr_2, ↓KR_ifr_l, ↓KR_ifr_into, ↓KR_ifr_end, ↓KR_ifr_looked, ↓KR_ifr_cut, ↓KR_stop_0, ↓KR_stop_l, ↓KR_stop_into, ↓KR_stop_end, ↓KR_stop_looked, ↓KR_stop_cut, ↓KR_late, ↓KR_far, ↓KR_num, ↓KR_mill_0, ↓KR_mill_1, ↓KR_mill_2, ↓KR_mill_3, ↓KR_pi_len, ↓KA_stop, ↓KA_goes, ↓KA_ends, ↓K_mt1E, ↓kM1_l, ↓kM1_s, ↓kM1b_at, ↓K1_isi_c, ↓kIsiL_at, ↓KN_minl, ↓K2_isB, ↓K2_notB, ↓K1_rev_t, ↓K1_rev_l, ↓K2_nin, ↓K2_nnotin, ↓kNinD_pk, ↓kNnotD_pk, ↓K_nget2, ↓kNg1_at, ↓kNg1b_at, ↓kNg2_at, ↓kNg3_at, ↓kNg4_pk, ↓K_ndctE, ↓K_sNput, ↓kNp1_at, ↓kNp2_at, ↓kNp4_at, ↓K_ndsp1, ↓kNd1_at, ↓KN_nlen_c, ↓kNlenL_at, start0, List.map_cons, List.map_nil, List.length_cons, List.length_nil, List.replicate_succ, List.replicate_zero, Nat.reduceSub, Nat.reduceAdd, wipeE, List.set_cons_zero, List.set_cons_succ, List.cons_append, List.nil_append, $as,*] at $h:ident)
section
variable {m : Mem} {p : List Row} {t : Mill}
end
end
end LB

set_option Elab.async false
set_option linter.all false
set_option autoImplicit false
set_option maxRecDepth 100000
set_option maxHeartbeats 4000000
/-! Pure: the law's look: onward. -/
namespace LB
open PySem
noncomputable section
local macro_rules | `(tactic| simp_arith [$as,*]) => `(tactic| simp -implicitDefEqProofs (disch := first | assumption | decide | omega | (simp only [List.length_cons, List.length_nil, Mem.put_n, Mem.new_n, Mem.kill_n]; omega)) only [↓KO_some, ↓K_vr, ↓kVr_0, ↓kVr_s, ↓K_cn, ↓K_pure, ↓K_op2, ↓kOp2a_at, ↓kOp2b_at, ↓K_op1, ↓kOp1_at, ↓K_argN, ↓K_argC, ↓kArg1_at, ↓kArg2_at, ↓K_opN, ↓kOpN_at, ↓K_call, ↓kCall_1, ↓kCall_2, ↓kCall_3, ↓kCall_4, ↓kCall_5, ↓K_tpl, ↓K_lsl, ↓K_lsm, ↓K_dctE, ↓kTpl_0, ↓kTpl_1, ↓kTpl_2, ↓kTpl_3, ↓kTpl_4, ↓kTpl_5, ↓kLsl_0, ↓kLsl_1, ↓kLsl_2, ↓kLsl_3, ↓kLsl_4, ↓kLsm_0, ↓K_tV, ↓kTV_at, ↓K_tAnd, ↓kTAnd_t, ↓kTAnd_f, ↓K_tOr, ↓kTOr_t, ↓kTOr_f, ↓K_tNot, ↓kTNot_t, ↓kTNot_f, ↓kTNot_at, ↓K_tYes, ↓K_vAnd, ↓kVAnd_t, ↓kVAnd_f, ↓K_vOr, ↓kVOr_t, ↓kVOr_f, ↓K_vNot, ↓kVNot_at, ↓K_ifE, ↓kIfE_t, ↓kIfE_f, ↓K_chn, ↓kChn0_at, ↓kChn1_at, ↓kChn2_t, ↓kChn2_f, ↓K_soN, ↓K_soS, ↓kSoS_at, ↓K_slc, ↓kSlc0_at, ↓kSlc1_at, ↓kSlc2_at, ↓KSl_tup, ↓KSl_lst, ↓K_sNext, ↓K_sSeq, ↓kSeq_nx, ↓kSeq_rt, ↓K_sRet, ↓kRet_at, ↓K_sRetN, ↓K_sExp, ↓kExp_at, ↓K_sIf, ↓kIf_t, ↓kIf_f, ↓kSet_0, ↓kSet_s, ↓kUn_c, ↓kUn_n, ↓K_sAsg, ↓kAsg_nm, ↓kAsg_tp, ↓kNms_c, ↓kNmsC_at, ↓kNms_n, ↓K_sPar, ↓kPar1_at, ↓kPar2_at, ↓K_run, ↓kRun_rt, ↓kRun_nx, ↓K2_add_i, ↓K2_sub_i, ↓K2_mul_i, ↓K2_mod_i, ↓K2_fdiv_i, ↓K2_lt_i, ↓K2_le_i, ↓K2_gt_i, ↓K2_ge_i, ↓K2_eq_i, ↓K2_ne_i, ↓K2_eq_st, ↓K2_eq_sf, ↓K2_ne_st, ↓K2_ne_sf, ↓K2_eq_b, ↓K2_add_t, ↓K2_add_l, ↓K1_neg_i, ↓K2_isN_n, ↓K2_isN_i, ↓K2_isN_s, ↓K2_isN_t, ↓K2_isN_l, ↓K2_isN_c, ↓K2_notN_n, ↓K2_notN_i, ↓K2_notN_s, ↓K2_notN_t, ↓K2_notN_l, ↓K2_notN_c, ↓K2_ix_t, ↓K2_ix_l, ↓KIx_0, ↓KIx_1, ↓KIx_2, ↓KIx_3, ↓KIx_4, ↓KIx_m1a, ↓KIx_m1b, ↓KIx_m1c, ↓KIx_m1d, ↓KN_len_t, ↓KN_len_l, ↓KN_max2, ↓KN_min2, ↓KN_int_i, ↓KN_int_t, ↓KN_int_f, ↓KN_tuple_l, ↓KN_tuple_t, ↓KN_maxl, ↓KN_suml, ↓K1_isi_n, ↓K1_isi_b, ↓K1_isi_i, ↓K1_isi_s, ↓K1_isi_t, ↓K1_isi_l, ↓KG_put_eq, ↓KG_put_ne, ↓KG_new_eq, ↓KG_new_ne, ↓KG_kill_ne, ↓K2_ix_c, ↓kIxL_at, ↓KN_len_c, ↓kLenL_l, ↓kLenL_d, ↓KN_tuple_c, ↓kTupL_at, ↓KN_max_c, ↓kMaxL_at, ↓KSl_c, ↓kSlL_at, ↓K_appE, ↓kApp1_at, ↓kApp1b_at, ↓kApp2_at, ↓kApp3_at, ↓K_sLput, ↓kPut1_at, ↓kPut2_at, ↓kPut3_at, ↓kPut4_at, ↓K2_dget_i, ↓K2_dget_s, ↓kDgD_at, ↓KVk_eq, ↓KVk_ne, ↓KVd_eq, ↓KVd_ne, ↓KVd_n, ↓K_dget2, ↓kDg1_at, ↓kDg1b_at, ↓kDg2_at, ↓kDg3_at, ↓kDg4_i, ↓kDg4_s, ↓K_sDput, ↓kDp1_at, ↓kDp2_at, ↓kDp3_i, ↓kDp3_s, ↓kDp4_at, ↓K1_fld, ↓kFldO_at, ↓KFl_eq, ↓KFl_ne, ↓K_sFput, ↓kFp1_at, ↓kFp2_at, ↓kFp3_at, ↓kPf_n, ↓kPf_eq, ↓kPu_c, ↓kPu_n, ↓kPf_ne, ↓K_callM, ↓kMt1_at, ↓kMt2_at, ↓kNo_n, ↓kNo_c, ↓kMt3_0, ↓kMt3_1, ↓kMt3_2, ↓kMt3_3, ↓kMt3_4, ↓K_mkE, ↓kMk_1, ↓kMk_2, ↓kMk_3, ↓kMk2_at, ↓K_sFor, ↓kFor_at, ↓K_itRng1, ↓kRng1_nat, ↓K_itRng2, ↓kRng2_at, ↓K_itSeq, ↓kSeqI_t, ↓kSeqI_l, ↓kSeqI_c, ↓kSeqL_at, ↓K_bodyG_nm, ↓K_bodyG_tp, ↓K_sWhile, ↓kComp_at, ↓K_comp, ↓K_compM, ↓kLst_at, ↓kLstM_at, ↓kEx_at, ↓K_exG_nm, ↓K_exG_tp, ↓kAlc_at, ↓K_opNM, ↓kOpNM_at, ↓KN_list_l2, ↓KN_list_t2, ↓KN_list_c, ↓kListL_at, ↓K_op2M, ↓kOp2Ma_at, ↓kOp2Mb_at, ↓K2_rep1, ↓K_prE_n, ↓K_prE_c, ↓kPr1_at, ↓kPr2_at, ↓kPr3_at, ↓K_dspE, ↓kDsp_s1, ↓kDsp_s2, ↓kDsp_s3, ↓kDsp_s4, ↓K_frz, ↓kFrz_c, ↓kFrz_l, ↓kFrz_t, ↓kFrz_n, ↓kFrzL_at, ↓K_extE, ↓kExt1_at, ↓kExt1b_at, ↓kExt2_at, ↓kExt3_at, ↓K_mt0E, ↓kMt0_at, ↓kMt0L_clear, ↓kMt0L_rev, ↓K2_in_t, ↓K2_in_f, ↓K2_notIn_t, ↓K2_notIn_f, ↓K_itZp, ↓kZp1_at, ↓K_itEn, ↓kEnI_t, ↓kEnI_l, ↓K2_din_i, ↓kDinD_at, ↓KR_put_0, ↓KR_put_1, ↓KR_put_2, ↓KR_put_l, ↓KR_put_into, ↓KR_put_end, ↓KR_put_looked, ↓KR_put_cut, ↓KR_move_0, ↓KR_move_1, ↓KR_move_2, ↓KR_move_l, ↓KR_move_into, ↓KR_move_end, ↓KR_move_looked, ↓KR_move_cut, ↓KR_add_0, ↓KR_add_1, ↓KR_add_2, ↓KR_add_3, ↓KR_add_l, ↓KR_add_into, ↓KR_add_end, ↓KR_add_looked, ↓KR_add_cut, ↓KR_take_0, ↓KR_take_1, ↓KR_take_2, ↓KR_take_3, ↓KR_take_l, ↓KR_take_into, ↓KR_take_end, ↓KR_take_looked, ↓KR_take_cut, ↓KR_times_0, ↓KR_times_1, ↓KR_times_2, ↓KR_times_3, ↓KR_times_l, ↓KR_times_into, ↓KR_times_end, ↓KR_times_looked, ↓KR_times_cut, ↓KR_get_0, ↓KR_get_1, ↓KR_get_2, ↓KR_get_l, ↓KR_get_into, ↓KR_get_end, ↓KR_get_looked, ↓KR_get_cut, ↓KR_set_0, ↓KR_set_1, ↓KR_set_2, ↓KR_set_l, ↓KR_set_into, ↓KR_set_end, ↓KR_set_looked, ↓KR_set_cut, ↓KR_say_0, ↓KR_say_1, ↓KR_say_l, ↓KR_say_into, ↓KR_say_end, ↓KR_say_looked, ↓KR_say_cut, ↓KR_rest_0, ↓KR_rest_l, ↓KR_rest_into, ↓KR_rest_end, ↓KR_rest_looked, ↓KR_rest_cut, ↓KR_go_0, ↓KR_go_1, ↓KR_go_l, ↓KR_go_into, ↓KR_go_end, ↓KR_go_looked, ↓KR_go_cut, ↓KR_ifr_0, ↓KR_ifr_1, ↓KR_ifr_2, ↓KR_ifr_l, ↓KR_ifr_into, ↓KR_ifr_end, ↓KR_ifr_looked, ↓KR_ifr_cut, ↓KR_stop_0, ↓KR_stop_l, ↓KR_stop_into, ↓KR_stop_end, ↓KR_stop_looked, ↓KR_stop_cut, ↓KR_late, ↓KR_far, ↓KR_num, ↓KR_mill_0, ↓KR_mill_1, ↓KR_mill_2, ↓KR_mill_3, ↓KR_pi_len, ↓KA_stop, ↓KA_goes, ↓KA_ends, ↓K_mt1E, ↓kM1_l, ↓kM1_s, ↓kM1b_at, ↓K1_isi_c, ↓kIsiL_at, ↓KN_minl, ↓K2_isB, ↓K2_notB, ↓K1_rev_t, ↓K1_rev_l, ↓K2_nin, ↓K2_nnotin, ↓kNinD_pk, ↓kNnotD_pk, ↓K_nget2, ↓kNg1_at, ↓kNg1b_at, ↓kNg2_at, ↓kNg3_at, ↓kNg4_pk, ↓K_ndctE, ↓K_sNput, ↓kNp1_at, ↓kNp2_at, ↓kNp4_at, ↓K_ndsp1, ↓kNd1_at, ↓KN_nlen_c, ↓kNlenL_at, start0, List.map_cons, List.map_nil, List.length_cons, List.length_nil, List.replicate_succ, List.replicate_zero, Nat.reduceSub, Nat.reduceAdd, wipeE, List.set_cons_zero, List.set_cons_succ, List.cons_append, List.nil_append, $as,*])
local macro_rules | `(tactic| simp_arith [$as,*] at $h:ident) => `(tactic| simp -implicitDefEqProofs (disch := first | assumption | decide | omega | (simp only [List.length_cons, List.length_nil, Mem.put_n, Mem.new_n, Mem.kill_n]; omega)) only [↓KO_some, ↓K_vr, ↓kVr_0, ↓kVr_s, ↓K_cn, ↓K_pure, ↓K_op2, ↓kOp2a_at, ↓kOp2b_at, ↓K_op1, ↓kOp1_at, ↓K_argN, ↓K_argC, ↓kArg1_at, ↓kArg2_at, ↓K_opN, ↓kOpN_at, ↓K_call, ↓kCall_1, ↓kCall_2, ↓kCall_3, ↓kCall_4, ↓kCall_5, ↓K_tpl, ↓K_lsl, ↓K_lsm, ↓K_dctE, ↓kTpl_0, ↓kTpl_1, ↓kTpl_2, ↓kTpl_3, ↓kTpl_4, ↓kTpl_5, ↓kLsl_0, ↓kLsl_1, ↓kLsl_2, ↓kLsl_3, ↓kLsl_4, ↓kLsm_0, ↓K_tV, ↓kTV_at, ↓K_tAnd, ↓kTAnd_t, ↓kTAnd_f, ↓K_tOr, ↓kTOr_t, ↓kTOr_f, ↓K_tNot, ↓kTNot_t, ↓kTNot_f, ↓kTNot_at, ↓K_tYes, ↓K_vAnd, ↓kVAnd_t, ↓kVAnd_f, ↓K_vOr, ↓kVOr_t, ↓kVOr_f, ↓K_vNot, ↓kVNot_at, ↓K_ifE, ↓kIfE_t, ↓kIfE_f, ↓K_chn, ↓kChn0_at, ↓kChn1_at, ↓kChn2_t, ↓kChn2_f, ↓K_soN, ↓K_soS, ↓kSoS_at, ↓K_slc, ↓kSlc0_at, ↓kSlc1_at, ↓kSlc2_at, ↓KSl_tup, ↓KSl_lst, ↓K_sNext, ↓K_sSeq, ↓kSeq_nx, ↓kSeq_rt, ↓K_sRet, ↓kRet_at, ↓K_sRetN, ↓K_sExp, ↓kExp_at, ↓K_sIf, ↓kIf_t, ↓kIf_f, ↓kSet_0, ↓kSet_s, ↓kUn_c, ↓kUn_n, ↓K_sAsg, ↓kAsg_nm, ↓kAsg_tp, ↓kNms_c, ↓kNmsC_at, ↓kNms_n, ↓K_sPar, ↓kPar1_at, ↓kPar2_at, ↓K_run, ↓kRun_rt, ↓kRun_nx, ↓K2_add_i, ↓K2_sub_i, ↓K2_mul_i, ↓K2_mod_i, ↓K2_fdiv_i, ↓K2_lt_i, ↓K2_le_i, ↓K2_gt_i, ↓K2_ge_i, ↓K2_eq_i, ↓K2_ne_i, ↓K2_eq_st, ↓K2_eq_sf, ↓K2_ne_st, ↓K2_ne_sf, ↓K2_eq_b, ↓K2_add_t, ↓K2_add_l, ↓K1_neg_i, ↓K2_isN_n, ↓K2_isN_i, ↓K2_isN_s, ↓K2_isN_t, ↓K2_isN_l, ↓K2_isN_c, ↓K2_notN_n, ↓K2_notN_i, ↓K2_notN_s, ↓K2_notN_t, ↓K2_notN_l, ↓K2_notN_c, ↓K2_ix_t, ↓K2_ix_l, ↓KIx_0, ↓KIx_1, ↓KIx_2, ↓KIx_3, ↓KIx_4, ↓KIx_m1a, ↓KIx_m1b, ↓KIx_m1c, ↓KIx_m1d, ↓KN_len_t, ↓KN_len_l, ↓KN_max2, ↓KN_min2, ↓KN_int_i, ↓KN_int_t, ↓KN_int_f, ↓KN_tuple_l, ↓KN_tuple_t, ↓KN_maxl, ↓KN_suml, ↓K1_isi_n, ↓K1_isi_b, ↓K1_isi_i, ↓K1_isi_s, ↓K1_isi_t, ↓K1_isi_l, ↓KG_put_eq, ↓KG_put_ne, ↓KG_new_eq, ↓KG_new_ne, ↓KG_kill_ne, ↓K2_ix_c, ↓kIxL_at, ↓KN_len_c, ↓kLenL_l, ↓kLenL_d, ↓KN_tuple_c, ↓kTupL_at, ↓KN_max_c, ↓kMaxL_at, ↓KSl_c, ↓kSlL_at, ↓K_appE, ↓kApp1_at, ↓kApp1b_at, ↓kApp2_at, ↓kApp3_at, ↓K_sLput, ↓kPut1_at, ↓kPut2_at, ↓kPut3_at, ↓kPut4_at, ↓K2_dget_i, ↓K2_dget_s, ↓kDgD_at, ↓KVk_eq, ↓KVk_ne, ↓KVd_eq, ↓KVd_ne, ↓KVd_n, ↓K_dget2, ↓kDg1_at, ↓kDg1b_at, ↓kDg2_at, ↓kDg3_at, ↓kDg4_i, ↓kDg4_s, ↓K_sDput, ↓kDp1_at, ↓kDp2_at, ↓kDp3_i, ↓kDp3_s, ↓kDp4_at, ↓K1_fld, ↓kFldO_at, ↓KFl_eq, ↓KFl_ne, ↓K_sFput, ↓kFp1_at, ↓kFp2_at, ↓kFp3_at, ↓kPf_n, ↓kPf_eq, ↓kPu_c, ↓kPu_n, ↓kPf_ne, ↓K_callM, ↓kMt1_at, ↓kMt2_at, ↓kNo_n, ↓kNo_c, ↓kMt3_0, ↓kMt3_1, ↓kMt3_2, ↓kMt3_3, ↓kMt3_4, ↓K_mkE, ↓kMk_1, ↓kMk_2, ↓kMk_3, ↓kMk2_at, ↓K_sFor, ↓kFor_at, ↓K_itRng1, ↓kRng1_nat, ↓K_itRng2, ↓kRng2_at, ↓K_itSeq, ↓kSeqI_t, ↓kSeqI_l, ↓kSeqI_c, ↓kSeqL_at, ↓K_bodyG_nm, ↓K_bodyG_tp, ↓K_sWhile, ↓kComp_at, ↓K_comp, ↓K_compM, ↓kLst_at, ↓kLstM_at, ↓kEx_at, ↓K_exG_nm, ↓K_exG_tp, ↓kAlc_at, ↓K_opNM, ↓kOpNM_at, ↓KN_list_l2, ↓KN_list_t2, ↓KN_list_c, ↓kListL_at, ↓K_op2M, ↓kOp2Ma_at, ↓kOp2Mb_at, ↓K2_rep1, ↓K_prE_n, ↓K_prE_c, ↓kPr1_at, ↓kPr2_at, ↓kPr3_at, ↓K_dspE, ↓kDsp_s1, ↓kDsp_s2, ↓kDsp_s3, ↓kDsp_s4, ↓K_frz, ↓kFrz_c, ↓kFrz_l, ↓kFrz_t, ↓kFrz_n, ↓kFrzL_at, ↓K_extE, ↓kExt1_at, ↓kExt1b_at, ↓kExt2_at, ↓kExt3_at, ↓K_mt0E, ↓kMt0_at, ↓kMt0L_clear, ↓kMt0L_rev, ↓K2_in_t, ↓K2_in_f, ↓K2_notIn_t, ↓K2_notIn_f, ↓K_itZp, ↓kZp1_at, ↓K_itEn, ↓kEnI_t, ↓kEnI_l, ↓K2_din_i, ↓kDinD_at, ↓KR_put_0, ↓KR_put_1, ↓KR_put_2, ↓KR_put_l, ↓KR_put_into, ↓KR_put_end, ↓KR_put_looked, ↓KR_put_cut, ↓KR_move_0, ↓KR_move_1, ↓KR_move_2, ↓KR_move_l, ↓KR_move_into, ↓KR_move_end, ↓KR_move_looked, ↓KR_move_cut, ↓KR_add_0, ↓KR_add_1, ↓KR_add_2, ↓KR_add_3, ↓KR_add_l, ↓KR_add_into, ↓KR_add_end, ↓KR_add_looked, ↓KR_add_cut, ↓KR_take_0, ↓KR_take_1, ↓KR_take_2, ↓KR_take_3, ↓KR_take_l, ↓KR_take_into, ↓KR_take_end, ↓KR_take_looked, ↓KR_take_cut, ↓KR_times_0, ↓KR_times_1, ↓KR_times_2, ↓KR_times_3, ↓KR_times_l, ↓KR_times_into, ↓KR_times_end, ↓KR_times_looked, ↓KR_times_cut, ↓KR_get_0, ↓KR_get_1, ↓KR_get_2, ↓KR_get_l, ↓KR_get_into, ↓KR_get_end, ↓KR_get_looked, ↓KR_get_cut, ↓KR_set_0, ↓KR_set_1, ↓KR_set_2, ↓KR_set_l, ↓KR_set_into, ↓KR_set_end, ↓KR_set_looked, ↓KR_set_cut, ↓KR_say_0, ↓KR_say_1, ↓KR_say_l, ↓KR_say_into, ↓KR_say_end, ↓KR_say_looked, ↓KR_say_cut, ↓KR_rest_0, ↓KR_rest_l, ↓KR_rest_into, ↓KR_rest_end, ↓KR_rest_looked, ↓KR_rest_cut, ↓KR_go_0, ↓KR_go_1, ↓KR_go_l, ↓KR_go_into, ↓KR_go_end, ↓KR_go_looked, ↓KR_go_cut, ↓KR_ifr_0, ↓KR_ifr_1, ↓KR_ifr_2, ↓KR_ifr_l, ↓KR_ifr_into, ↓KR_ifr_end, ↓KR_ifr_looked, ↓KR_ifr_cut, ↓KR_stop_0, ↓KR_stop_l, ↓KR_stop_into, ↓KR_stop_end, ↓KR_stop_looked, ↓KR_stop_cut, ↓KR_late, ↓KR_far, ↓KR_num, ↓KR_mill_0, ↓KR_mill_1, ↓KR_mill_2, ↓KR_mill_3, ↓KR_pi_len, ↓KA_stop, ↓KA_goes, ↓KA_ends, ↓K_mt1E, ↓kM1_l, ↓kM1_s, ↓kM1b_at, ↓K1_isi_c, ↓kIsiL_at, ↓KN_minl, ↓K2_isB, ↓K2_notB, ↓K1_rev_t, ↓K1_rev_l, ↓K2_nin, ↓K2_nnotin, ↓kNinD_pk, ↓kNnotD_pk, ↓K_nget2, ↓kNg1_at, ↓kNg1b_at, ↓kNg2_at, ↓kNg3_at, ↓kNg4_pk, ↓K_ndctE, ↓K_sNput, ↓kNp1_at, ↓kNp2_at, ↓kNp4_at, ↓K_ndsp1, ↓kNd1_at, ↓KN_nlen_c, ↓kNlenL_at, start0, List.map_cons, List.map_nil, List.length_cons, List.length_nil, List.replicate_succ, List.replicate_zero, Nat.reduceSub, Nat.reduceAdd, wipeE, List.set_cons_zero, List.set_cons_succ, List.cons_append, List.nil_append, $as,*] at $h:ident)
section
variable {m : Mem} {p : List Row} {t : Mill}
end
end
end LB

set_option Elab.async false
set_option linter.all false
set_option autoImplicit false
set_option maxRecDepth 100000
set_option maxHeartbeats 4000000
/-! Pure: the law's look. -/
namespace LB
open PySem
noncomputable section
local macro_rules | `(tactic| simp_arith [$as,*]) => `(tactic| simp -implicitDefEqProofs (disch := first | assumption | decide | omega | (simp only [List.length_cons, List.length_nil, Mem.put_n, Mem.new_n, Mem.kill_n]; omega)) only [↓KO_some, ↓K_vr, ↓kVr_0, ↓kVr_s, ↓K_cn, ↓K_pure, ↓K_op2, ↓kOp2a_at, ↓kOp2b_at, ↓K_op1, ↓kOp1_at, ↓K_argN, ↓K_argC, ↓kArg1_at, ↓kArg2_at, ↓K_opN, ↓kOpN_at, ↓K_call, ↓kCall_1, ↓kCall_2, ↓kCall_3, ↓kCall_4, ↓kCall_5, ↓K_tpl, ↓K_lsl, ↓K_lsm, ↓K_dctE, ↓kTpl_0, ↓kTpl_1, ↓kTpl_2, ↓kTpl_3, ↓kTpl_4, ↓kTpl_5, ↓kLsl_0, ↓kLsl_1, ↓kLsl_2, ↓kLsl_3, ↓kLsl_4, ↓kLsm_0, ↓K_tV, ↓kTV_at, ↓K_tAnd, ↓kTAnd_t, ↓kTAnd_f, ↓K_tOr, ↓kTOr_t, ↓kTOr_f, ↓K_tNot, ↓kTNot_t, ↓kTNot_f, ↓kTNot_at, ↓K_tYes, ↓K_vAnd, ↓kVAnd_t, ↓kVAnd_f, ↓K_vOr, ↓kVOr_t, ↓kVOr_f, ↓K_vNot, ↓kVNot_at, ↓K_ifE, ↓kIfE_t, ↓kIfE_f, ↓K_chn, ↓kChn0_at, ↓kChn1_at, ↓kChn2_t, ↓kChn2_f, ↓K_soN, ↓K_soS, ↓kSoS_at, ↓K_slc, ↓kSlc0_at, ↓kSlc1_at, ↓kSlc2_at, ↓KSl_tup, ↓KSl_lst, ↓K_sNext, ↓K_sSeq, ↓kSeq_nx, ↓kSeq_rt, ↓K_sRet, ↓kRet_at, ↓K_sRetN, ↓K_sExp, ↓kExp_at, ↓K_sIf, ↓kIf_t, ↓kIf_f, ↓kSet_0, ↓kSet_s, ↓kUn_c, ↓kUn_n, ↓K_sAsg, ↓kAsg_nm, ↓kAsg_tp, ↓kNms_c, ↓kNmsC_at, ↓kNms_n, ↓K_sPar, ↓kPar1_at, ↓kPar2_at, ↓K_run, ↓kRun_rt, ↓kRun_nx, ↓K2_add_i, ↓K2_sub_i, ↓K2_mul_i, ↓K2_mod_i, ↓K2_fdiv_i, ↓K2_lt_i, ↓K2_le_i, ↓K2_gt_i, ↓K2_ge_i, ↓K2_eq_i, ↓K2_ne_i, ↓K2_eq_st, ↓K2_eq_sf, ↓K2_ne_st, ↓K2_ne_sf, ↓K2_eq_b, ↓K2_add_t, ↓K2_add_l, ↓K1_neg_i, ↓K2_isN_n, ↓K2_isN_i, ↓K2_isN_s, ↓K2_isN_t, ↓K2_isN_l, ↓K2_isN_c, ↓K2_notN_n, ↓K2_notN_i, ↓K2_notN_s, ↓K2_notN_t, ↓K2_notN_l, ↓K2_notN_c, ↓K2_ix_t, ↓K2_ix_l, ↓KIx_0, ↓KIx_1, ↓KIx_2, ↓KIx_3, ↓KIx_4, ↓KIx_m1a, ↓KIx_m1b, ↓KIx_m1c, ↓KIx_m1d, ↓KN_len_t, ↓KN_len_l, ↓KN_max2, ↓KN_min2, ↓KN_int_i, ↓KN_int_t, ↓KN_int_f, ↓KN_tuple_l, ↓KN_tuple_t, ↓KN_maxl, ↓KN_suml, ↓K1_isi_n, ↓K1_isi_b, ↓K1_isi_i, ↓K1_isi_s, ↓K1_isi_t, ↓K1_isi_l, ↓KG_put_eq, ↓KG_put_ne, ↓KG_new_eq, ↓KG_new_ne, ↓KG_kill_ne, ↓K2_ix_c, ↓kIxL_at, ↓KN_len_c, ↓kLenL_l, ↓kLenL_d, ↓KN_tuple_c, ↓kTupL_at, ↓KN_max_c, ↓kMaxL_at, ↓KSl_c, ↓kSlL_at, ↓K_appE, ↓kApp1_at, ↓kApp1b_at, ↓kApp2_at, ↓kApp3_at, ↓K_sLput, ↓kPut1_at, ↓kPut2_at, ↓kPut3_at, ↓kPut4_at, ↓K2_dget_i, ↓K2_dget_s, ↓kDgD_at, ↓KVk_eq, ↓KVk_ne, ↓KVd_eq, ↓KVd_ne, ↓KVd_n, ↓K_dget2, ↓kDg1_at, ↓kDg1b_at, ↓kDg2_at, ↓kDg3_at, ↓kDg4_i, ↓kDg4_s, ↓K_sDput, ↓kDp1_at, ↓kDp2_at, ↓kDp3_i, ↓kDp3_s, ↓kDp4_at, ↓K1_fld, ↓kFldO_at, ↓KFl_eq, ↓KFl_ne, ↓K_sFput, ↓kFp1_at, ↓kFp2_at, ↓kFp3_at, ↓kPf_n, ↓kPf_eq, ↓kPu_c, ↓kPu_n, ↓kPf_ne, ↓K_callM, ↓kMt1_at, ↓kMt2_at, ↓kNo_n, ↓kNo_c, ↓kMt3_0, ↓kMt3_1, ↓kMt3_2, ↓kMt3_3, ↓kMt3_4, ↓K_mkE, ↓kMk_1, ↓kMk_2, ↓kMk_3, ↓kMk2_at, ↓K_sFor, ↓kFor_at, ↓K_itRng1, ↓kRng1_nat, ↓K_itRng2, ↓kRng2_at, ↓K_itSeq, ↓kSeqI_t, ↓kSeqI_l, ↓kSeqI_c, ↓kSeqL_at, ↓K_bodyG_nm, ↓K_bodyG_tp, ↓K_sWhile, ↓kComp_at, ↓K_comp, ↓K_compM, ↓kLst_at, ↓kLstM_at, ↓kEx_at, ↓K_exG_nm, ↓K_exG_tp, ↓kAlc_at, ↓K_opNM, ↓kOpNM_at, ↓KN_list_l2, ↓KN_list_t2, ↓KN_list_c, ↓kListL_at, ↓K_op2M, ↓kOp2Ma_at, ↓kOp2Mb_at, ↓K2_rep1, ↓K_prE_n, ↓K_prE_c, ↓kPr1_at, ↓kPr2_at, ↓kPr3_at, ↓K_dspE, ↓kDsp_s1, ↓kDsp_s2, ↓kDsp_s3, ↓kDsp_s4, ↓K_frz, ↓kFrz_c, ↓kFrz_l, ↓kFrz_t, ↓kFrz_n, ↓kFrzL_at, ↓K_extE, ↓kExt1_at, ↓kExt1b_at, ↓kExt2_at, ↓kExt3_at, ↓K_mt0E, ↓kMt0_at, ↓kMt0L_clear, ↓kMt0L_rev, ↓K2_in_t, ↓K2_in_f, ↓K2_notIn_t, ↓K2_notIn_f, ↓K_itZp, ↓kZp1_at, ↓K_itEn, ↓kEnI_t, ↓kEnI_l, ↓K2_din_i, ↓kDinD_at, ↓KR_put_0, ↓KR_put_1, ↓KR_put_2, ↓KR_put_l, ↓KR_put_into, ↓KR_put_end, ↓KR_put_looked, ↓KR_put_cut, ↓KR_move_0, ↓KR_move_1, ↓KR_move_2, ↓KR_move_l, ↓KR_move_into, ↓KR_move_end, ↓KR_move_looked, ↓KR_move_cut, ↓KR_add_0, ↓KR_add_1, ↓KR_add_2, ↓KR_add_3, ↓KR_add_l, ↓KR_add_into, ↓KR_add_end, ↓KR_add_looked, ↓KR_add_cut, ↓KR_take_0, ↓KR_take_1, ↓KR_take_2, ↓KR_take_3, ↓KR_take_l, ↓KR_take_into, ↓KR_take_end, ↓KR_take_looked, ↓KR_take_cut, ↓KR_times_0, ↓KR_times_1, ↓KR_times_2, ↓KR_times_3, ↓KR_times_l, ↓KR_times_into, ↓KR_times_end, ↓KR_times_looked, ↓KR_times_cut, ↓KR_get_0, ↓KR_get_1, ↓KR_get_2, ↓KR_get_l, ↓KR_get_into, ↓KR_get_end, ↓KR_get_looked, ↓KR_get_cut, ↓KR_set_0, ↓KR_set_1, ↓KR_set_2, ↓KR_set_l, ↓KR_set_into, ↓KR_set_end, ↓KR_set_looked, ↓KR_set_cut, ↓KR_say_0, ↓KR_say_1, ↓KR_say_l, ↓KR_say_into, ↓KR_say_end, ↓KR_say_looked, ↓KR_say_cut, ↓KR_rest_0, ↓KR_rest_l, ↓KR_rest_into, ↓KR_rest_end, ↓KR_rest_looked, ↓KR_rest_cut, ↓KR_go_0, ↓KR_go_1, ↓KR_go_l, ↓KR_go_into, ↓KR_go_end, ↓KR_go_looked, ↓KR_go_cut, ↓KR_ifr_0, ↓KR_ifr_1, ↓KR_ifr_2, ↓KR_ifr_l, ↓KR_ifr_into, ↓KR_ifr_end, ↓KR_ifr_looked, ↓KR_ifr_cut, ↓KR_stop_0, ↓KR_stop_l, ↓KR_stop_into, ↓KR_stop_end, ↓KR_stop_looked, ↓KR_stop_cut, ↓KR_late, ↓KR_far, ↓KR_num, ↓KR_mill_0, ↓KR_mill_1, ↓KR_mill_2, ↓KR_mill_3, ↓KR_pi_len, ↓KA_stop, ↓KA_goes, ↓KA_ends, ↓K_mt1E, ↓kM1_l, ↓kM1_s, ↓kM1b_at, ↓K1_isi_c, ↓kIsiL_at, ↓KN_minl, ↓K2_isB, ↓K2_notB, ↓K1_rev_t, ↓K1_rev_l, ↓K2_nin, ↓K2_nnotin, ↓kNinD_pk, ↓kNnotD_pk, ↓K_nget2, ↓kNg1_at, ↓kNg1b_at, ↓kNg2_at, ↓kNg3_at, ↓kNg4_pk, ↓K_ndctE, ↓K_sNput, ↓kNp1_at, ↓kNp2_at, ↓kNp4_at, ↓K_ndsp1, ↓kNd1_at, ↓KN_nlen_c, ↓kNlenL_at, start0, List.map_cons, List.map_nil, List.length_cons, List.length_nil, List.replicate_succ, List.replicate_zero, Nat.reduceSub, Nat.reduceAdd, wipeE, List.set_cons_zero, List.set_cons_succ, List.cons_append, List.nil_append, $as,*])
local macro_rules | `(tactic| simp_arith [$as,*] at $h:ident) => `(tactic| simp -implicitDefEqProofs (disch := first | assumption | decide | omega | (simp only [List.length_cons, List.length_nil, Mem.put_n, Mem.new_n, Mem.kill_n]; omega)) only [↓KO_some, ↓K_vr, ↓kVr_0, ↓kVr_s, ↓K_cn, ↓K_pure, ↓K_op2, ↓kOp2a_at, ↓kOp2b_at, ↓K_op1, ↓kOp1_at, ↓K_argN, ↓K_argC, ↓kArg1_at, ↓kArg2_at, ↓K_opN, ↓kOpN_at, ↓K_call, ↓kCall_1, ↓kCall_2, ↓kCall_3, ↓kCall_4, ↓kCall_5, ↓K_tpl, ↓K_lsl, ↓K_lsm, ↓K_dctE, ↓kTpl_0, ↓kTpl_1, ↓kTpl_2, ↓kTpl_3, ↓kTpl_4, ↓kTpl_5, ↓kLsl_0, ↓kLsl_1, ↓kLsl_2, ↓kLsl_3, ↓kLsl_4, ↓kLsm_0, ↓K_tV, ↓kTV_at, ↓K_tAnd, ↓kTAnd_t, ↓kTAnd_f, ↓K_tOr, ↓kTOr_t, ↓kTOr_f, ↓K_tNot, ↓kTNot_t, ↓kTNot_f, ↓kTNot_at, ↓K_tYes, ↓K_vAnd, ↓kVAnd_t, ↓kVAnd_f, ↓K_vOr, ↓kVOr_t, ↓kVOr_f, ↓K_vNot, ↓kVNot_at, ↓K_ifE, ↓kIfE_t, ↓kIfE_f, ↓K_chn, ↓kChn0_at, ↓kChn1_at, ↓kChn2_t, ↓kChn2_f, ↓K_soN, ↓K_soS, ↓kSoS_at, ↓K_slc, ↓kSlc0_at, ↓kSlc1_at, ↓kSlc2_at, ↓KSl_tup, ↓KSl_lst, ↓K_sNext, ↓K_sSeq, ↓kSeq_nx, ↓kSeq_rt, ↓K_sRet, ↓kRet_at, ↓K_sRetN, ↓K_sExp, ↓kExp_at, ↓K_sIf, ↓kIf_t, ↓kIf_f, ↓kSet_0, ↓kSet_s, ↓kUn_c, ↓kUn_n, ↓K_sAsg, ↓kAsg_nm, ↓kAsg_tp, ↓kNms_c, ↓kNmsC_at, ↓kNms_n, ↓K_sPar, ↓kPar1_at, ↓kPar2_at, ↓K_run, ↓kRun_rt, ↓kRun_nx, ↓K2_add_i, ↓K2_sub_i, ↓K2_mul_i, ↓K2_mod_i, ↓K2_fdiv_i, ↓K2_lt_i, ↓K2_le_i, ↓K2_gt_i, ↓K2_ge_i, ↓K2_eq_i, ↓K2_ne_i, ↓K2_eq_st, ↓K2_eq_sf, ↓K2_ne_st, ↓K2_ne_sf, ↓K2_eq_b, ↓K2_add_t, ↓K2_add_l, ↓K1_neg_i, ↓K2_isN_n, ↓K2_isN_i, ↓K2_isN_s, ↓K2_isN_t, ↓K2_isN_l, ↓K2_isN_c, ↓K2_notN_n, ↓K2_notN_i, ↓K2_notN_s, ↓K2_notN_t, ↓K2_notN_l, ↓K2_notN_c, ↓K2_ix_t, ↓K2_ix_l, ↓KIx_0, ↓KIx_1, ↓KIx_2, ↓KIx_3, ↓KIx_4, ↓KIx_m1a, ↓KIx_m1b, ↓KIx_m1c, ↓KIx_m1d, ↓KN_len_t, ↓KN_len_l, ↓KN_max2, ↓KN_min2, ↓KN_int_i, ↓KN_int_t, ↓KN_int_f, ↓KN_tuple_l, ↓KN_tuple_t, ↓KN_maxl, ↓KN_suml, ↓K1_isi_n, ↓K1_isi_b, ↓K1_isi_i, ↓K1_isi_s, ↓K1_isi_t, ↓K1_isi_l, ↓KG_put_eq, ↓KG_put_ne, ↓KG_new_eq, ↓KG_new_ne, ↓KG_kill_ne, ↓K2_ix_c, ↓kIxL_at, ↓KN_len_c, ↓kLenL_l, ↓kLenL_d, ↓KN_tuple_c, ↓kTupL_at, ↓KN_max_c, ↓kMaxL_at, ↓KSl_c, ↓kSlL_at, ↓K_appE, ↓kApp1_at, ↓kApp1b_at, ↓kApp2_at, ↓kApp3_at, ↓K_sLput, ↓kPut1_at, ↓kPut2_at, ↓kPut3_at, ↓kPut4_at, ↓K2_dget_i, ↓K2_dget_s, ↓kDgD_at, ↓KVk_eq, ↓KVk_ne, ↓KVd_eq, ↓KVd_ne, ↓KVd_n, ↓K_dget2, ↓kDg1_at, ↓kDg1b_at, ↓kDg2_at, ↓kDg3_at, ↓kDg4_i, ↓kDg4_s, ↓K_sDput, ↓kDp1_at, ↓kDp2_at, ↓kDp3_i, ↓kDp3_s, ↓kDp4_at, ↓K1_fld, ↓kFldO_at, ↓KFl_eq, ↓KFl_ne, ↓K_sFput, ↓kFp1_at, ↓kFp2_at, ↓kFp3_at, ↓kPf_n, ↓kPf_eq, ↓kPu_c, ↓kPu_n, ↓kPf_ne, ↓K_callM, ↓kMt1_at, ↓kMt2_at, ↓kNo_n, ↓kNo_c, ↓kMt3_0, ↓kMt3_1, ↓kMt3_2, ↓kMt3_3, ↓kMt3_4, ↓K_mkE, ↓kMk_1, ↓kMk_2, ↓kMk_3, ↓kMk2_at, ↓K_sFor, ↓kFor_at, ↓K_itRng1, ↓kRng1_nat, ↓K_itRng2, ↓kRng2_at, ↓K_itSeq, ↓kSeqI_t, ↓kSeqI_l, ↓kSeqI_c, ↓kSeqL_at, ↓K_bodyG_nm, ↓K_bodyG_tp, ↓K_sWhile, ↓kComp_at, ↓K_comp, ↓K_compM, ↓kLst_at, ↓kLstM_at, ↓kEx_at, ↓K_exG_nm, ↓K_exG_tp, ↓kAlc_at, ↓K_opNM, ↓kOpNM_at, ↓KN_list_l2, ↓KN_list_t2, ↓KN_list_c, ↓kListL_at, ↓K_op2M, ↓kOp2Ma_at, ↓kOp2Mb_at, ↓K2_rep1, ↓K_prE_n, ↓K_prE_c, ↓kPr1_at, ↓kPr2_at, ↓kPr3_at, ↓K_dspE, ↓kDsp_s1, ↓kDsp_s2, ↓kDsp_s3, ↓kDsp_s4, ↓K_frz, ↓kFrz_c, ↓kFrz_l, ↓kFrz_t, ↓kFrz_n, ↓kFrzL_at, ↓K_extE, ↓kExt1_at, ↓kExt1b_at, ↓kExt2_at, ↓kExt3_at, ↓K_mt0E, ↓kMt0_at, ↓kMt0L_clear, ↓kMt0L_rev, ↓K2_in_t, ↓K2_in_f, ↓K2_notIn_t, ↓K2_notIn_f, ↓K_itZp, ↓kZp1_at, ↓K_itEn, ↓kEnI_t, ↓kEnI_l, ↓K2_din_i, ↓kDinD_at, ↓KR_put_0, ↓KR_put_1, ↓KR_put_2, ↓KR_put_l, ↓KR_put_into, ↓KR_put_end, ↓KR_put_looked, ↓KR_put_cut, ↓KR_move_0, ↓KR_move_1, ↓KR_move_2, ↓KR_move_l, ↓KR_move_into, ↓KR_move_end, ↓KR_move_looked, ↓KR_move_cut, ↓KR_add_0, ↓KR_add_1, ↓KR_add_2, ↓KR_add_3, ↓KR_add_l, ↓KR_add_into, ↓KR_add_end, ↓KR_add_looked, ↓KR_add_cut, ↓KR_take_0, ↓KR_take_1, ↓KR_take_2, ↓KR_take_3, ↓KR_take_l, ↓KR_take_into, ↓KR_take_end, ↓KR_take_looked, ↓KR_take_cut, ↓KR_times_0, ↓KR_times_1, ↓KR_times_2, ↓KR_times_3, ↓KR_times_l, ↓KR_times_into, ↓KR_times_end, ↓KR_times_looked, ↓KR_times_cut, ↓KR_get_0, ↓KR_get_1, ↓KR_get_2, ↓KR_get_l, ↓KR_get_into, ↓KR_get_end, ↓KR_get_looked, ↓KR_get_cut, ↓KR_set_0, ↓KR_set_1, ↓KR_set_2, ↓KR_set_l, ↓KR_set_into, ↓KR_set_end, ↓KR_set_looked, ↓KR_set_cut, ↓KR_say_0, ↓KR_say_1, ↓KR_say_l, ↓KR_say_into, ↓KR_say_end, ↓KR_say_looked, ↓KR_say_cut, ↓KR_rest_0, ↓KR_rest_l, ↓KR_rest_into, ↓KR_rest_end, ↓KR_rest_looked, ↓KR_rest_cut, ↓KR_go_0, ↓KR_go_1, ↓KR_go_l, ↓KR_go_into, ↓KR_go_end, ↓KR_go_looked, ↓KR_go_cut, ↓KR_ifr_0, ↓KR_ifr_1, ↓KR_ifr_2, ↓KR_ifr_l, ↓KR_ifr_into, ↓KR_ifr_end, ↓KR_ifr_looked, ↓KR_ifr_cut, ↓KR_stop_0, ↓KR_stop_l, ↓KR_stop_into, ↓KR_stop_end, ↓KR_stop_looked, ↓KR_stop_cut, ↓KR_late, ↓KR_far, ↓KR_num, ↓KR_mill_0, ↓KR_mill_1, ↓KR_mill_2, ↓KR_mill_3, ↓KR_pi_len, ↓KA_stop, ↓KA_goes, ↓KA_ends, ↓K_mt1E, ↓kM1_l, ↓kM1_s, ↓kM1b_at, ↓K1_isi_c, ↓kIsiL_at, ↓KN_minl, ↓K2_isB, ↓K2_notB, ↓K1_rev_t, ↓K1_rev_l, ↓K2_nin, ↓K2_nnotin, ↓kNinD_pk, ↓kNnotD_pk, ↓K_nget2, ↓kNg1_at, ↓kNg1b_at, ↓kNg2_at, ↓kNg3_at, ↓kNg4_pk, ↓K_ndctE, ↓K_sNput, ↓kNp1_at, ↓kNp2_at, ↓kNp4_at, ↓K_ndsp1, ↓kNd1_at, ↓KN_nlen_c, ↓kNlenL_at, start0, List.map_cons, List.map_nil, List.length_cons, List.length_nil, List.replicate_succ, List.replicate_zero, Nat.reduceSub, Nat.reduceAdd, wipeE, List.set_cons_zero, List.set_cons_succ, List.cons_append, List.nil_append, $as,*] at $h:ident)
section
variable {m : Mem} {cm : Nat} {p : List Row} {t : Mill}
structure LvAt (m : Mem) (cm : Nat) (lv : List (Way × LS)) (dl : D) : Prop where
  at_ : dl = .lst (lv.map lvD) ∨ ∃ c, dl = .loc c ∧ c < m.n ∧ c ≠ cm ∧ m.get c = some (.lst (lv.map lvD))
theorem LvAt.of {m : Mem} {cm : Nat} {lv : List (Way × LS)} {dl : D} (h : LvAt m cm lv dl) {m4 : Mem} (hn : m.n ≤ m4.n) (hk : ∀ j, j < m.n → j ≠ cm → m4.get j = m.get j) : lstOf m4 dl = some (lv.map lvD) := by
  rcases h.at_ with rfl | ⟨c, rfl, h1, h2, h3⟩
  · rfl
  · exact lst_loc (Nat.lt_of_lt_of_le h1 hn) ((hk c h1 h2).trans h3)
end
end
end LB

set_option Elab.async false
set_option linter.all false
set_option autoImplicit false
set_option maxRecDepth 100000
set_option maxHeartbeats 4000000
/-! Pure: programs with rests between. -/
namespace LB
open PySem
noncomputable section
local macro_rules | `(tactic| simp_arith [$as,*]) => `(tactic| simp -implicitDefEqProofs (disch := first | assumption | decide | omega | (simp only [List.length_cons, List.length_nil, Mem.put_n, Mem.new_n, Mem.kill_n]; omega)) only [↓KO_some, ↓K_vr, ↓kVr_0, ↓kVr_s, ↓K_cn, ↓K_pure, ↓K_op2, ↓kOp2a_at, ↓kOp2b_at, ↓K_op1, ↓kOp1_at, ↓K_argN, ↓K_argC, ↓kArg1_at, ↓kArg2_at, ↓K_opN, ↓kOpN_at, ↓K_call, ↓kCall_1, ↓kCall_2, ↓kCall_3, ↓kCall_4, ↓kCall_5, ↓K_tpl, ↓K_lsl, ↓K_lsm, ↓K_dctE, ↓kTpl_0, ↓kTpl_1, ↓kTpl_2, ↓kTpl_3, ↓kTpl_4, ↓kTpl_5, ↓kLsl_0, ↓kLsl_1, ↓kLsl_2, ↓kLsl_3, ↓kLsl_4, ↓kLsm_0, ↓K_tV, ↓kTV_at, ↓K_tAnd, ↓kTAnd_t, ↓kTAnd_f, ↓K_tOr, ↓kTOr_t, ↓kTOr_f, ↓K_tNot, ↓kTNot_t, ↓kTNot_f, ↓kTNot_at, ↓K_tYes, ↓K_vAnd, ↓kVAnd_t, ↓kVAnd_f, ↓K_vOr, ↓kVOr_t, ↓kVOr_f, ↓K_vNot, ↓kVNot_at, ↓K_ifE, ↓kIfE_t, ↓kIfE_f, ↓K_chn, ↓kChn0_at, ↓kChn1_at, ↓kChn2_t, ↓kChn2_f, ↓K_soN, ↓K_soS, ↓kSoS_at, ↓K_slc, ↓kSlc0_at, ↓kSlc1_at, ↓kSlc2_at, ↓KSl_tup, ↓KSl_lst, ↓K_sNext, ↓K_sSeq, ↓kSeq_nx, ↓kSeq_rt, ↓K_sRet, ↓kRet_at, ↓K_sRetN, ↓K_sExp, ↓kExp_at, ↓K_sIf, ↓kIf_t, ↓kIf_f, ↓kSet_0, ↓kSet_s, ↓kUn_c, ↓kUn_n, ↓K_sAsg, ↓kAsg_nm, ↓kAsg_tp, ↓kNms_c, ↓kNmsC_at, ↓kNms_n, ↓K_sPar, ↓kPar1_at, ↓kPar2_at, ↓K_run, ↓kRun_rt, ↓kRun_nx, ↓K2_add_i, ↓K2_sub_i, ↓K2_mul_i, ↓K2_mod_i, ↓K2_fdiv_i, ↓K2_lt_i, ↓K2_le_i, ↓K2_gt_i, ↓K2_ge_i, ↓K2_eq_i, ↓K2_ne_i, ↓K2_eq_st, ↓K2_eq_sf, ↓K2_ne_st, ↓K2_ne_sf, ↓K2_eq_b, ↓K2_add_t, ↓K2_add_l, ↓K1_neg_i, ↓K2_isN_n, ↓K2_isN_i, ↓K2_isN_s, ↓K2_isN_t, ↓K2_isN_l, ↓K2_isN_c, ↓K2_notN_n, ↓K2_notN_i, ↓K2_notN_s, ↓K2_notN_t, ↓K2_notN_l, ↓K2_notN_c, ↓K2_ix_t, ↓K2_ix_l, ↓KIx_0, ↓KIx_1, ↓KIx_2, ↓KIx_3, ↓KIx_4, ↓KIx_m1a, ↓KIx_m1b, ↓KIx_m1c, ↓KIx_m1d, ↓KN_len_t, ↓KN_len_l, ↓KN_max2, ↓KN_min2, ↓KN_int_i, ↓KN_int_t, ↓KN_int_f, ↓KN_tuple_l, ↓KN_tuple_t, ↓KN_maxl, ↓KN_suml, ↓K1_isi_n, ↓K1_isi_b, ↓K1_isi_i, ↓K1_isi_s, ↓K1_isi_t, ↓K1_isi_l, ↓KG_put_eq, ↓KG_put_ne, ↓KG_new_eq, ↓KG_new_ne, ↓KG_kill_ne, ↓K2_ix_c, ↓kIxL_at, ↓KN_len_c, ↓kLenL_l, ↓kLenL_d, ↓KN_tuple_c, ↓kTupL_at, ↓KN_max_c, ↓kMaxL_at, ↓KSl_c, ↓kSlL_at, ↓K_appE, ↓kApp1_at, ↓kApp1b_at, ↓kApp2_at, ↓kApp3_at, ↓K_sLput, ↓kPut1_at, ↓kPut2_at, ↓kPut3_at, ↓kPut4_at, ↓K2_dget_i, ↓K2_dget_s, ↓kDgD_at, ↓KVk_eq, ↓KVk_ne, ↓KVd_eq, ↓KVd_ne, ↓KVd_n, ↓K_dget2, ↓kDg1_at, ↓kDg1b_at, ↓kDg2_at, ↓kDg3_at, ↓kDg4_i, ↓kDg4_s, ↓K_sDput, ↓kDp1_at, ↓kDp2_at, ↓kDp3_i, ↓kDp3_s, ↓kDp4_at, ↓K1_fld, ↓kFldO_at, ↓KFl_eq, ↓KFl_ne, ↓K_sFput, ↓kFp1_at, ↓kFp2_at, ↓kFp3_at, ↓kPf_n, ↓kPf_eq, ↓kPu_c, ↓kPu_n, ↓kPf_ne, ↓K_callM, ↓kMt1_at, ↓kMt2_at, ↓kNo_n, ↓kNo_c, ↓kMt3_0, ↓kMt3_1, ↓kMt3_2, ↓kMt3_3, ↓kMt3_4, ↓K_mkE, ↓kMk_1, ↓kMk_2, ↓kMk_3, ↓kMk2_at, ↓K_sFor, ↓kFor_at, ↓K_itRng1, ↓kRng1_nat, ↓K_itRng2, ↓kRng2_at, ↓K_itSeq, ↓kSeqI_t, ↓kSeqI_l, ↓kSeqI_c, ↓kSeqL_at, ↓K_bodyG_nm, ↓K_bodyG_tp, ↓K_sWhile, ↓kComp_at, ↓K_comp, ↓K_compM, ↓kLst_at, ↓kLstM_at, ↓kEx_at, ↓K_exG_nm, ↓K_exG_tp, ↓kAlc_at, ↓K_opNM, ↓kOpNM_at, ↓KN_list_l2, ↓KN_list_t2, ↓KN_list_c, ↓kListL_at, ↓K_op2M, ↓kOp2Ma_at, ↓kOp2Mb_at, ↓K2_rep1, ↓K_prE_n, ↓K_prE_c, ↓kPr1_at, ↓kPr2_at, ↓kPr3_at, ↓K_dspE, ↓kDsp_s1, ↓kDsp_s2, ↓kDsp_s3, ↓kDsp_s4, ↓K_frz, ↓kFrz_c, ↓kFrz_l, ↓kFrz_t, ↓kFrz_n, ↓kFrzL_at, ↓K_extE, ↓kExt1_at, ↓kExt1b_at, ↓kExt2_at, ↓kExt3_at, ↓K_mt0E, ↓kMt0_at, ↓kMt0L_clear, ↓kMt0L_rev, ↓K2_in_t, ↓K2_in_f, ↓K2_notIn_t, ↓K2_notIn_f, ↓K_itZp, ↓kZp1_at, ↓K_itEn, ↓kEnI_t, ↓kEnI_l, ↓K2_din_i, ↓kDinD_at, ↓KR_put_0, ↓KR_put_1, ↓KR_put_2, ↓KR_put_l, ↓KR_put_into, ↓KR_put_end, ↓KR_put_looked, ↓KR_put_cut, ↓KR_move_0, ↓KR_move_1, ↓KR_move_2, ↓KR_move_l, ↓KR_move_into, ↓KR_move_end, ↓KR_move_looked, ↓KR_move_cut, ↓KR_add_0, ↓KR_add_1, ↓KR_add_2, ↓KR_add_3, ↓KR_add_l, ↓KR_add_into, ↓KR_add_end, ↓KR_add_looked, ↓KR_add_cut, ↓KR_take_0, ↓KR_take_1, ↓KR_take_2, ↓KR_take_3, ↓KR_take_l, ↓KR_take_into, ↓KR_take_end, ↓KR_take_looked, ↓KR_take_cut, ↓KR_times_0, ↓KR_times_1, ↓KR_times_2, ↓KR_times_3, ↓KR_times_l, ↓KR_times_into, ↓KR_times_end, ↓KR_times_looked, ↓KR_times_cut, ↓KR_get_0, ↓KR_get_1, ↓KR_get_2, ↓KR_get_l, ↓KR_get_into, ↓KR_get_end, ↓KR_get_looked, ↓KR_get_cut, ↓KR_set_0, ↓KR_set_1, ↓KR_set_2, ↓KR_set_l, ↓KR_set_into, ↓KR_set_end, ↓KR_set_looked, ↓KR_set_cut, ↓KR_say_0, ↓KR_say_1, ↓KR_say_l, ↓KR_say_into, ↓KR_say_end, ↓KR_say_looked, ↓KR_say_cut, ↓KR_rest_0, ↓KR_rest_l, ↓KR_rest_into, ↓KR_rest_end, ↓KR_rest_looked, ↓KR_rest_cut, ↓KR_go_0, ↓KR_go_1, ↓KR_go_l, ↓KR_go_into, ↓KR_go_end, ↓KR_go_looked, ↓KR_go_cut, ↓KR_ifr_0, ↓KR_ifr_1, ↓KR_ifr_2, ↓KR_ifr_l, ↓KR_ifr_into, ↓KR_ifr_end, ↓KR_ifr_looked, ↓KR_ifr_cut, ↓KR_stop_0, ↓KR_stop_l, ↓KR_stop_into, ↓KR_stop_end, ↓KR_stop_looked, ↓KR_stop_cut, ↓KR_late, ↓KR_far, ↓KR_num, ↓KR_mill_0, ↓KR_mill_1, ↓KR_mill_2, ↓KR_mill_3, ↓KR_pi_len, ↓KA_stop, ↓KA_goes, ↓KA_ends, ↓K_mt1E, ↓kM1_l, ↓kM1_s, ↓kM1b_at, ↓K1_isi_c, ↓kIsiL_at, ↓KN_minl, ↓K2_isB, ↓K2_notB, ↓K1_rev_t, ↓K1_rev_l, ↓K2_nin, ↓K2_nnotin, ↓kNinD_pk, ↓kNnotD_pk, ↓K_nget2, ↓kNg1_at, ↓kNg1b_at, ↓kNg2_at, ↓kNg3_at, ↓kNg4_pk, ↓K_ndctE, ↓K_sNput, ↓kNp1_at, ↓kNp2_at, ↓kNp4_at, ↓K_ndsp1, ↓kNd1_at, ↓KN_nlen_c, ↓kNlenL_at, start0, List.map_cons, List.map_nil, List.length_cons, List.length_nil, List.replicate_succ, List.replicate_zero, Nat.reduceSub, Nat.reduceAdd, wipeE, List.set_cons_zero, List.set_cons_succ, List.cons_append, List.nil_append, $as,*])
local macro_rules | `(tactic| simp_arith [$as,*] at $h:ident) => `(tactic| simp -implicitDefEqProofs (disch := first | assumption | decide | omega | (simp only [List.length_cons, List.length_nil, Mem.put_n, Mem.new_n, Mem.kill_n]; omega)) only [↓KO_some, ↓K_vr, ↓kVr_0, ↓kVr_s, ↓K_cn, ↓K_pure, ↓K_op2, ↓kOp2a_at, ↓kOp2b_at, ↓K_op1, ↓kOp1_at, ↓K_argN, ↓K_argC, ↓kArg1_at, ↓kArg2_at, ↓K_opN, ↓kOpN_at, ↓K_call, ↓kCall_1, ↓kCall_2, ↓kCall_3, ↓kCall_4, ↓kCall_5, ↓K_tpl, ↓K_lsl, ↓K_lsm, ↓K_dctE, ↓kTpl_0, ↓kTpl_1, ↓kTpl_2, ↓kTpl_3, ↓kTpl_4, ↓kTpl_5, ↓kLsl_0, ↓kLsl_1, ↓kLsl_2, ↓kLsl_3, ↓kLsl_4, ↓kLsm_0, ↓K_tV, ↓kTV_at, ↓K_tAnd, ↓kTAnd_t, ↓kTAnd_f, ↓K_tOr, ↓kTOr_t, ↓kTOr_f, ↓K_tNot, ↓kTNot_t, ↓kTNot_f, ↓kTNot_at, ↓K_tYes, ↓K_vAnd, ↓kVAnd_t, ↓kVAnd_f, ↓K_vOr, ↓kVOr_t, ↓kVOr_f, ↓K_vNot, ↓kVNot_at, ↓K_ifE, ↓kIfE_t, ↓kIfE_f, ↓K_chn, ↓kChn0_at, ↓kChn1_at, ↓kChn2_t, ↓kChn2_f, ↓K_soN, ↓K_soS, ↓kSoS_at, ↓K_slc, ↓kSlc0_at, ↓kSlc1_at, ↓kSlc2_at, ↓KSl_tup, ↓KSl_lst, ↓K_sNext, ↓K_sSeq, ↓kSeq_nx, ↓kSeq_rt, ↓K_sRet, ↓kRet_at, ↓K_sRetN, ↓K_sExp, ↓kExp_at, ↓K_sIf, ↓kIf_t, ↓kIf_f, ↓kSet_0, ↓kSet_s, ↓kUn_c, ↓kUn_n, ↓K_sAsg, ↓kAsg_nm, ↓kAsg_tp, ↓kNms_c, ↓kNmsC_at, ↓kNms_n, ↓K_sPar, ↓kPar1_at, ↓kPar2_at, ↓K_run, ↓kRun_rt, ↓kRun_nx, ↓K2_add_i, ↓K2_sub_i, ↓K2_mul_i, ↓K2_mod_i, ↓K2_fdiv_i, ↓K2_lt_i, ↓K2_le_i, ↓K2_gt_i, ↓K2_ge_i, ↓K2_eq_i, ↓K2_ne_i, ↓K2_eq_st, ↓K2_eq_sf, ↓K2_ne_st, ↓K2_ne_sf, ↓K2_eq_b, ↓K2_add_t, ↓K2_add_l, ↓K1_neg_i, ↓K2_isN_n, ↓K2_isN_i, ↓K2_isN_s, ↓K2_isN_t, ↓K2_isN_l, ↓K2_isN_c, ↓K2_notN_n, ↓K2_notN_i, ↓K2_notN_s, ↓K2_notN_t, ↓K2_notN_l, ↓K2_notN_c, ↓K2_ix_t, ↓K2_ix_l, ↓KIx_0, ↓KIx_1, ↓KIx_2, ↓KIx_3, ↓KIx_4, ↓KIx_m1a, ↓KIx_m1b, ↓KIx_m1c, ↓KIx_m1d, ↓KN_len_t, ↓KN_len_l, ↓KN_max2, ↓KN_min2, ↓KN_int_i, ↓KN_int_t, ↓KN_int_f, ↓KN_tuple_l, ↓KN_tuple_t, ↓KN_maxl, ↓KN_suml, ↓K1_isi_n, ↓K1_isi_b, ↓K1_isi_i, ↓K1_isi_s, ↓K1_isi_t, ↓K1_isi_l, ↓KG_put_eq, ↓KG_put_ne, ↓KG_new_eq, ↓KG_new_ne, ↓KG_kill_ne, ↓K2_ix_c, ↓kIxL_at, ↓KN_len_c, ↓kLenL_l, ↓kLenL_d, ↓KN_tuple_c, ↓kTupL_at, ↓KN_max_c, ↓kMaxL_at, ↓KSl_c, ↓kSlL_at, ↓K_appE, ↓kApp1_at, ↓kApp1b_at, ↓kApp2_at, ↓kApp3_at, ↓K_sLput, ↓kPut1_at, ↓kPut2_at, ↓kPut3_at, ↓kPut4_at, ↓K2_dget_i, ↓K2_dget_s, ↓kDgD_at, ↓KVk_eq, ↓KVk_ne, ↓KVd_eq, ↓KVd_ne, ↓KVd_n, ↓K_dget2, ↓kDg1_at, ↓kDg1b_at, ↓kDg2_at, ↓kDg3_at, ↓kDg4_i, ↓kDg4_s, ↓K_sDput, ↓kDp1_at, ↓kDp2_at, ↓kDp3_i, ↓kDp3_s, ↓kDp4_at, ↓K1_fld, ↓kFldO_at, ↓KFl_eq, ↓KFl_ne, ↓K_sFput, ↓kFp1_at, ↓kFp2_at, ↓kFp3_at, ↓kPf_n, ↓kPf_eq, ↓kPu_c, ↓kPu_n, ↓kPf_ne, ↓K_callM, ↓kMt1_at, ↓kMt2_at, ↓kNo_n, ↓kNo_c, ↓kMt3_0, ↓kMt3_1, ↓kMt3_2, ↓kMt3_3, ↓kMt3_4, ↓K_mkE, ↓kMk_1, ↓kMk_2, ↓kMk_3, ↓kMk2_at, ↓K_sFor, ↓kFor_at, ↓K_itRng1, ↓kRng1_nat, ↓K_itRng2, ↓kRng2_at, ↓K_itSeq, ↓kSeqI_t, ↓kSeqI_l, ↓kSeqI_c, ↓kSeqL_at, ↓K_bodyG_nm, ↓K_bodyG_tp, ↓K_sWhile, ↓kComp_at, ↓K_comp, ↓K_compM, ↓kLst_at, ↓kLstM_at, ↓kEx_at, ↓K_exG_nm, ↓K_exG_tp, ↓kAlc_at, ↓K_opNM, ↓kOpNM_at, ↓KN_list_l2, ↓KN_list_t2, ↓KN_list_c, ↓kListL_at, ↓K_op2M, ↓kOp2Ma_at, ↓kOp2Mb_at, ↓K2_rep1, ↓K_prE_n, ↓K_prE_c, ↓kPr1_at, ↓kPr2_at, ↓kPr3_at, ↓K_dspE, ↓kDsp_s1, ↓kDsp_s2, ↓kDsp_s3, ↓kDsp_s4, ↓K_frz, ↓kFrz_c, ↓kFrz_l, ↓kFrz_t, ↓kFrz_n, ↓kFrzL_at, ↓K_extE, ↓kExt1_at, ↓kExt1b_at, ↓kExt2_at, ↓kExt3_at, ↓K_mt0E, ↓kMt0_at, ↓kMt0L_clear, ↓kMt0L_rev, ↓K2_in_t, ↓K2_in_f, ↓K2_notIn_t, ↓K2_notIn_f, ↓K_itZp, ↓kZp1_at, ↓K_itEn, ↓kEnI_t, ↓kEnI_l, ↓K2_din_i, ↓kDinD_at, ↓KR_put_0, ↓KR_put_1, ↓KR_put_2, ↓KR_put_l, ↓KR_put_into, ↓KR_put_end, ↓KR_put_looked, ↓KR_put_cut, ↓KR_move_0, ↓KR_move_1, ↓KR_move_2, ↓KR_move_l, ↓KR_move_into, ↓KR_move_end, ↓KR_move_looked, ↓KR_move_cut, ↓KR_add_0, ↓KR_add_1, ↓KR_add_2, ↓KR_add_3, ↓KR_add_l, ↓KR_add_into, ↓KR_add_end, ↓KR_add_looked, ↓KR_add_cut, ↓KR_take_0, ↓KR_take_1, ↓KR_take_2, ↓KR_take_3, ↓KR_take_l, ↓KR_take_into, ↓KR_take_end, ↓KR_take_looked, ↓KR_take_cut, ↓KR_times_0, ↓KR_times_1, ↓KR_times_2, ↓KR_times_3, ↓KR_times_l, ↓KR_times_into, ↓KR_times_end, ↓KR_times_looked, ↓KR_times_cut, ↓KR_get_0, ↓KR_get_1, ↓KR_get_2, ↓KR_get_l, ↓KR_get_into, ↓KR_get_end, ↓KR_get_looked, ↓KR_get_cut, ↓KR_set_0, ↓KR_set_1, ↓KR_set_2, ↓KR_set_l, ↓KR_set_into, ↓KR_set_end, ↓KR_set_looked, ↓KR_set_cut, ↓KR_say_0, ↓KR_say_1, ↓KR_say_l, ↓KR_say_into, ↓KR_say_end, ↓KR_say_looked, ↓KR_say_cut, ↓KR_rest_0, ↓KR_rest_l, ↓KR_rest_into, ↓KR_rest_end, ↓KR_rest_looked, ↓KR_rest_cut, ↓KR_go_0, ↓KR_go_1, ↓KR_go_l, ↓KR_go_into, ↓KR_go_end, ↓KR_go_looked, ↓KR_go_cut, ↓KR_ifr_0, ↓KR_ifr_1, ↓KR_ifr_2, ↓KR_ifr_l, ↓KR_ifr_into, ↓KR_ifr_end, ↓KR_ifr_looked, ↓KR_ifr_cut, ↓KR_stop_0, ↓KR_stop_l, ↓KR_stop_into, ↓KR_stop_end, ↓KR_stop_looked, ↓KR_stop_cut, ↓KR_late, ↓KR_far, ↓KR_num, ↓KR_mill_0, ↓KR_mill_1, ↓KR_mill_2, ↓KR_mill_3, ↓KR_pi_len, ↓KA_stop, ↓KA_goes, ↓KA_ends, ↓K_mt1E, ↓kM1_l, ↓kM1_s, ↓kM1b_at, ↓K1_isi_c, ↓kIsiL_at, ↓KN_minl, ↓K2_isB, ↓K2_notB, ↓K1_rev_t, ↓K1_rev_l, ↓K2_nin, ↓K2_nnotin, ↓kNinD_pk, ↓kNnotD_pk, ↓K_nget2, ↓kNg1_at, ↓kNg1b_at, ↓kNg2_at, ↓kNg3_at, ↓kNg4_pk, ↓K_ndctE, ↓K_sNput, ↓kNp1_at, ↓kNp2_at, ↓kNp4_at, ↓K_ndsp1, ↓kNd1_at, ↓KN_nlen_c, ↓kNlenL_at, start0, List.map_cons, List.map_nil, List.length_cons, List.length_nil, List.replicate_succ, List.replicate_zero, Nat.reduceSub, Nat.reduceAdd, wipeE, List.set_cons_zero, List.set_cons_succ, List.cons_append, List.nil_append, $as,*] at $h:ident)
section
variable {k c : Nat} {m : Mem}
end
end
end LB

set_option Elab.async false
set_option linter.all false
set_option autoImplicit false
set_option maxRecDepth 100000
set_option maxHeartbeats 4000000
/-! Pure: what two runs hand back, compared. -/
namespace LB
open PySem
noncomputable section
local macro_rules | `(tactic| simp_arith [$as,*]) => `(tactic| simp -implicitDefEqProofs (disch := first | assumption | decide | omega | (simp only [List.length_cons, List.length_nil, Mem.put_n, Mem.new_n, Mem.kill_n]; omega)) only [↓KO_some, ↓K_vr, ↓kVr_0, ↓kVr_s, ↓K_cn, ↓K_pure, ↓K_op2, ↓kOp2a_at, ↓kOp2b_at, ↓K_op1, ↓kOp1_at, ↓K_argN, ↓K_argC, ↓kArg1_at, ↓kArg2_at, ↓K_opN, ↓kOpN_at, ↓K_call, ↓kCall_1, ↓kCall_2, ↓kCall_3, ↓kCall_4, ↓kCall_5, ↓K_tpl, ↓K_lsl, ↓K_lsm, ↓K_dctE, ↓kTpl_0, ↓kTpl_1, ↓kTpl_2, ↓kTpl_3, ↓kTpl_4, ↓kTpl_5, ↓kLsl_0, ↓kLsl_1, ↓kLsl_2, ↓kLsl_3, ↓kLsl_4, ↓kLsm_0, ↓K_tV, ↓kTV_at, ↓K_tAnd, ↓kTAnd_t, ↓kTAnd_f, ↓K_tOr, ↓kTOr_t, ↓kTOr_f, ↓K_tNot, ↓kTNot_t, ↓kTNot_f, ↓kTNot_at, ↓K_tYes, ↓K_vAnd, ↓kVAnd_t, ↓kVAnd_f, ↓K_vOr, ↓kVOr_t, ↓kVOr_f, ↓K_vNot, ↓kVNot_at, ↓K_ifE, ↓kIfE_t, ↓kIfE_f, ↓K_chn, ↓kChn0_at, ↓kChn1_at, ↓kChn2_t, ↓kChn2_f, ↓K_soN, ↓K_soS, ↓kSoS_at, ↓K_slc, ↓kSlc0_at, ↓kSlc1_at, ↓kSlc2_at, ↓KSl_tup, ↓KSl_lst, ↓K_sNext, ↓K_sSeq, ↓kSeq_nx, ↓kSeq_rt, ↓K_sRet, ↓kRet_at, ↓K_sRetN, ↓K_sExp, ↓kExp_at, ↓K_sIf, ↓kIf_t, ↓kIf_f, ↓kSet_0, ↓kSet_s, ↓kUn_c, ↓kUn_n, ↓K_sAsg, ↓kAsg_nm, ↓kAsg_tp, ↓kNms_c, ↓kNmsC_at, ↓kNms_n, ↓K_sPar, ↓kPar1_at, ↓kPar2_at, ↓K_run, ↓kRun_rt, ↓kRun_nx, ↓K2_add_i, ↓K2_sub_i, ↓K2_mul_i, ↓K2_mod_i, ↓K2_fdiv_i, ↓K2_lt_i, ↓K2_le_i, ↓K2_gt_i, ↓K2_ge_i, ↓K2_eq_i, ↓K2_ne_i, ↓K2_eq_st, ↓K2_eq_sf, ↓K2_ne_st, ↓K2_ne_sf, ↓K2_eq_b, ↓K2_add_t, ↓K2_add_l, ↓K1_neg_i, ↓K2_isN_n, ↓K2_isN_i, ↓K2_isN_s, ↓K2_isN_t, ↓K2_isN_l, ↓K2_isN_c, ↓K2_notN_n, ↓K2_notN_i, ↓K2_notN_s, ↓K2_notN_t, ↓K2_notN_l, ↓K2_notN_c, ↓K2_ix_t, ↓K2_ix_l, ↓KIx_0, ↓KIx_1, ↓KIx_2, ↓KIx_3, ↓KIx_4, ↓KIx_m1a, ↓KIx_m1b, ↓KIx_m1c, ↓KIx_m1d, ↓KN_len_t, ↓KN_len_l, ↓KN_max2, ↓KN_min2, ↓KN_int_i, ↓KN_int_t, ↓KN_int_f, ↓KN_tuple_l, ↓KN_tuple_t, ↓KN_maxl, ↓KN_suml, ↓K1_isi_n, ↓K1_isi_b, ↓K1_isi_i, ↓K1_isi_s, ↓K1_isi_t, ↓K1_isi_l, ↓KG_put_eq, ↓KG_put_ne, ↓KG_new_eq, ↓KG_new_ne, ↓KG_kill_ne, ↓K2_ix_c, ↓kIxL_at, ↓KN_len_c, ↓kLenL_l, ↓kLenL_d, ↓KN_tuple_c, ↓kTupL_at, ↓KN_max_c, ↓kMaxL_at, ↓KSl_c, ↓kSlL_at, ↓K_appE, ↓kApp1_at, ↓kApp1b_at, ↓kApp2_at, ↓kApp3_at, ↓K_sLput, ↓kPut1_at, ↓kPut2_at, ↓kPut3_at, ↓kPut4_at, ↓K2_dget_i, ↓K2_dget_s, ↓kDgD_at, ↓KVk_eq, ↓KVk_ne, ↓KVd_eq, ↓KVd_ne, ↓KVd_n, ↓K_dget2, ↓kDg1_at, ↓kDg1b_at, ↓kDg2_at, ↓kDg3_at, ↓kDg4_i, ↓kDg4_s, ↓K_sDput, ↓kDp1_at, ↓kDp2_at, ↓kDp3_i, ↓kDp3_s, ↓kDp4_at, ↓K1_fld, ↓kFldO_at, ↓KFl_eq, ↓KFl_ne, ↓K_sFput, ↓kFp1_at, ↓kFp2_at, ↓kFp3_at, ↓kPf_n, ↓kPf_eq, ↓kPu_c, ↓kPu_n, ↓kPf_ne, ↓K_callM, ↓kMt1_at, ↓kMt2_at, ↓kNo_n, ↓kNo_c, ↓kMt3_0, ↓kMt3_1, ↓kMt3_2, ↓kMt3_3, ↓kMt3_4, ↓K_mkE, ↓kMk_1, ↓kMk_2, ↓kMk_3, ↓kMk2_at, ↓K_sFor, ↓kFor_at, ↓K_itRng1, ↓kRng1_nat, ↓K_itRng2, ↓kRng2_at, ↓K_itSeq, ↓kSeqI_t, ↓kSeqI_l, ↓kSeqI_c, ↓kSeqL_at, ↓K_bodyG_nm, ↓K_bodyG_tp, ↓K_sWhile, ↓kComp_at, ↓K_comp, ↓K_compM, ↓kLst_at, ↓kLstM_at, ↓kEx_at, ↓K_exG_nm, ↓K_exG_tp, ↓kAlc_at, ↓K_opNM, ↓kOpNM_at, ↓KN_list_l2, ↓KN_list_t2, ↓KN_list_c, ↓kListL_at, ↓K_op2M, ↓kOp2Ma_at, ↓kOp2Mb_at, ↓K2_rep1, ↓K_prE_n, ↓K_prE_c, ↓kPr1_at, ↓kPr2_at, ↓kPr3_at, ↓K_dspE, ↓kDsp_s1, ↓kDsp_s2, ↓kDsp_s3, ↓kDsp_s4, ↓K_frz, ↓kFrz_c, ↓kFrz_l, ↓kFrz_t, ↓kFrz_n, ↓kFrzL_at, ↓K_extE, ↓kExt1_at, ↓kExt1b_at, ↓kExt2_at, ↓kExt3_at, ↓K_mt0E, ↓kMt0_at, ↓kMt0L_clear, ↓kMt0L_rev, ↓K2_in_t, ↓K2_in_f, ↓K2_notIn_t, ↓K2_notIn_f, ↓K_itZp, ↓kZp1_at, ↓K_itEn, ↓kEnI_t, ↓kEnI_l, ↓K2_din_i, ↓kDinD_at, ↓KR_put_0, ↓KR_put_1, ↓KR_put_2, ↓KR_put_l, ↓KR_put_into, ↓KR_put_end, ↓KR_put_looked, ↓KR_put_cut, ↓KR_move_0, ↓KR_move_1, ↓KR_move_2, ↓KR_move_l, ↓KR_move_into, ↓KR_move_end, ↓KR_move_looked, ↓KR_move_cut, ↓KR_add_0, ↓KR_add_1, ↓KR_add_2, ↓KR_add_3, ↓KR_add_l, ↓KR_add_into, ↓KR_add_end, ↓KR_add_looked, ↓KR_add_cut, ↓KR_take_0, ↓KR_take_1, ↓KR_take_2, ↓KR_take_3, ↓KR_take_l, ↓KR_take_into, ↓KR_take_end, ↓KR_take_looked, ↓KR_take_cut, ↓KR_times_0, ↓KR_times_1, ↓KR_times_2, ↓KR_times_3, ↓KR_times_l, ↓KR_times_into, ↓KR_times_end, ↓KR_times_looked, ↓KR_times_cut, ↓KR_get_0, ↓KR_get_1, ↓KR_get_2, ↓KR_get_l, ↓KR_get_into, ↓KR_get_end, ↓KR_get_looked, ↓KR_get_cut, ↓KR_set_0, ↓KR_set_1, ↓KR_set_2, ↓KR_set_l, ↓KR_set_into, ↓KR_set_end, ↓KR_set_looked, ↓KR_set_cut, ↓KR_say_0, ↓KR_say_1, ↓KR_say_l, ↓KR_say_into, ↓KR_say_end, ↓KR_say_looked, ↓KR_say_cut, ↓KR_rest_0, ↓KR_rest_l, ↓KR_rest_into, ↓KR_rest_end, ↓KR_rest_looked, ↓KR_rest_cut, ↓KR_go_0, ↓KR_go_1, ↓KR_go_l, ↓KR_go_into, ↓KR_go_end, ↓KR_go_looked, ↓KR_go_cut, ↓KR_ifr_0, ↓KR_ifr_1, ↓KR_ifr_2, ↓KR_ifr_l, ↓KR_ifr_into, ↓KR_ifr_end, ↓KR_ifr_looked, ↓KR_ifr_cut, ↓KR_stop_0, ↓KR_stop_l, ↓KR_stop_into, ↓KR_stop_end, ↓KR_stop_looked, ↓KR_stop_cut, ↓KR_late, ↓KR_far, ↓KR_num, ↓KR_mill_0, ↓KR_mill_1, ↓KR_mill_2, ↓KR_mill_3, ↓KR_pi_len, ↓KA_stop, ↓KA_goes, ↓KA_ends, ↓K_mt1E, ↓kM1_l, ↓kM1_s, ↓kM1b_at, ↓K1_isi_c, ↓kIsiL_at, ↓KN_minl, ↓K2_isB, ↓K2_notB, ↓K1_rev_t, ↓K1_rev_l, ↓K2_nin, ↓K2_nnotin, ↓kNinD_pk, ↓kNnotD_pk, ↓K_nget2, ↓kNg1_at, ↓kNg1b_at, ↓kNg2_at, ↓kNg3_at, ↓kNg4_pk, ↓K_ndctE, ↓K_sNput, ↓kNp1_at, ↓kNp2_at, ↓kNp4_at, ↓K_ndsp1, ↓kNd1_at, ↓KN_nlen_c, ↓kNlenL_at, start0, List.map_cons, List.map_nil, List.length_cons, List.length_nil, List.replicate_succ, List.replicate_zero, Nat.reduceSub, Nat.reduceAdd, wipeE, List.set_cons_zero, List.set_cons_succ, List.cons_append, List.nil_append, $as,*])
local macro_rules | `(tactic| simp_arith [$as,*] at $h:ident) => `(tactic| simp -implicitDefEqProofs (disch := first | assumption | decide | omega | (simp only [List.length_cons, List.length_nil, Mem.put_n, Mem.new_n, Mem.kill_n]; omega)) only [↓KO_some, ↓K_vr, ↓kVr_0, ↓kVr_s, ↓K_cn, ↓K_pure, ↓K_op2, ↓kOp2a_at, ↓kOp2b_at, ↓K_op1, ↓kOp1_at, ↓K_argN, ↓K_argC, ↓kArg1_at, ↓kArg2_at, ↓K_opN, ↓kOpN_at, ↓K_call, ↓kCall_1, ↓kCall_2, ↓kCall_3, ↓kCall_4, ↓kCall_5, ↓K_tpl, ↓K_lsl, ↓K_lsm, ↓K_dctE, ↓kTpl_0, ↓kTpl_1, ↓kTpl_2, ↓kTpl_3, ↓kTpl_4, ↓kTpl_5, ↓kLsl_0, ↓kLsl_1, ↓kLsl_2, ↓kLsl_3, ↓kLsl_4, ↓kLsm_0, ↓K_tV, ↓kTV_at, ↓K_tAnd, ↓kTAnd_t, ↓kTAnd_f, ↓K_tOr, ↓kTOr_t, ↓kTOr_f, ↓K_tNot, ↓kTNot_t, ↓kTNot_f, ↓kTNot_at, ↓K_tYes, ↓K_vAnd, ↓kVAnd_t, ↓kVAnd_f, ↓K_vOr, ↓kVOr_t, ↓kVOr_f, ↓K_vNot, ↓kVNot_at, ↓K_ifE, ↓kIfE_t, ↓kIfE_f, ↓K_chn, ↓kChn0_at, ↓kChn1_at, ↓kChn2_t, ↓kChn2_f, ↓K_soN, ↓K_soS, ↓kSoS_at, ↓K_slc, ↓kSlc0_at, ↓kSlc1_at, ↓kSlc2_at, ↓KSl_tup, ↓KSl_lst, ↓K_sNext, ↓K_sSeq, ↓kSeq_nx, ↓kSeq_rt, ↓K_sRet, ↓kRet_at, ↓K_sRetN, ↓K_sExp, ↓kExp_at, ↓K_sIf, ↓kIf_t, ↓kIf_f, ↓kSet_0, ↓kSet_s, ↓kUn_c, ↓kUn_n, ↓K_sAsg, ↓kAsg_nm, ↓kAsg_tp, ↓kNms_c, ↓kNmsC_at, ↓kNms_n, ↓K_sPar, ↓kPar1_at, ↓kPar2_at, ↓K_run, ↓kRun_rt, ↓kRun_nx, ↓K2_add_i, ↓K2_sub_i, ↓K2_mul_i, ↓K2_mod_i, ↓K2_fdiv_i, ↓K2_lt_i, ↓K2_le_i, ↓K2_gt_i, ↓K2_ge_i, ↓K2_eq_i, ↓K2_ne_i, ↓K2_eq_st, ↓K2_eq_sf, ↓K2_ne_st, ↓K2_ne_sf, ↓K2_eq_b, ↓K2_add_t, ↓K2_add_l, ↓K1_neg_i, ↓K2_isN_n, ↓K2_isN_i, ↓K2_isN_s, ↓K2_isN_t, ↓K2_isN_l, ↓K2_isN_c, ↓K2_notN_n, ↓K2_notN_i, ↓K2_notN_s, ↓K2_notN_t, ↓K2_notN_l, ↓K2_notN_c, ↓K2_ix_t, ↓K2_ix_l, ↓KIx_0, ↓KIx_1, ↓KIx_2, ↓KIx_3, ↓KIx_4, ↓KIx_m1a, ↓KIx_m1b, ↓KIx_m1c, ↓KIx_m1d, ↓KN_len_t, ↓KN_len_l, ↓KN_max2, ↓KN_min2, ↓KN_int_i, ↓KN_int_t, ↓KN_int_f, ↓KN_tuple_l, ↓KN_tuple_t, ↓KN_maxl, ↓KN_suml, ↓K1_isi_n, ↓K1_isi_b, ↓K1_isi_i, ↓K1_isi_s, ↓K1_isi_t, ↓K1_isi_l, ↓KG_put_eq, ↓KG_put_ne, ↓KG_new_eq, ↓KG_new_ne, ↓KG_kill_ne, ↓K2_ix_c, ↓kIxL_at, ↓KN_len_c, ↓kLenL_l, ↓kLenL_d, ↓KN_tuple_c, ↓kTupL_at, ↓KN_max_c, ↓kMaxL_at, ↓KSl_c, ↓kSlL_at, ↓K_appE, ↓kApp1_at, ↓kApp1b_at, ↓kApp2_at, ↓kApp3_at, ↓K_sLput, ↓kPut1_at, ↓kPut2_at, ↓kPut3_at, ↓kPut4_at, ↓K2_dget_i, ↓K2_dget_s, ↓kDgD_at, ↓KVk_eq, ↓KVk_ne, ↓KVd_eq, ↓KVd_ne, ↓KVd_n, ↓K_dget2, ↓kDg1_at, ↓kDg1b_at, ↓kDg2_at, ↓kDg3_at, ↓kDg4_i, ↓kDg4_s, ↓K_sDput, ↓kDp1_at, ↓kDp2_at, ↓kDp3_i, ↓kDp3_s, ↓kDp4_at, ↓K1_fld, ↓kFldO_at, ↓KFl_eq, ↓KFl_ne, ↓K_sFput, ↓kFp1_at, ↓kFp2_at, ↓kFp3_at, ↓kPf_n, ↓kPf_eq, ↓kPu_c, ↓kPu_n, ↓kPf_ne, ↓K_callM, ↓kMt1_at, ↓kMt2_at, ↓kNo_n, ↓kNo_c, ↓kMt3_0, ↓kMt3_1, ↓kMt3_2, ↓kMt3_3, ↓kMt3_4, ↓K_mkE, ↓kMk_1, ↓kMk_2, ↓kMk_3, ↓kMk2_at, ↓K_sFor, ↓kFor_at, ↓K_itRng1, ↓kRng1_nat, ↓K_itRng2, ↓kRng2_at, ↓K_itSeq, ↓kSeqI_t, ↓kSeqI_l, ↓kSeqI_c, ↓kSeqL_at, ↓K_bodyG_nm, ↓K_bodyG_tp, ↓K_sWhile, ↓kComp_at, ↓K_comp, ↓K_compM, ↓kLst_at, ↓kLstM_at, ↓kEx_at, ↓K_exG_nm, ↓K_exG_tp, ↓kAlc_at, ↓K_opNM, ↓kOpNM_at, ↓KN_list_l2, ↓KN_list_t2, ↓KN_list_c, ↓kListL_at, ↓K_op2M, ↓kOp2Ma_at, ↓kOp2Mb_at, ↓K2_rep1, ↓K_prE_n, ↓K_prE_c, ↓kPr1_at, ↓kPr2_at, ↓kPr3_at, ↓K_dspE, ↓kDsp_s1, ↓kDsp_s2, ↓kDsp_s3, ↓kDsp_s4, ↓K_frz, ↓kFrz_c, ↓kFrz_l, ↓kFrz_t, ↓kFrz_n, ↓kFrzL_at, ↓K_extE, ↓kExt1_at, ↓kExt1b_at, ↓kExt2_at, ↓kExt3_at, ↓K_mt0E, ↓kMt0_at, ↓kMt0L_clear, ↓kMt0L_rev, ↓K2_in_t, ↓K2_in_f, ↓K2_notIn_t, ↓K2_notIn_f, ↓K_itZp, ↓kZp1_at, ↓K_itEn, ↓kEnI_t, ↓kEnI_l, ↓K2_din_i, ↓kDinD_at, ↓KR_put_0, ↓KR_put_1, ↓KR_put_2, ↓KR_put_l, ↓KR_put_into, ↓KR_put_end, ↓KR_put_looked, ↓KR_put_cut, ↓KR_move_0, ↓KR_move_1, ↓KR_move_2, ↓KR_move_l, ↓KR_move_into, ↓KR_move_end, ↓KR_move_looked, ↓KR_move_cut, ↓KR_add_0, ↓KR_add_1, ↓KR_add_2, ↓KR_add_3, ↓KR_add_l, ↓KR_add_into, ↓KR_add_end, ↓KR_add_looked, ↓KR_add_cut, ↓KR_take_0, ↓KR_take_1, ↓KR_take_2, ↓KR_take_3, ↓KR_take_l, ↓KR_take_into, ↓KR_take_end, ↓KR_take_looked, ↓KR_take_cut, ↓KR_times_0, ↓KR_times_1, ↓KR_times_2, ↓KR_times_3, ↓KR_times_l, ↓KR_times_into, ↓KR_times_end, ↓KR_times_looked, ↓KR_times_cut, ↓KR_get_0, ↓KR_get_1, ↓KR_get_2, ↓KR_get_l, ↓KR_get_into, ↓KR_get_end, ↓KR_get_looked, ↓KR_get_cut, ↓KR_set_0, ↓KR_set_1, ↓KR_set_2, ↓KR_set_l, ↓KR_set_into, ↓KR_set_end, ↓KR_set_looked, ↓KR_set_cut, ↓KR_say_0, ↓KR_say_1, ↓KR_say_l, ↓KR_say_into, ↓KR_say_end, ↓KR_say_looked, ↓KR_say_cut, ↓KR_rest_0, ↓KR_rest_l, ↓KR_rest_into, ↓KR_rest_end, ↓KR_rest_looked, ↓KR_rest_cut, ↓KR_go_0, ↓KR_go_1, ↓KR_go_l, ↓KR_go_into, ↓KR_go_end, ↓KR_go_looked, ↓KR_go_cut, ↓KR_ifr_0, ↓KR_ifr_1, ↓KR_ifr_2, ↓KR_ifr_l, ↓KR_ifr_into, ↓KR_ifr_end, ↓KR_ifr_looked, ↓KR_ifr_cut, ↓KR_stop_0, ↓KR_stop_l, ↓KR_stop_into, ↓KR_stop_end, ↓KR_stop_looked, ↓KR_stop_cut, ↓KR_late, ↓KR_far, ↓KR_num, ↓KR_mill_0, ↓KR_mill_1, ↓KR_mill_2, ↓KR_mill_3, ↓KR_pi_len, ↓KA_stop, ↓KA_goes, ↓KA_ends, ↓K_mt1E, ↓kM1_l, ↓kM1_s, ↓kM1b_at, ↓K1_isi_c, ↓kIsiL_at, ↓KN_minl, ↓K2_isB, ↓K2_notB, ↓K1_rev_t, ↓K1_rev_l, ↓K2_nin, ↓K2_nnotin, ↓kNinD_pk, ↓kNnotD_pk, ↓K_nget2, ↓kNg1_at, ↓kNg1b_at, ↓kNg2_at, ↓kNg3_at, ↓kNg4_pk, ↓K_ndctE, ↓K_sNput, ↓kNp1_at, ↓kNp2_at, ↓kNp4_at, ↓K_ndsp1, ↓kNd1_at, ↓KN_nlen_c, ↓kNlenL_at, start0, List.map_cons, List.map_nil, List.length_cons, List.length_nil, List.replicate_succ, List.replicate_zero, Nat.reduceSub, Nat.reduceAdd, wipeE, List.set_cons_zero, List.set_cons_succ, List.cons_append, List.nil_append, $as,*] at $h:ident)
def EndS (o : Option Str) : Prop := o = none ∨ o = some (Str.ofString "stop") ∨ o = some (Str.ofString "end")
theorem goOn_fin {p : List Row} {t : Mill} : ∀ (n b : Nat) (s : St), EndS s.fin → EndS (goOn p t n b s).2.fin
  | 0, b, s, h => h
  | n + 1, b, s, h => by
    cases hf : s.fin with
    | none =>
      rw [goOn_none hf]
      refine goOn_fin n (b + 1) _ ?_
      show EndS (if (rowAt p s.here).stops = true then some (Str.ofString "stop") else if _ = p.length then some (Str.ofString "end") else none)
      split
      · exact .inr (.inl rfl)
      · split
        · exact .inr (.inr rfl)
        · exact .inl rfl
    | some _ =>
      rw [goOn_some (by rw [hf]; exact fun h => by cases h)]
      exact h
theorem endZ_plain {o : Option Str} (h : EndS o) : (D.str (endZ o)).plain = true := by
  rcases h with rfl | rfl | rfl <;> decide +kernel
def outD (a : List Int) (z : Str) (b : Int) (c : List Int) : D := .tup [.lst (a.map D.int), .str z, .int b, .lst (c.map D.int)]
theorem outD_plain (a : List Int) {z : Str} (hz : (D.str z).plain = true) (b : Int) (c : List Int) : (outD a z b c).plain = true := by
  show (plains (a.map D.int) && ((D.str z).plain && (true && (plains (c.map D.int) && true)))) = true
  rw [hz, plains_map (f := D.int) (fun _ => rfl) a, plains_map (f := D.int) (fun _ => rfl) c]
  rfl
theorem outD_dep (a : List Int) (z : Str) (b : Int) (c : List Int) : (outD a z b c).dep ≤ 60 := by
  have h1 := deps_map (f := D.int) (n := 0) (fun _ => Nat.le_refl 0) a
  have h2 := deps_map (f := D.int) (n := 0) (fun _ => Nat.le_refl 0) c
  show max (deps (a.map D.int) + 1) (max 0 (max 0 (max (deps (c.map D.int) + 1) 0))) + 1 ≤ 60
  omega
theorem outD_eqv (a : List Int) (z : Str) (b : Int) (c : List Int) : (outD a z b c).eqv (outD a z b c) = true := by
  show (eqvs (a.map D.int) (a.map D.int) && ((D.str z).eqv (.str z) && ((D.int b).eqv (.int b) && (eqvs (c.map D.int) (c.map D.int) && true)))) = true
  rw [eqvs_ints, eqvs_ints, show (D.str z).eqv (.str z) = true from decide_eq_true rfl, show (D.int b).eqv (.int b) = true from decide_eq_true rfl, decide_eq_true rfl, decide_eq_true rfl]
  rfl
/-- what two runs hand back is the same -/
theorem Ended.same {p : List Row} {t u : Mill} {cs : List Int} {fuel n0 n1 : Nat} {m0 m1 m2 m3 : Mem} {d e : D} (h : Ended p t cs fuel n0 m0 d m1) (g : Ended p u cs fuel n1 m2 e m3) (hm : ∀ j, j < m1.n → m3.get j = m1.get j) (hn : m1.n ≤ m3.n) (hs : SameEnd (goOn p u fuel 0 (St0 cs)) (goOn p t fuel 0 (St0 cs))) : gNe e d m3 = some (.bl false) := by
  have hf := goOn_fin (p := p) (t := t) fuel 0 (St0 cs) (.inl rfl)
  obtain ⟨ks, kc, rfl, h1, h2, h3, h4, h5, h6, h7⟩ := h.at_
  obtain ⟨js, jc, rfl, g1, g2, g3, g4, g5, g6, g7⟩ := g.at_
  rw [hs.said] at g6
  rw [hs.cells] at g7
  rw [hs.fin, hs.beats]
  generalize (goOn p t fuel 0 (St0 cs)).2.said = A at *
  generalize (goOn p t fuel 0 (St0 cs)).2.cells = C at *
  generalize (goOn p t fuel 0 (St0 cs)).2.fin = F at *
  generalize (goOn p t fuel 0 (St0 cs)).1 = N at *
  have r1 : res m3 (.loc js) = .lst (A.map D.int) := by unfold res; rw [lst_loc g4 g6]
  have r2 : res m3 (.loc jc) = .lst (C.map D.int) := by unfold res; rw [lst_loc g5 g7]
  have r3 : res m3 (.loc ks) = .lst (A.map D.int) := by unfold res; rw [lst_loc (Nat.lt_of_lt_of_le h4 hn) ((hm ks h4).trans h6)]
  have r4 : res m3 (.loc kc) = .lst (C.map D.int) := by unfold res; rw [lst_loc (Nat.lt_of_lt_of_le h5 hn) ((hm kc h5).trans h7)]
  have t1 : resT m3 (.tup [.loc js, .str (endZ F), .int (N : Nat), .loc jc]) = outD A (endZ F) (N : Nat) C := by
    show D.tup [res m3 (.loc js), _, _, res m3 (.loc jc)] = _
    rw [r1, r2]
    rfl
  have t2 : resT m3 (.tup [.loc ks, .str (endZ F), .int (N : Nat), .loc kc]) = outD A (endZ F) (N : Nat) C := by
    show D.tup [res m3 (.loc ks), _, _, res m3 (.loc kc)] = _
    rw [r3, r4]
    rfl
  have hp := outD_plain A (endZ_plain hf) (N : Nat) C
  have hd := outD_dep A (endZ F) (N : Nat) C
  show (eqDeep m3 (.tup [.loc js, .str (endZ F), .int (N : Nat), .loc jc]) (.tup [.loc ks, .str (endZ F), .int (N : Nat), .loc kc])).map (fun b => D.bl (!b)) = _
  unfold eqDeep
  rw [if_neg (fun h => by cases h.1), t1, t2, if_pos ⟨hp, hp, hd, hd⟩, outD_eqv]
  rfl
end
end LB

set_option Elab.async false
set_option linter.all false
set_option autoImplicit false
set_option maxRecDepth 100000
set_option maxHeartbeats 4000000
/-! Pure: law k15. -/
namespace LB
open PySem
noncomputable section
local macro_rules | `(tactic| simp_arith [$as,*]) => `(tactic| simp -implicitDefEqProofs (disch := first | assumption | decide | omega | (simp only [List.length_cons, List.length_nil, Mem.put_n, Mem.new_n, Mem.kill_n]; omega)) only [↓KO_some, ↓K_vr, ↓kVr_0, ↓kVr_s, ↓K_cn, ↓K_pure, ↓K_op2, ↓kOp2a_at, ↓kOp2b_at, ↓K_op1, ↓kOp1_at, ↓K_argN, ↓K_argC, ↓kArg1_at, ↓kArg2_at, ↓K_opN, ↓kOpN_at, ↓K_call, ↓kCall_1, ↓kCall_2, ↓kCall_3, ↓kCall_4, ↓kCall_5, ↓K_tpl, ↓K_lsl, ↓K_lsm, ↓K_dctE, ↓kTpl_0, ↓kTpl_1, ↓kTpl_2, ↓kTpl_3, ↓kTpl_4, ↓kTpl_5, ↓kLsl_0, ↓kLsl_1, ↓kLsl_2, ↓kLsl_3, ↓kLsl_4, ↓kLsm_0, ↓K_tV, ↓kTV_at, ↓K_tAnd, ↓kTAnd_t, ↓kTAnd_f, ↓K_tOr, ↓kTOr_t, ↓kTOr_f, ↓K_tNot, ↓kTNot_t, ↓kTNot_f, ↓kTNot_at, ↓K_tYes, ↓K_vAnd, ↓kVAnd_t, ↓kVAnd_f, ↓K_vOr, ↓kVOr_t, ↓kVOr_f, ↓K_vNot, ↓kVNot_at, ↓K_ifE, ↓kIfE_t, ↓kIfE_f, ↓K_chn, ↓kChn0_at, ↓kChn1_at, ↓kChn2_t, ↓kChn2_f, ↓K_soN, ↓K_soS, ↓kSoS_at, ↓K_slc, ↓kSlc0_at, ↓kSlc1_at, ↓kSlc2_at, ↓KSl_tup, ↓KSl_lst, ↓K_sNext, ↓K_sSeq, ↓kSeq_nx, ↓kSeq_rt, ↓K_sRet, ↓kRet_at, ↓K_sRetN, ↓K_sExp, ↓kExp_at, ↓K_sIf, ↓kIf_t, ↓kIf_f, ↓kSet_0, ↓kSet_s, ↓kUn_c, ↓kUn_n, ↓K_sAsg, ↓kAsg_nm, ↓kAsg_tp, ↓kNms_c, ↓kNmsC_at, ↓kNms_n, ↓K_sPar, ↓kPar1_at, ↓kPar2_at, ↓K_run, ↓kRun_rt, ↓kRun_nx, ↓K2_add_i, ↓K2_sub_i, ↓K2_mul_i, ↓K2_mod_i, ↓K2_fdiv_i, ↓K2_lt_i, ↓K2_le_i, ↓K2_gt_i, ↓K2_ge_i, ↓K2_eq_i, ↓K2_ne_i, ↓K2_eq_st, ↓K2_eq_sf, ↓K2_ne_st, ↓K2_ne_sf, ↓K2_eq_b, ↓K2_add_t, ↓K2_add_l, ↓K1_neg_i, ↓K2_isN_n, ↓K2_isN_i, ↓K2_isN_s, ↓K2_isN_t, ↓K2_isN_l, ↓K2_isN_c, ↓K2_notN_n, ↓K2_notN_i, ↓K2_notN_s, ↓K2_notN_t, ↓K2_notN_l, ↓K2_notN_c, ↓K2_ix_t, ↓K2_ix_l, ↓KIx_0, ↓KIx_1, ↓KIx_2, ↓KIx_3, ↓KIx_4, ↓KIx_m1a, ↓KIx_m1b, ↓KIx_m1c, ↓KIx_m1d, ↓KN_len_t, ↓KN_len_l, ↓KN_max2, ↓KN_min2, ↓KN_int_i, ↓KN_int_t, ↓KN_int_f, ↓KN_tuple_l, ↓KN_tuple_t, ↓KN_maxl, ↓KN_suml, ↓K1_isi_n, ↓K1_isi_b, ↓K1_isi_i, ↓K1_isi_s, ↓K1_isi_t, ↓K1_isi_l, ↓KG_put_eq, ↓KG_put_ne, ↓KG_new_eq, ↓KG_new_ne, ↓KG_kill_ne, ↓K2_ix_c, ↓kIxL_at, ↓KN_len_c, ↓kLenL_l, ↓kLenL_d, ↓KN_tuple_c, ↓kTupL_at, ↓KN_max_c, ↓kMaxL_at, ↓KSl_c, ↓kSlL_at, ↓K_appE, ↓kApp1_at, ↓kApp1b_at, ↓kApp2_at, ↓kApp3_at, ↓K_sLput, ↓kPut1_at, ↓kPut2_at, ↓kPut3_at, ↓kPut4_at, ↓K2_dget_i, ↓K2_dget_s, ↓kDgD_at, ↓KVk_eq, ↓KVk_ne, ↓KVd_eq, ↓KVd_ne, ↓KVd_n, ↓K_dget2, ↓kDg1_at, ↓kDg1b_at, ↓kDg2_at, ↓kDg3_at, ↓kDg4_i, ↓kDg4_s, ↓K_sDput, ↓kDp1_at, ↓kDp2_at, ↓kDp3_i, ↓kDp3_s, ↓kDp4_at, ↓K1_fld, ↓kFldO_at, ↓KFl_eq, ↓KFl_ne, ↓K_sFput, ↓kFp1_at, ↓kFp2_at, ↓kFp3_at, ↓kPf_n, ↓kPf_eq, ↓kPu_c, ↓kPu_n, ↓kPf_ne, ↓K_callM, ↓kMt1_at, ↓kMt2_at, ↓kNo_n, ↓kNo_c, ↓kMt3_0, ↓kMt3_1, ↓kMt3_2, ↓kMt3_3, ↓kMt3_4, ↓K_mkE, ↓kMk_1, ↓kMk_2, ↓kMk_3, ↓kMk2_at, ↓K_sFor, ↓kFor_at, ↓K_itRng1, ↓kRng1_nat, ↓K_itRng2, ↓kRng2_at, ↓K_itSeq, ↓kSeqI_t, ↓kSeqI_l, ↓kSeqI_c, ↓kSeqL_at, ↓K_bodyG_nm, ↓K_bodyG_tp, ↓K_sWhile, ↓kComp_at, ↓K_comp, ↓K_compM, ↓kLst_at, ↓kLstM_at, ↓kEx_at, ↓K_exG_nm, ↓K_exG_tp, ↓kAlc_at, ↓K_opNM, ↓kOpNM_at, ↓KN_list_l2, ↓KN_list_t2, ↓KN_list_c, ↓kListL_at, ↓K_op2M, ↓kOp2Ma_at, ↓kOp2Mb_at, ↓K2_rep1, ↓K_prE_n, ↓K_prE_c, ↓kPr1_at, ↓kPr2_at, ↓kPr3_at, ↓K_dspE, ↓kDsp_s1, ↓kDsp_s2, ↓kDsp_s3, ↓kDsp_s4, ↓K_frz, ↓kFrz_c, ↓kFrz_l, ↓kFrz_t, ↓kFrz_n, ↓kFrzL_at, ↓K_extE, ↓kExt1_at, ↓kExt1b_at, ↓kExt2_at, ↓kExt3_at, ↓K_mt0E, ↓kMt0_at, ↓kMt0L_clear, ↓kMt0L_rev, ↓K2_in_t, ↓K2_in_f, ↓K2_notIn_t, ↓K2_notIn_f, ↓K_itZp, ↓kZp1_at, ↓K_itEn, ↓kEnI_t, ↓kEnI_l, ↓K2_din_i, ↓kDinD_at, ↓KR_put_0, ↓KR_put_1, ↓KR_put_2, ↓KR_put_l, ↓KR_put_into, ↓KR_put_end, ↓KR_put_looked, ↓KR_put_cut, ↓KR_move_0, ↓KR_move_1, ↓KR_move_2, ↓KR_move_l, ↓KR_move_into, ↓KR_move_end, ↓KR_move_looked, ↓KR_move_cut, ↓KR_add_0, ↓KR_add_1, ↓KR_add_2, ↓KR_add_3, ↓KR_add_l, ↓KR_add_into, ↓KR_add_end, ↓KR_add_looked, ↓KR_add_cut, ↓KR_take_0, ↓KR_take_1, ↓KR_take_2, ↓KR_take_3, ↓KR_take_l, ↓KR_take_into, ↓KR_take_end, ↓KR_take_looked, ↓KR_take_cut, ↓KR_times_0, ↓KR_times_1, ↓KR_times_2, ↓KR_times_3, ↓KR_times_l, ↓KR_times_into, ↓KR_times_end, ↓KR_times_looked, ↓KR_times_cut, ↓KR_get_0, ↓KR_get_1, ↓KR_get_2, ↓KR_get_l, ↓KR_get_into, ↓KR_get_end, ↓KR_get_looked, ↓KR_get_cut, ↓KR_set_0, ↓KR_set_1, ↓KR_set_2, ↓KR_set_l, ↓KR_set_into, ↓KR_set_end, ↓KR_set_looked, ↓KR_set_cut, ↓KR_say_0, ↓KR_say_1, ↓KR_say_l, ↓KR_say_into, ↓KR_say_end, ↓KR_say_looked, ↓KR_say_cut, ↓KR_rest_0, ↓KR_rest_l, ↓KR_rest_into, ↓KR_rest_end, ↓KR_rest_looked, ↓KR_rest_cut, ↓KR_go_0, ↓KR_go_1, ↓KR_go_l, ↓KR_go_into, ↓KR_go_end, ↓KR_go_looked, ↓KR_go_cut, ↓KR_ifr_0, ↓KR_ifr_1, ↓KR_ifr_2, ↓KR_ifr_l, ↓KR_ifr_into, ↓KR_ifr_end, ↓KR_ifr_looked, ↓KR_ifr_cut, ↓KR_stop_0, ↓KR_stop_l, ↓KR_stop_into, ↓KR_stop_end, ↓KR_stop_looked, ↓KR_stop_cut, ↓KR_late, ↓KR_far, ↓KR_num, ↓KR_mill_0, ↓KR_mill_1, ↓KR_mill_2, ↓KR_mill_3, ↓KR_pi_len, ↓KA_stop, ↓KA_goes, ↓KA_ends, ↓K_mt1E, ↓kM1_l, ↓kM1_s, ↓kM1b_at, ↓K1_isi_c, ↓kIsiL_at, ↓KN_minl, ↓K2_isB, ↓K2_notB, ↓K1_rev_t, ↓K1_rev_l, ↓K2_nin, ↓K2_nnotin, ↓kNinD_pk, ↓kNnotD_pk, ↓K_nget2, ↓kNg1_at, ↓kNg1b_at, ↓kNg2_at, ↓kNg3_at, ↓kNg4_pk, ↓K_ndctE, ↓K_sNput, ↓kNp1_at, ↓kNp2_at, ↓kNp4_at, ↓K_ndsp1, ↓kNd1_at, ↓KN_nlen_c, ↓kNlenL_at, start0, List.map_cons, List.map_nil, List.length_cons, List.length_nil, List.replicate_succ, List.replicate_zero, Nat.reduceSub, Nat.reduceAdd, wipeE, List.set_cons_zero, List.set_cons_succ, List.cons_append, List.nil_append, $as,*])
local macro_rules | `(tactic| simp_arith [$as,*] at $h:ident) => `(tactic| simp -implicitDefEqProofs (disch := first | assumption | decide | omega | (simp only [List.length_cons, List.length_nil, Mem.put_n, Mem.new_n, Mem.kill_n]; omega)) only [↓KO_some, ↓K_vr, ↓kVr_0, ↓kVr_s, ↓K_cn, ↓K_pure, ↓K_op2, ↓kOp2a_at, ↓kOp2b_at, ↓K_op1, ↓kOp1_at, ↓K_argN, ↓K_argC, ↓kArg1_at, ↓kArg2_at, ↓K_opN, ↓kOpN_at, ↓K_call, ↓kCall_1, ↓kCall_2, ↓kCall_3, ↓kCall_4, ↓kCall_5, ↓K_tpl, ↓K_lsl, ↓K_lsm, ↓K_dctE, ↓kTpl_0, ↓kTpl_1, ↓kTpl_2, ↓kTpl_3, ↓kTpl_4, ↓kTpl_5, ↓kLsl_0, ↓kLsl_1, ↓kLsl_2, ↓kLsl_3, ↓kLsl_4, ↓kLsm_0, ↓K_tV, ↓kTV_at, ↓K_tAnd, ↓kTAnd_t, ↓kTAnd_f, ↓K_tOr, ↓kTOr_t, ↓kTOr_f, ↓K_tNot, ↓kTNot_t, ↓kTNot_f, ↓kTNot_at, ↓K_tYes, ↓K_vAnd, ↓kVAnd_t, ↓kVAnd_f, ↓K_vOr, ↓kVOr_t, ↓kVOr_f, ↓K_vNot, ↓kVNot_at, ↓K_ifE, ↓kIfE_t, ↓kIfE_f, ↓K_chn, ↓kChn0_at, ↓kChn1_at, ↓kChn2_t, ↓kChn2_f, ↓K_soN, ↓K_soS, ↓kSoS_at, ↓K_slc, ↓kSlc0_at, ↓kSlc1_at, ↓kSlc2_at, ↓KSl_tup, ↓KSl_lst, ↓K_sNext, ↓K_sSeq, ↓kSeq_nx, ↓kSeq_rt, ↓K_sRet, ↓kRet_at, ↓K_sRetN, ↓K_sExp, ↓kExp_at, ↓K_sIf, ↓kIf_t, ↓kIf_f, ↓kSet_0, ↓kSet_s, ↓kUn_c, ↓kUn_n, ↓K_sAsg, ↓kAsg_nm, ↓kAsg_tp, ↓kNms_c, ↓kNmsC_at, ↓kNms_n, ↓K_sPar, ↓kPar1_at, ↓kPar2_at, ↓K_run, ↓kRun_rt, ↓kRun_nx, ↓K2_add_i, ↓K2_sub_i, ↓K2_mul_i, ↓K2_mod_i, ↓K2_fdiv_i, ↓K2_lt_i, ↓K2_le_i, ↓K2_gt_i, ↓K2_ge_i, ↓K2_eq_i, ↓K2_ne_i, ↓K2_eq_st, ↓K2_eq_sf, ↓K2_ne_st, ↓K2_ne_sf, ↓K2_eq_b, ↓K2_add_t, ↓K2_add_l, ↓K1_neg_i, ↓K2_isN_n, ↓K2_isN_i, ↓K2_isN_s, ↓K2_isN_t, ↓K2_isN_l, ↓K2_isN_c, ↓K2_notN_n, ↓K2_notN_i, ↓K2_notN_s, ↓K2_notN_t, ↓K2_notN_l, ↓K2_notN_c, ↓K2_ix_t, ↓K2_ix_l, ↓KIx_0, ↓KIx_1, ↓KIx_2, ↓KIx_3, ↓KIx_4, ↓KIx_m1a, ↓KIx_m1b, ↓KIx_m1c, ↓KIx_m1d, ↓KN_len_t, ↓KN_len_l, ↓KN_max2, ↓KN_min2, ↓KN_int_i, ↓KN_int_t, ↓KN_int_f, ↓KN_tuple_l, ↓KN_tuple_t, ↓KN_maxl, ↓KN_suml, ↓K1_isi_n, ↓K1_isi_b, ↓K1_isi_i, ↓K1_isi_s, ↓K1_isi_t, ↓K1_isi_l, ↓KG_put_eq, ↓KG_put_ne, ↓KG_new_eq, ↓KG_new_ne, ↓KG_kill_ne, ↓K2_ix_c, ↓kIxL_at, ↓KN_len_c, ↓kLenL_l, ↓kLenL_d, ↓KN_tuple_c, ↓kTupL_at, ↓KN_max_c, ↓kMaxL_at, ↓KSl_c, ↓kSlL_at, ↓K_appE, ↓kApp1_at, ↓kApp1b_at, ↓kApp2_at, ↓kApp3_at, ↓K_sLput, ↓kPut1_at, ↓kPut2_at, ↓kPut3_at, ↓kPut4_at, ↓K2_dget_i, ↓K2_dget_s, ↓kDgD_at, ↓KVk_eq, ↓KVk_ne, ↓KVd_eq, ↓KVd_ne, ↓KVd_n, ↓K_dget2, ↓kDg1_at, ↓kDg1b_at, ↓kDg2_at, ↓kDg3_at, ↓kDg4_i, ↓kDg4_s, ↓K_sDput, ↓kDp1_at, ↓kDp2_at, ↓kDp3_i, ↓kDp3_s, ↓kDp4_at, ↓K1_fld, ↓kFldO_at, ↓KFl_eq, ↓KFl_ne, ↓K_sFput, ↓kFp1_at, ↓kFp2_at, ↓kFp3_at, ↓kPf_n, ↓kPf_eq, ↓kPu_c, ↓kPu_n, ↓kPf_ne, ↓K_callM, ↓kMt1_at, ↓kMt2_at, ↓kNo_n, ↓kNo_c, ↓kMt3_0, ↓kMt3_1, ↓kMt3_2, ↓kMt3_3, ↓kMt3_4, ↓K_mkE, ↓kMk_1, ↓kMk_2, ↓kMk_3, ↓kMk2_at, ↓K_sFor, ↓kFor_at, ↓K_itRng1, ↓kRng1_nat, ↓K_itRng2, ↓kRng2_at, ↓K_itSeq, ↓kSeqI_t, ↓kSeqI_l, ↓kSeqI_c, ↓kSeqL_at, ↓K_bodyG_nm, ↓K_bodyG_tp, ↓K_sWhile, ↓kComp_at, ↓K_comp, ↓K_compM, ↓kLst_at, ↓kLstM_at, ↓kEx_at, ↓K_exG_nm, ↓K_exG_tp, ↓kAlc_at, ↓K_opNM, ↓kOpNM_at, ↓KN_list_l2, ↓KN_list_t2, ↓KN_list_c, ↓kListL_at, ↓K_op2M, ↓kOp2Ma_at, ↓kOp2Mb_at, ↓K2_rep1, ↓K_prE_n, ↓K_prE_c, ↓kPr1_at, ↓kPr2_at, ↓kPr3_at, ↓K_dspE, ↓kDsp_s1, ↓kDsp_s2, ↓kDsp_s3, ↓kDsp_s4, ↓K_frz, ↓kFrz_c, ↓kFrz_l, ↓kFrz_t, ↓kFrz_n, ↓kFrzL_at, ↓K_extE, ↓kExt1_at, ↓kExt1b_at, ↓kExt2_at, ↓kExt3_at, ↓K_mt0E, ↓kMt0_at, ↓kMt0L_clear, ↓kMt0L_rev, ↓K2_in_t, ↓K2_in_f, ↓K2_notIn_t, ↓K2_notIn_f, ↓K_itZp, ↓kZp1_at, ↓K_itEn, ↓kEnI_t, ↓kEnI_l, ↓K2_din_i, ↓kDinD_at, ↓KR_put_0, ↓KR_put_1, ↓KR_put_2, ↓KR_put_l, ↓KR_put_into, ↓KR_put_end, ↓KR_put_looked, ↓KR_put_cut, ↓KR_move_0, ↓KR_move_1, ↓KR_move_2, ↓KR_move_l, ↓KR_move_into, ↓KR_move_end, ↓KR_move_looked, ↓KR_move_cut, ↓KR_add_0, ↓KR_add_1, ↓KR_add_2, ↓KR_add_3, ↓KR_add_l, ↓KR_add_into, ↓KR_add_end, ↓KR_add_looked, ↓KR_add_cut, ↓KR_take_0, ↓KR_take_1, ↓KR_take_2, ↓KR_take_3, ↓KR_take_l, ↓KR_take_into, ↓KR_take_end, ↓KR_take_looked, ↓KR_take_cut, ↓KR_times_0, ↓KR_times_1, ↓KR_times_2, ↓KR_times_3, ↓KR_times_l, ↓KR_times_into, ↓KR_times_end, ↓KR_times_looked, ↓KR_times_cut, ↓KR_get_0, ↓KR_get_1, ↓KR_get_2, ↓KR_get_l, ↓KR_get_into, ↓KR_get_end, ↓KR_get_looked, ↓KR_get_cut, ↓KR_set_0, ↓KR_set_1, ↓KR_set_2, ↓KR_set_l, ↓KR_set_into, ↓KR_set_end, ↓KR_set_looked, ↓KR_set_cut, ↓KR_say_0, ↓KR_say_1, ↓KR_say_l, ↓KR_say_into, ↓KR_say_end, ↓KR_say_looked, ↓KR_say_cut, ↓KR_rest_0, ↓KR_rest_l, ↓KR_rest_into, ↓KR_rest_end, ↓KR_rest_looked, ↓KR_rest_cut, ↓KR_go_0, ↓KR_go_1, ↓KR_go_l, ↓KR_go_into, ↓KR_go_end, ↓KR_go_looked, ↓KR_go_cut, ↓KR_ifr_0, ↓KR_ifr_1, ↓KR_ifr_2, ↓KR_ifr_l, ↓KR_ifr_into, ↓KR_ifr_end, ↓KR_ifr_looked, ↓KR_ifr_cut, ↓KR_stop_0, ↓KR_stop_l, ↓KR_stop_into, ↓KR_stop_end, ↓KR_stop_looked, ↓KR_stop_cut, ↓KR_late, ↓KR_far, ↓KR_num, ↓KR_mill_0, ↓KR_mill_1, ↓KR_mill_2, ↓KR_mill_3, ↓KR_pi_len, ↓KA_stop, ↓KA_goes, ↓KA_ends, ↓K_mt1E, ↓kM1_l, ↓kM1_s, ↓kM1b_at, ↓K1_isi_c, ↓kIsiL_at, ↓KN_minl, ↓K2_isB, ↓K2_notB, ↓K1_rev_t, ↓K1_rev_l, ↓K2_nin, ↓K2_nnotin, ↓kNinD_pk, ↓kNnotD_pk, ↓K_nget2, ↓kNg1_at, ↓kNg1b_at, ↓kNg2_at, ↓kNg3_at, ↓kNg4_pk, ↓K_ndctE, ↓K_sNput, ↓kNp1_at, ↓kNp2_at, ↓kNp4_at, ↓K_ndsp1, ↓kNd1_at, ↓KN_nlen_c, ↓kNlenL_at, start0, List.map_cons, List.map_nil, List.length_cons, List.length_nil, List.replicate_succ, List.replicate_zero, Nat.reduceSub, Nat.reduceAdd, wipeE, List.set_cons_zero, List.set_cons_succ, List.cons_append, List.nil_append, $as,*] at $h:ident)
section
variable {k c : Nat}
end
end
end LB

set_option Elab.async false
set_option linter.all false
set_option maxRecDepth 100000
set_option maxHeartbeats 0
namespace LB
open PySem PySem.Spec PyProof.Rows L2
def top (i : Nat) : Stmt := PySem.Challenge.pw_lateboxes_k15_whole_fitted_tells_the_sam.main.body.getD i (.Pass ⟨0, 0, 0, 0⟩)
abbrev s_l_next : Stmt := top 54
abbrev s_l_number : Stmt := top 57
abbrev s_l_cells : Stmt := top 62
abbrev s_l_mill : Stmt := top 56
abbrev s_l_mix : Stmt := top 53
abbrev s_l_boxes : Stmt := top 58
abbrev s_l_deed : Stmt := top 59
abbrev s_l_jump : Stmt := top 60
abbrev s_l_plain : Stmt := top 61
abbrev s_l_comes : Stmt := top 64
abbrev s_l_late : Stmt := top 63
abbrev s_l_run : Stmt := top 65
abbrev s_Fitter___init__ : Stmt := inClass (top 39) 0
abbrev s_is_end : Stmt := top 24
abbrev s_blocks_of : Stmt := top 29
abbrev s_put_into : Stmt := top 26
abbrev s_late : Stmt := top 27
abbrev s_looked_at : Stmt := top 25
abbrev s_far_of : Stmt := top 30
abbrev s_ties_of : Stmt := top 31
abbrev s_in_turn : Stmt := top 37
abbrev s_tail : Stmt := top 32
abbrev s_beats_of : Stmt := top 33
abbrev s_laid : Stmt := top 38
abbrev s_Fitter_fit : Stmt := inClass (top 39) 1
abbrev s_is_number : Stmt := top 20
abbrev s_need_mill : Stmt := top 23
abbrev s_is_row : Stmt := top 21
abbrev s_need_program : Stmt := top 22
abbrev s_need_plain : Stmt := top 40
abbrev s_fitted : Stmt := top 41
abbrev s_Look_is_open : Stmt := inClass (top 45) 3
abbrev s_Look_break_of : Stmt := inClass (top 45) 2
abbrev s_Look_waited : Stmt := inClass (top 45) 5
abbrev s_Look_nexts_of : Stmt := inClass (top 45) 4
abbrev s_Look_go_on : Stmt := inClass (top 45) 1
abbrev s_Look___init__ : Stmt := inClass (top 45) 0
abbrev s_look : Stmt := top 46
abbrev s_Runner___init__ : Stmt := inClass (top 49) 0
abbrev s_Runner_lay : Stmt := inClass (top 49) 2
abbrev s_Runner_worth : Stmt := inClass (top 49) 3
abbrev s_Runner_step : Stmt := inClass (top 49) 1
abbrev s_need_cells : Stmt := top 50
abbrev s_run : Stmt := top 51
abbrev s_law : Stmt := top 67
abbrev s_l_kind : Stmt := top 66
abbrev s_BadProgram___init__ : Stmt := inClass (top 2) 0
def fn : List He.DefD := [⟨("_law_next", none), "_law_next", "_law_next", defArgs s_l_next, defBody s_l_next, defScope s_l_next, [], []⟩,
  ⟨("_law_number", none), "_law_number", "_law_number", defArgs s_l_number, defBody s_l_number, defScope s_l_number, [], []⟩,
  ⟨("_law_cells", none), "_law_cells", "_law_cells", defArgs s_l_cells, defBody s_l_cells, defScope s_l_cells, [], []⟩,
  ⟨("_law_mill", none), "_law_mill", "_law_mill", defArgs s_l_mill, defBody s_l_mill, defScope s_l_mill, [], []⟩,
  ⟨("_law_mix", none), "_law_mix", "_law_mix", defArgs s_l_mix, defBody s_l_mix, defScope s_l_mix, [], []⟩,
  ⟨("_law_boxes", none), "_law_boxes", "_law_boxes", defArgs s_l_boxes, defBody s_l_boxes, defScope s_l_boxes, [], []⟩,
  ⟨("_law_deed", none), "_law_deed", "_law_deed", defArgs s_l_deed, defBody s_l_deed, defScope s_l_deed, [], []⟩,
  ⟨("_law_jump", none), "_law_jump", "_law_jump", defArgs s_l_jump, defBody s_l_jump, defScope s_l_jump, [], []⟩,
  ⟨("_law_plain", none), "_law_plain", "_law_plain", defArgs s_l_plain, defBody s_l_plain, defScope s_l_plain, [], []⟩,
  ⟨("_law_comes", none), "_law_comes", "_law_comes", defArgs s_l_comes, defBody s_l_comes, defScope s_l_comes, [], []⟩,
  ⟨("_law_late", none), "_law_late", "_law_late", defArgs s_l_late, defBody s_l_late, defScope s_l_late, [], []⟩,
  ⟨("_law_run", none), "_law_run", "_law_run", defArgs s_l_run, defBody s_l_run, defScope s_l_run, [], []⟩,
  ⟨("Fitter", some "__init__"), "__init__", "Fitter.__init__", defArgs s_Fitter___init__, defBody s_Fitter___init__, defScope s_Fitter___init__, [], []⟩,
  ⟨("is_end", none), "is_end", "is_end", defArgs s_is_end, defBody s_is_end, defScope s_is_end, [], []⟩,
  ⟨("blocks_of", none), "blocks_of", "blocks_of", defArgs s_blocks_of, defBody s_blocks_of, defScope s_blocks_of, [], []⟩,
  ⟨("put_into", none), "put_into", "put_into", defArgs s_put_into, defBody s_put_into, defScope s_put_into, [], []⟩,
  ⟨("late", none), "late", "late", defArgs s_late, defBody s_late, defScope s_late, [], []⟩,
  ⟨("looked_at", none), "looked_at", "looked_at", defArgs s_looked_at, defBody s_looked_at, defScope s_looked_at, [], []⟩,
  ⟨("far_of", none), "far_of", "far_of", defArgs s_far_of, defBody s_far_of, defScope s_far_of, [], []⟩,
  ⟨("ties_of", none), "ties_of", "ties_of", defArgs s_ties_of, defBody s_ties_of, defScope s_ties_of, [], []⟩,
  ⟨("in_turn", none), "in_turn", "in_turn", defArgs s_in_turn, defBody s_in_turn, defScope s_in_turn, [], []⟩,
  ⟨("tail", none), "tail", "tail", defArgs s_tail, defBody s_tail, defScope s_tail, [], []⟩,
  ⟨("beats_of", none), "beats_of", "beats_of", defArgs s_beats_of, defBody s_beats_of, defScope s_beats_of, [], []⟩,
  ⟨("laid", none), "laid", "laid", defArgs s_laid, defBody s_laid, defScope s_laid, [], []⟩,
  ⟨("Fitter", some "fit"), "fit", "Fitter.fit", defArgs s_Fitter_fit, defBody s_Fitter_fit, defScope s_Fitter_fit, [], []⟩,
  ⟨("is_number", none), "is_number", "is_number", defArgs s_is_number, defBody s_is_number, defScope s_is_number, [], []⟩,
  ⟨("need_mill", none), "need_mill", "need_mill", defArgs s_need_mill, defBody s_need_mill, defScope s_need_mill, [], []⟩,
  ⟨("is_row", none), "is_row", "is_row", defArgs s_is_row, defBody s_is_row, defScope s_is_row, [], []⟩,
  ⟨("need_program", none), "need_program", "need_program", defArgs s_need_program, defBody s_need_program, defScope s_need_program, [], []⟩,
  ⟨("need_plain", none), "need_plain", "need_plain", defArgs s_need_plain, defBody s_need_plain, defScope s_need_plain, [], []⟩,
  ⟨("fitted", none), "fitted", "fitted", defArgs s_fitted, defBody s_fitted, defScope s_fitted, [], []⟩,
  ⟨("Look", some "is_open"), "is_open", "Look.is_open", defArgs s_Look_is_open, defBody s_Look_is_open, defScope s_Look_is_open, [], []⟩,
  ⟨("Look", some "break_of"), "break_of", "Look.break_of", defArgs s_Look_break_of, defBody s_Look_break_of, defScope s_Look_break_of, [], []⟩,
  ⟨("Look", some "waited"), "waited", "Look.waited", defArgs s_Look_waited, defBody s_Look_waited, defScope s_Look_waited, [], []⟩,
  ⟨("Look", some "nexts_of"), "nexts_of", "Look.nexts_of", defArgs s_Look_nexts_of, defBody s_Look_nexts_of, defScope s_Look_nexts_of, [], []⟩,
  ⟨("Look", some "go_on"), "go_on", "Look.go_on", defArgs s_Look_go_on, defBody s_Look_go_on, defScope s_Look_go_on, [], []⟩,
  ⟨("Look", some "__init__"), "__init__", "Look.__init__", defArgs s_Look___init__, defBody s_Look___init__, defScope s_Look___init__, [], []⟩,
  ⟨("look", none), "look", "look", defArgs s_look, defBody s_look, defScope s_look, [], []⟩,
  ⟨("Runner", some "__init__"), "__init__", "Runner.__init__", defArgs s_Runner___init__, defBody s_Runner___init__, defScope s_Runner___init__, [], []⟩,
  ⟨("Runner", some "lay"), "lay", "Runner.lay", defArgs s_Runner_lay, defBody s_Runner_lay, defScope s_Runner_lay, [], []⟩,
  ⟨("Runner", some "worth"), "worth", "Runner.worth", defArgs s_Runner_worth, defBody s_Runner_worth, defScope s_Runner_worth, [], []⟩,
  ⟨("Runner", some "step"), "step", "Runner.step", defArgs s_Runner_step, defBody s_Runner_step, defScope s_Runner_step, [], []⟩,
  ⟨("need_cells", none), "need_cells", "need_cells", defArgs s_need_cells, defBody s_need_cells, defScope s_need_cells, [], []⟩,
  ⟨("run", none), "run", "run", defArgs s_run, defBody s_run, defScope s_run, [], []⟩,
  ⟨("law", none), "law", "law", defArgs s_law, defBody s_law, defScope s_law, [], []⟩,
  ⟨("_law_kind", none), "_law_kind", "_law_kind", defArgs s_l_kind, defBody s_l_kind, defScope s_l_kind, [], []⟩,
  ⟨("BadProgram", some "__init__"), "__init__", "BadProgram.__init__", defArgs s_BadProgram___init__, defBody s_BadProgram___init__, defScope s_BadProgram___init__, [], []⟩]
def fa : List He.Fa := [.free "range", .glo "_law_kind", .int "MOST_FUEL" 1000, .glo "BadFuel", .exc "BadFuel", .cls "Runner", .noat "Runner" "end", .noat "Runner" "beats", .noat "Runner" "said", .noat "Runner" "cells", .free "isinstance", .free "tuple", .glo "BadProgram", .free "len", .int "MOST_ROWS" 200, .free "str", .int "BOXES" 8, .int "RING" 1000, .free "zip", .free "int", .free "bool", .glo "BadMill", .exc "BadMill", .int "CELLS" 16, .glo "BadCells", .exc "BadCells", .noat "Runner" "program", .noat "Runner" "here", .noat "Runner" "coming", .noat "Runner" "mill", .noat "Runner" "boxes", .noat "Runner" "goings", .int "JUMP" 3, .int "GET" 1, .int "TIMES" 2, .int "PLAIN" 0, .free "list", .cls "Look", .noat "Look" "found", .noat "Look" "program", .noat "Look" "mill", .noat "Look" "met", .int "MOST_STATES" 250, .glo "TooMany", .exc "TooMany", .free "max", .cls "Fitter", .glo "in_turn", .int "MOST_PLAIN" 40, .noat "Fitter" "program", .noat "Fitter" "begins", .noat "Fitter" "rows", .noat "Fitter" "mill", .free "enumerate", .free "sorted", .free "min", .glo "BadPiece", .glo "BadText", .free "ValueError", .glo "LateError", .meth "BadProgram" "__init__", .glo "_law_next", .glo "_law_number", .glo "_law_cells", .glo "_law_mill", .glo "_law_mix", .glo "_law_boxes", .glo "_law_deed", .glo "_law_jump", .glo "_law_plain", .glo "_law_comes", .glo "_law_late", .glo "_law_run", .glo "is_end", .glo "blocks_of", .glo "put_into", .glo "late", .glo "looked_at", .glo "far_of", .glo "ties_of", .glo "tail", .glo "beats_of", .glo "laid", .glo "is_number", .glo "need_mill", .glo "is_row", .glo "need_program", .glo "need_plain", .glo "fitted", .glo "look", .glo "need_cells", .glo "run", .glo "law", .glo "MOST_LATE", .glo "REST", .glo "FIRST", .glo "FORMS", .glo "Fitter", .mkr "Fitter", .glo "Look", .mkr "Look", .glo "Runner", .mkr "Runner", .meth "Fitter" "fit", .meth "Look" "is_open", .meth "Look" "break_of", .meth "Look" "waited", .meth "Look" "nexts_of", .meth "Look" "go_on", .meth "Runner" "lay", .meth "Runner" "worth", .meth "Runner" "step"]
def ts : List He.Tab := [((fun K => He.ga K "FORMS"), ["put", "move", "add", "take", "times", "get", "set", "say", "rest", "go", "if", "stop"])]
def ex : PySem.W.Frag → Bool := fun K => tupB K (He.ga K "MOST_LATE") [.int 2, .int 4, .int 4, .int 3] && (tupB K (He.ga K "REST") [.str "rest"] && (relK K (.tup [.int 0, .non, .tup [.int 0, .int 0, .int 0, .int 0, .int 0, .int 0, .int 0, .int 0]]) (.ref (He.ga K "FIRST")) && (kitB K && (fldB K && (iniB K "BadProgram" "row" && (tabB K (He.ga K "FORMS") tbF))))))
abbrev C (w : World) (K : PySem.W.Frag) (mg : Str → Option Value) : Prop := Ctx fa fn ts ex w K mg
def tfL : List He.Defn := [("law", none)]
section
variable {Pg : Program} {w : World} {K : PySem.W.Frag} {mg : Str → Option Value} {base : Heap}
end
abbrev R : PySem.W.OpenRow := PySem.W.OpenLaw.row PySem.Challenge.rw_lateboxes_k15_whole_fitted_tells_the_sam
abbrev hk : PySem.W.Hook := hookY 4 fa fn ts tfL ex
end LB
open PySem PySem.W PySem.Calls PyProof.Rows
