import PyProof.Rows.All
import PySem.PyData
import PySem.Sem
import KE.KeyNested
import HandS.ForMost
import HandS.ForExc
import HandS.TupAny
import HandS.Lambda
import HandS.HeadHook1
import HandS.Deep
import HandS.IsInst
import HandS.SortInts
import HandS.Zip
import KE.GoesNew
import KE.GoesMore
import KE.GoesEnum
import HandS.NoneIn
import HandS.More
import HandS.HeadNt
import HandS.HeadHook4
import HandS.TupSets
import HandS.Conv
import KE.KDictZip
import HandS.SetFor
import HandS.Text
import HandS.Iter
import HandS.Steps
import KE.KDictDisplayH
import HandS.TupLen
import KE.KDictPairs
import HandS.Style
import HandS.TupMul
import HandS.ExcOwn
import HandS.ExcInit
import HandS.ExcField
import KE.KExcIs
import HandS.Words
import HandS.CallLocal
import KE.KIntText
import PyProof.Rows.StrSplitJoin
import HandS.Head0
import HandS.Head1
import HandS.Head2
import HandS.HeadEnd
import HandS.HeadWalk
import PySem.Challenge.RW_lateboxes_k20_texts_refused
set_option Elab.async false
set_option linter.all false
set_option maxRecDepth 100000
/-! The pure part: data, a store of things that may change, the monad of runs, the functions that statements and expressions are read as. -/
namespace LB
open PySem

abbrev KeyS := Sum Int Str
inductive D where
  | non
  | bl (b : Bool)
  | int (i : Int)
  | str (s : Str)
  | tup (xs : List D)
  | lst (xs : List D)
  | loc (k : Nat)
  | ref (a : Nat)
  | scr (ns : List Int)
  deriving Inhabited
/-- what stands in a cell of the store -/
inductive MO where
  | lst (xs : List D)
  | dct (kvs : List (KeyS × D))
  | dcn (kvs : List (NestedKey × D))
  | obj (c : Nat) (fs : List (Str × D))
structure Mem where
  get : Nat → Option MO
  n : Nat
def Mem.put (m : Mem) (k : Nat) (o : MO) : Mem := ⟨fun j => if j = k then some o else m.get j, m.n⟩
def Mem.new (m : Mem) (o : MO) : Mem := ⟨fun j => if j = m.n then some o else m.get j, m.n + 1⟩
def Mem.kill (m : Mem) (k : Nat) : Mem := ⟨fun j => if j = k then none else m.get j, m.n⟩
/-- an error: which class, its field -/
structure Er where
  cls : Nat
  fld : Option D
inductive Rs (α : Type) where
  | bad
  | ok (x : α) (m : Mem)
  | ex (e : Er) (m : Mem)
abbrev M (α : Type) := Mem → Rs α
def M.pure {α : Type} (x : α) : M α := fun m => .ok x m
def M.bind {α β : Type} (a : M α) (f : α → M β) : M β := fun m => match a m with
  | .bad => .bad
  | .ok x m1 => f x m1
  | .ex e m1 => .ex e m1
abbrev Ev := List (Option D)
inductive Fl where
  | nx | bk | ct | rt (d : D)
abbrev SE := Ev → M D
abbrev SB := Ev → M Bool
abbrev SA := Ev → M (List D)
abbrev SS := Ev → M (Fl × Ev)

/-! ### what a run tells -/
def Rs.wp {α : Type} (r : Rs α) (q : α → Mem → Prop) (e : Er → Mem → Prop) : Prop := match r with
  | .bad => False
  | .ok x m => q x m
  | .ex x m => e x m
theorem Rs.wp_mono {α : Type} {r : Rs α} {q q' : α → Mem → Prop} {e e' : Er → Mem → Prop} (h : r.wp q e) (hq : ∀ x m, q x m → q' x m) (he : ∀ x m, e x m → e' x m) : r.wp q' e' := by
  cases r with
  | bad => exact h
  | ok x m => exact hq x m h
  | ex x m => exact he x m h
theorem wp_bind {α β : Type} {a : M α} {f : α → M β} {m : Mem} {q : β → Mem → Prop} {e : Er → Mem → Prop} (h : (M.bind a f m).wp q e) : (a m).wp (fun x m1 => (f x m1).wp q e) e := by
  unfold M.bind at h
  cases ha : a m with
  | bad => rw [ha] at h; exact h
  | ok x m1 => rw [ha] at h; exact h
  | ex x m1 => rw [ha] at h; exact h

/-! ### expressions -/
def vr (i : Nat) : SE := fun ρ m => match ρ[i]? with
  | some (some d) => .ok d m
  | _ => .bad
def cn (d : D) : SE := fun _ m => .ok d m
/-- a two-place operation without a change of the store -/
abbrev O2 := D → D → Mem → Option D
abbrev O1 := D → Mem → Option D
def lift {α : Type} (o : Option α) : M α := fun m => match o with
  | some x => .ok x m
  | none => .bad
def op2 (g : O2) (a b : SE) : SE := fun ρ => M.bind (a ρ) fun x => M.bind (b ρ) fun y => fun m => lift (g x y m) m
def op1 (g : O1) (a : SE) : SE := fun ρ => M.bind (a ρ) fun x => fun m => lift (g x m) m
def argN : SA := fun _ m => .ok [] m
def argC (a : SE) (r : SA) : SA := fun ρ => M.bind (a ρ) fun x => M.bind (r ρ) fun xs => M.pure (x :: xs)
abbrev ON := List D → Mem → Option D
def opN (g : ON) (a : SA) : SE := fun ρ => M.bind (a ρ) fun xs => fun m => lift (g xs m) m
/-- the call of a function of one's own -/
abbrev Fn := List D → M D
def call (f : Fn) (a : SA) : SE := fun ρ => M.bind (a ρ) f
/-- a list that may change -/
def alloc (o : MO) : M D := fun m => .ok (.loc m.n) (m.new o)
/-- what may change no more -/
def frzD (d : D) : M D := fun m => match d with
  | .loc k => match m.get k with
    | some (.lst xs) => if k < m.n then .ok (.lst xs) (m.kill k) else .bad
    | _ => .bad
  | d => .ok d m
def frz (a : SE) : SE := fun ρ => M.bind (a ρ) frzD
/-- a list that was handed back as one that changes no more, or: the other way round where it is new (asked by the call) -/
def ifE (t : SB) (a b : SE) : SE := fun ρ => M.bind (t ρ) fun c => if c = true then a ρ else b ρ
/-! tests -/
def tV (a : SE) : SB := fun ρ => M.bind (a ρ) fun x => match x with
  | .bl b => M.pure b
  | _ => fun _ => .bad
def tAnd (a b : SB) : SB := fun ρ => M.bind (a ρ) fun c => if c = true then b ρ else M.pure false
def tOr (a b : SB) : SB := fun ρ => M.bind (a ρ) fun c => if c = true then M.pure true else b ρ
def tNot (a : SB) : SB := fun ρ => M.bind (a ρ) fun c => M.pure (!c)
/-- and, or, not as values, of truth values -/
def asB (d : D) : M Bool := fun m => match d with
  | .bl b => .ok b m
  | _ => .bad
def vAnd (a b : SE) : SE := fun ρ => M.bind (a ρ) fun x => M.bind (asB x) fun c => if c = true then b ρ else M.pure (.bl false)
def vOr (a b : SE) : SE := fun ρ => M.bind (a ρ) fun x => M.bind (asB x) fun c => if c = true then M.pure (.bl true) else b ρ
def vNot (a : SE) : SE := fun ρ => M.bind (a ρ) fun x => M.bind (asB x) fun c => M.pure (.bl (!c))

/-! ### statements -/
def sNext : SS := fun ρ => M.pure (.nx, ρ)
def sSeq (a b : SS) : SS := fun ρ => M.bind (a ρ) fun r => match r with
  | (.nx, ρ1) => b ρ1
  | r => M.pure r
def sRet (a : SE) : SS := fun ρ => M.bind (a ρ) fun d => M.pure (.rt d, ρ)
def sRetN : SS := fun ρ => M.pure (.rt .non, ρ)
def sExp (a : SE) : SS := fun ρ => M.bind (a ρ) fun _ => M.pure (.nx, ρ)
def sIf (t : SB) (a b : SS) : SS := fun ρ => M.bind (t ρ) fun c => if c = true then a ρ else b ρ
abbrev SG := D → Ev → Option Ev
def gNm (i : Nat) : SG := fun d ρ => some (ρ.set i (some d))
def gNms (is : List Nat) (ds : List D) (ρ : Ev) : Option Ev := match is, ds with
  | [], [] => some ρ
  | i :: is, d :: ds => gNms is ds (ρ.set i (some d))
  | _, _ => none
def gTp (is : List Nat) : SG := fun d ρ => match d with
  | .tup ds => gNms is ds ρ
  | _ => none
def sAsg (a : SE) (g : SG) : SS := fun ρ => M.bind (a ρ) fun d => match g d ρ with
  | some ρ1 => M.pure (.nx, ρ1)
  | none => fun _ => .bad
/-- what is walked: the i-th item, as the store is then; none: the end -/
abbrev Wk := Nat → Mem → Option (Option D)
abbrev SI := Ev → M (Wk × Nat)
def forG (w : Wk) (g : SG) (body : SS) : Nat → Nat → SS
  | fuel, i, ρ => fun m => match w i m with
    | none => .bad
    | some none => .ok (.nx, ρ) m
    | some (some x) => match fuel with
      | 0 => .bad
      | fuel + 1 => match g x ρ with
        | none => .bad
        | some ρ1 => M.bind (body ρ1) (fun r => match r with
          | (.nx, ρ2) => forG w g body fuel (i + 1) ρ2
          | (.ct, ρ2) => forG w g body fuel (i + 1) ρ2
          | (.bk, ρ2) => M.pure (.nx, ρ2)
          | (.rt d, ρ2) => M.pure (.rt d, ρ2)) m
def sFor (it : SI) (g : SG) (body : SS) : SS := fun ρ => M.bind (it ρ) fun w => forG w.1 g body w.2 0 ρ
def whileG (t : SB) (body : SS) : Nat → SS
  | fuel, ρ => M.bind (t ρ) fun c => if c = true then (match fuel with
      | 0 => fun _ => .bad
      | fuel + 1 => M.bind (body ρ) fun r => match r with
        | (.nx, ρ2) => whileG t body fuel ρ2
        | (.ct, ρ2) => whileG t body fuel ρ2
        | (.bk, ρ2) => M.pure (.nx, ρ2)
        | (.rt d, ρ2) => M.pure (.rt d, ρ2)) else M.pure (.nx, ρ)
def sWhile (fuel : Ev → Mem → Nat) (t : SB) (body : SS) : SS := fun ρ m => whileG t body (fuel ρ m) ρ m
/-! comprehensions -/
def wipeE (ρ : Ev) : List Nat → Ev
  | [] => ρ
  | v :: vs => (wipeE ρ vs).set v none
/-- no error leaves -/
def noex {α : Type} (a : M α) : M α := fun m => match a m with
  | .ex _ _ => .bad
  | r => r
def compG (w : Wk) (g : SG) (t : SB) (e : SE) (ρ0 : Ev) : Nat → Nat → List D → M (List D)
  | fuel, i, acc => fun m => match w i m with
    | none => .bad
    | some none => .ok acc m
    | some (some x) => match fuel with
      | 0 => .bad
      | fuel + 1 => match g x ρ0 with
        | none => .bad
        | some ρ1 => M.bind (noex (t ρ1)) (fun c => if c = true then M.bind (noex (e ρ1)) (fun y m => if acc.length < sizeLine then compG w g t e ρ0 fuel (i + 1) (acc ++ [y]) m else .bad) else compG w g t e ρ0 fuel (i + 1) acc) m
def compL (it : SI) (g : SG) (t : SB) (e : SE) (own : List Nat) : Ev → M (List D) := fun ρ => M.bind (it ρ) fun w => compG w.1 g t e (wipeE ρ own) w.2 0 []
def comp (it : SI) (g : SG) (t : SB) (e : SE) (own : List Nat) : SE := fun ρ => M.bind (compL it g t e own ρ) fun ys => M.pure (.lst ys)
def compM (it : SI) (g : SG) (t : SB) (e : SE) (own : List Nat) : SE := fun ρ => M.bind (compL it g t e own ρ) fun ys => alloc (.lst ys)
def tYes : SB := fun _ => M.pure true

/-! ### a def's run -/
def start (n : Nat) (ds : List D) : Ev := ds.map some ++ List.replicate (n - ds.length) none
def run (n : Nat) (f : SS) : Fn := fun ds => M.bind (f (start n ds)) fun r => match r with
  | (.rt d, _) => M.pure d
  | (.nx, _) => M.pure .non
  | _ => fun _ => .bad

/-! ### which cells are spoken of -/
mutual
def D.blw (n : Nat) : D → Bool
  | .tup xs => blws n xs
  | .lst xs => blws n xs
  | .loc k => decide (k < n)
  | .non => true
  | .bl _ => true
  | .int _ => true
  | .str _ => true
  | .ref _ => true
  | .scr _ => true
def blws (n : Nat) : List D → Bool
  | [] => true
  | x :: xs => x.blw n && blws n xs
end
def MO.blw (n : Nat) : MO → Bool
  | .lst xs => blws n xs
  | .dct kvs => kvs.all fun p => p.2.blw n
  | .dcn kvs => kvs.all fun p => p.2.blw n
  | .obj _ fs => fs.all fun p => p.2.blw n
/-- m1 is what is told of m2 behind a run from m0: what was made on the way is forgotten -/
def Tr (m0 m1 m2 : Mem) : Prop := m0.n ≤ m1.n ∧ m1.n ≤ m2.n ∧ ∀ k, k < m1.n → m1.get k = none ∨ (m1.get k = m2.get k ∧ ((k < m0.n ∧ m1.get k = m0.get k) ∨ ∀ o, m1.get k = some o → o.blw m1.n = true))
inductive LeR (m0 : Mem) : Rs D → Rs D → Prop
  | bad (r : Rs D) : LeR m0 .bad r
  | same (r : Rs D) : LeR m0 r r
  | ok (d : D) (m1 m2 : Mem) : Tr m0 m1 m2 → d.blw m1.n = true → LeR m0 (.ok d m1) (.ok d m2)
  | ex (e : Er) (m1 m2 : Mem) : Tr m0 m1 m2 → (∀ d, e.fld = some d → d.blw m1.n = true) → LeR m0 (.ex e m1) (.ex e m2)

/-! ### equality -/
mutual
def D.plain : D → Bool
  | .non => true
  | .bl _ => true
  | .int _ => true
  | .str x => x.cps.all (· < 0x110000)
  | .tup xs => plains xs
  | .lst xs => plains xs
  | .loc _ => false
  | .ref _ => false
  | .scr _ => false
def plains : List D → Bool
  | [] => true
  | x :: xs => x.plain && plains xs
end
mutual
def D.dep : D → Nat
  | .tup xs => deps xs + 1
  | .lst xs => deps xs + 1
  | .non => 0
  | .bl _ => 0
  | .int _ => 0
  | .str _ => 0
  | .loc _ => 0
  | .ref _ => 0
  | .scr _ => 0
def deps : List D → Nat
  | [] => 0
  | x :: xs => max x.dep (deps xs)
end
mutual
def D.eqv : D → D → Bool
  | .non, .non => true
  | .bl a, .bl b => a == b
  | .bl a, .int j => (if a then 1 else 0) == j
  | .int i, .bl b => i == (if b then 1 else 0)
  | .int i, .int j => i == j
  | .str x, .str y => x == y
  | .lst xs, .lst ys => eqvs xs ys
  | .tup xs, .tup ys => eqvs xs ys
  | _, _ => false
def eqvs : List D → List D → Bool
  | [], [] => true
  | x :: xs, y :: ys => D.eqv x y && eqvs xs ys
  | [], _ :: _ => false
  | _ :: _, [] => false
end
/-! ### operations -/
def lstOf (m : Mem) : D → Option (List D)
  | .lst xs => some xs
  | .loc k => if k < m.n then (match m.get k with
    | some (.lst xs) => some xs
    | _ => none) else none
  | _ => none
def sqOf (m : Mem) : D → Option (List D)
  | .tup xs => some xs
  | .scr ns => some (ns.map D.int)
  | d => lstOf m d
def gAdd : O2 := fun x y m => match x, y with
  | .int i, .int j => some (.int (i + j))
  | .str i, .str j => if i.length + j.length ≤ sizeLine then some (.str (i ++ j)) else none
  | .tup xs, .tup ys => if xs.length + ys.length ≤ sizeLine then some (.tup (xs ++ ys)) else none
  | x, y => match lstOf m x, lstOf m y with
    | some xs, some ys => if xs.length + ys.length ≤ sizeLine then some (.lst (xs ++ ys)) else none
    | _, _ => none
def g2I (f : Int → Int → D) : O2 := fun x y _ => match x, y with
  | .int i, .int j => some (f i j)
  | _, _ => none
def g2IC (c : Int → Int → Bool) (f : Int → Int → D) : O2 := fun x y _ => match x, y with
  | .int i, .int j => if c i j = true then some (f i j) else none
  | _, _ => none
def gSub : O2 := g2I fun i j => .int (i - j)
def small64 (i : Int) : Bool := decide (-(2 ^ 64) < i) && decide (i < 2 ^ 64)
def gMul : O2 := g2IC (fun i j => small64 i || small64 j) fun i j => .int (i * j)
def gMod : O2 := g2IC (fun _ j => decide (j ≠ 0)) fun i j => .int (i.fmod j)
def gFdiv : O2 := g2IC (fun _ j => decide (j ≠ 0) && decide (j.natAbs < 1073741824)) fun i j => .int (i.fdiv j)
def gPow : O2 := g2IC (fun i j => decide (0 ≤ j) && decide (j ≤ 1000000) && decide (i.natAbs < 2 ^ 64)) fun i j => .int (i ^ j.toNat)
def gLt : O2 := g2I fun i j => .bl (decide (i < j))
def gLe : O2 := g2I fun i j => .bl (decide (i ≤ j))
def gGt : O2 := g2I fun i j => .bl (decide (j < i))
def gGe : O2 := g2I fun i j => .bl (decide (j ≤ i))
/-- a list of the store as it stands -/
def res (m : Mem) (d : D) : D := match lstOf m d with
  | some xs => .lst xs
  | none => d
/-- a tuple's lists of the store, too -/
def resT (m : Mem) : D → D
  | .tup xs => .tup (xs.map (res m))
  | d => res m d
/-- tuples of such ones, too -/
def resU (m : Mem) : D → D
  | .tup xs => .tup (xs.map (resT m))
  | d => res m d
def eqDeep (m : Mem) (x y : D) : Option Bool :=
  if (res m x).plain = true ∧ (res m y).plain = true ∧ (res m x).dep ≤ 60 ∧ (res m y).dep ≤ 60 then some ((res m x).eqv (res m y))
  else if (resT m x).plain = true ∧ (resT m y).plain = true ∧ (resT m x).dep ≤ 60 ∧ (resT m y).dep ≤ 60 then some ((resT m x).eqv (resT m y))
  else if (resU m x).plain = true ∧ (resU m y).plain = true ∧ (resU m x).dep ≤ 60 ∧ (resU m y).dep ≤ 60 then some ((resU m x).eqv (resU m y)) else none
def eqOf (m : Mem) : D → D → Option Bool
  | .non, .non => some true
  | .int i, .int j => some (decide (i = j))
  | .bl a, .bl b => some (decide (a = b))
  | .str x, .str y => some (decide (x = y))
  | x, y => eqDeep m x y
def gEq : O2 := fun x y m => (eqOf m x y).map fun b => .bl b
def gNe : O2 := fun x y m => (eqOf m x y).map fun b => .bl (!b)
def gIsN : O2 := fun x y _ => match y with
  | .non => some (.bl (match x with
    | .non => true
    | _ => false))
  | _ => none
def gNotN : O2 := fun x y _ => match y with
  | .non => some (.bl (match x with
    | .non => false
    | _ => true))
  | _ => none
def D.isFlat : D → Bool
  | .non => true
  | .bl _ => true
  | .int _ => true
  | .str _ => true
  | _ => false
def inD (x : D) (xs : List D) : Bool := xs.any fun y => y.eqv x
def inOf (x : D) (xs : List D) : Option Bool :=
  if x.isFlat = true ∧ xs.all D.isFlat = true then some (inD x xs)
  else if x.plain = true ∧ x.dep ≤ 50 ∧ plains xs = true ∧ deps xs ≤ 50 then some (inD x xs) else none
def gIn : O2 := fun x y m => (sqOf m y).bind fun xs => (inOf x xs).map .bl
def gNotIn : O2 := fun x y m => (sqOf m y).bind fun xs => (inOf x xs).map fun b => .bl (!b)
def ixD (n : Nat) (i : Int) : Option Nat := if 0 ≤ i then (if i < n then some i.toNat else none) else if -(n : Int) ≤ i then some (i + n).toNat else none
def atD {α : Type} (xs : List α) (i : Int) : Option α := (ixD xs.length i).bind fun j => xs[j]?
def gIx : O2 := fun x y m => match y with
  | .int i => match x with
    | .str z => if z.length ≤ sizeLine then (atD z.cps.toList i).map fun c => .str ⟨#[c]⟩ else none
    | x => (sqOf m x).bind fun xs => atD xs i
  | _ => none
def sIxD (n d : Nat) : Option Int → Nat
  | none => d
  | some v => if v < 0 then (v + (n : Int)).toNat else min v.toNat n
def cutD {α : Type} (xs : List α) (lo hi : Option Int) : List α := (xs.drop (sIxD xs.length 0 lo)).take (sIxD xs.length xs.length hi - sIxD xs.length 0 lo)
abbrev SO := Ev → M (Option Int)
def soN : SO := fun _ => M.pure none
def soS (a : SE) : SO := fun ρ => M.bind (a ρ) fun d => match d with
  | .int i => M.pure (some i)
  | _ => fun _ => .bad
def gSl (x : D) (lo hi : Option Int) (m : Mem) : Option D := match x with
  | .tup xs => some (.tup (cutD xs lo hi))
  | x => (lstOf m x).map fun xs => .lst (cutD xs lo hi)
def slc (a : SE) (lo hi : SO) : SE := fun ρ => M.bind (a ρ) fun x => M.bind (lo ρ) fun l => M.bind (hi ρ) fun h => fun m => lift (gSl x l h m) m
/-! what is walked -/
def wkSeq (d : D) : Wk := fun i m => (sqOf m d).map fun xs => xs[i]?
def itSeq (a : SE) : SI := fun ρ => M.bind (a ρ) fun d m => match sqOf m d with
  | some xs => .ok (wkSeq d, xs.length) m
  | none => .bad
def wkRng (lo : Int) (n : Nat) : Wk := fun i _ => some (if i < n then some (.int (lo + (i : Nat))) else none)
def small62 (i : Int) : Bool := decide (-(2 ^ 62) ≤ i) && decide (i < 2 ^ 62)
def itRng1 (a : SA) : SI := fun ρ => M.bind (a ρ) fun ds m => match ds with
  | [.int hi] => if small62 hi = true then .ok (wkRng 0 hi.toNat, hi.toNat) m else .bad
  | _ => .bad
def itRng2 (a : SA) : SI := fun ρ => M.bind (a ρ) fun ds m => match ds with
  | [.int lo, .int hi] => if small62 lo = true ∧ small62 hi = true then .ok (wkRng lo (hi - lo).toNat, (hi - lo).toNat) m else .bad
  | _ => .bad

/-! ### built-ins -/
def gLen : ON := fun ds m => match ds with
  | [.str z] => if z.length ≤ sizeLine then some (.int z.length) else none
  | [.loc k] => if k < m.n then (match m.get k with
    | some (.lst xs) => some (.int xs.length)
    | some (.dct kvs) => some (.int kvs.length)
    | _ => none) else none
  | [d] => (sqOf m d).map fun xs => .int xs.length
  | _ => none
def gMax2 : ON := fun ds _ => match ds with
  | [.int i, .int j] => some (.int (if j > i then j else i))
  | _ => none
def gMin2 : ON := fun ds _ => match ds with
  | [.int i, .int j] => some (.int (if j < i then j else i))
  | _ => none
def gInt : ON := fun ds _ => match ds with
  | [.int i] => some (.int i)
  | [.bl k] => some (.int (if k then 1 else 0))
  | _ => none
/-- list(xs), as one that changes no more -/
def gSq (f : List D → D) : ON := fun ds m => match ds with
  | [d] => (sqOf m d).map f
  | _ => none
def gList : ON := gSq .lst
def gTuple : ON := fun ds m => match ds with
  | [.tup xs] => some (.tup xs)
  | [d] => (lstOf m d).map .tup
  | _ => none
/-- the same, with a place in the store -/
def opNM (g : ON) (a : SA) : SE := fun ρ => M.bind (a ρ) fun xs => M.bind (fun m => lift (g xs m) m) fun d => match d with
  | .lst ys => alloc (.lst ys)
  | _ => fun _ => .bad
def intsOf : List D → Option (List Int)
  | [] => some []
  | .int i :: r => (intsOf r).map (i :: ·)
  | _ :: _ => none
def gSum : ON := fun ds m => match ds with
  | [d] => (lstOf m d).bind fun xs => (intsOf xs).map fun ns => .int ns.sum
  | _ => none
def maxL : List Int → Option Int
  | [] => none
  | i :: r => match maxL r with
    | none => some i
    | some j => some (if j > i then j else i)
def minL : List Int → Option Int
  | [] => none
  | i :: r => match minL r with
    | none => some i
    | some j => some (if j < i then j else i)
def gMax : ON := fun ds m => match ds with
  | [d] => (lstOf m d).bind fun xs => (intsOf xs).bind fun ns => (maxL ns).map .int
  | _ => none
def gMin : ON := fun ds m => match ds with
  | [d] => (lstOf m d).bind fun xs => (intsOf xs).bind fun ns => (minL ns).map .int
  | _ => none
/-- isinstance -/
def isTy (m : Mem) (T : String) : D → Option Bool
  | .non => some false
  | .bl _ => some (T == "bool" || T == "int")
  | .int _ => some (T == "int")
  | .str _ => some (T == "str")
  | .tup _ => some (T == "tuple")
  | .lst _ => some (T == "list")
  | .loc k => if k < m.n then (match m.get k with
    | some (.lst _) => some (T == "list")
    | _ => none) else none
  | _ => none
def gIsi (T : String) : O1 := fun d m => (isTy m T d).map .bl
def gIsi2 (T U : String) : O1 := fun d m => match isTy m T d, isTy m U d with
  | some a, some b => some (.bl (a || b))
  | _, _ => none
/-! dicts of the store, keys ints and texts -/
def keyOf : D → Option KeyS
  | .int i => some (.inl i)
  | .str x => some (.inr x)
  | _ => none
def valK {α : Type} (kvs : List (KeyS × α)) (k : KeyS) : Option α := (kvs.find? fun kv => decide (kv.1 = k)).map (·.2)
def putKD (kvs : List (KeyS × D)) (k : KeyS) (v : D) : List (KeyS × D) :=
  if (kvs.any fun kv => decide (kv.1 = k)) = true then kvs.map (fun kv => if kv.1 = k then (kv.1, v) else kv) else kvs ++ [(k, v)]
def dctOf (m : Mem) : D → Option (List (KeyS × D))
  | .loc k => if k < m.n then (match m.get k with
    | some (.dct kvs) => some kvs
    | _ => none) else none
  | _ => none
def gDget : O2 := fun d k m => (dctOf m d).bind fun kvs => (keyOf k).bind fun k => valK kvs k
def gDin : O2 := fun k d m => (dctOf m d).bind fun kvs => (keyOf k).map fun k => .bl (valK kvs k).isSome
/-- d.get(k, x) -/
def isDct (m : Mem) (d : D) : Bool := (dctOf m d).isSome
def dget2 (d k x : SE) : SE := fun ρ => M.bind (d ρ) fun dd => M.bind (fun m => if isDct m dd = true then .ok () m else .bad) fun _ => M.bind (k ρ) fun kk => M.bind (x ρ) fun xx => fun m => lift ((dctOf m dd).bind fun kvs => (keyOf kk).map fun k => (valK kvs k).getD xx) m
def prE (ps : List (SE × SE)) : Ev → M (List (D × D)) := match ps with
  | [] => fun _ => M.pure []
  | (k, v) :: r => fun ρ => M.bind (k ρ) fun kd => M.bind (v ρ) fun vd => M.bind (prE r ρ) fun xs => M.pure ((kd, vd) :: xs)
def keysOf : List (D × D) → Option (List (KeyS × D))
  | [] => some []
  | (k, v) :: r => match keyOf k, keysOf r with
    | some k, some r => some ((k, v) :: r)
    | _, _ => none
def mergeD (kvs more : List (KeyS × D)) : List (KeyS × D) := more.foldl (fun acc kv => putKD acc kv.1 kv.2) kvs
/-- a dict's display -/
def dspK (xs : List (D × D)) : M D := fun m => match keysOf xs with
  | some kvs => if kvs.length ≤ 15 then alloc (.dct (mergeD [] kvs)) m else .bad
  | none => .bad
def dspE (ps : List (SE × SE)) : SE := fun ρ => M.bind (prE ps ρ) dspK
/-- d[k] = v: the value first -/
def sDput (d k v : SE) : SS := fun ρ => M.bind (v ρ) fun vd => M.bind (d ρ) fun dd => M.bind (k ρ) fun kd => fun m => match dd, keyOf kd with
  | .loc j, some k => if j < m.n then (match m.get j with
    | some (.dct kvs) => if kvs.length < sizeLine then .ok (.nx, ρ) (m.put j (.dct (putKD kvs k vd))) else .bad
    | _ => .bad) else .bad
  | _, _ => .bad
/-! lists of the store -/
def updL (d : D) (f : List D → Option (List D)) : M Unit := fun m => match d with
  | .loc j => if j < m.n then (match m.get j with
    | some (.lst xs) => match f xs with
      | some ys => .ok () (m.put j (.lst ys))
      | none => .bad
    | _ => .bad) else .bad
  | _ => .bad
/-- xs.append(e), the value None -/
def chkL (d : D) : M Unit := fun m => if (lstOf m d).isSome = true then .ok () m else .bad
def appE (l e : SE) : SE := fun ρ => M.bind (l ρ) fun ld => M.bind (chkL ld) fun _ => M.bind (e ρ) fun ed => M.bind (updL ld fun xs => if xs.length < sizeLine then some (xs ++ [ed]) else none) fun _ => M.pure .non
def extK (ld ed : D) : M D := fun m => match lstOf m ed with
  | some ys => M.bind (updL ld fun xs => if xs.length + ys.length ≤ sizeLine then some (xs ++ ys) else none) (fun _ => M.pure .non) m
  | none => .bad
def extE (l e : SE) : SE := fun ρ => M.bind (l ρ) fun ld => M.bind (chkL ld) fun _ => M.bind (e ρ) fun ed => extK ld ed
/-- xs[i] = e -/
def lputK (ld id ed : D) : M Unit := match id with
  | .int i => updL ld fun xs => (ixD xs.length i).map fun j => xs.set j ed
  | _ => fun _ => .bad
def sLput (l i e : SE) : SS := fun ρ => M.bind (e ρ) fun ed => M.bind (l ρ) fun ld => M.bind (i ρ) fun id => M.bind (lputK ld id ed) fun _ => M.pure (.nx, ρ)
/-- methods without arguments that change a list: pop, clear, reverse; what they hand back -/
def mt0E (g : List D → Option (List D × D)) (l : SE) : SE := fun ρ => M.bind (l ρ) fun ld => fun m => match (lstOf m ld).bind g with
  | some (_, d) => M.bind (updL ld fun xs => (g xs).map (·.1)) (fun _ => M.pure d) m
  | none => .bad
def gClear (_ : List D) : Option (List D × D) := some ([], .non)
def gReverse (xs : List D) : Option (List D × D) := some (xs.reverse, .non)
/-! constants of the module that are dicts of texts -/
def gNotInK (tbl : List (Str × D)) : O1 := fun d _ => match d with
  | .str z => some (.bl (!(tbl.lookup z).isSome))
  | _ => none
def gGetK (tbl : List (Str × D)) : O1 := fun d _ => match d with
  | .str z => tbl.lookup z
  | _ => none
/-! more that is walked -/
def strOf (z : Str) : List D := z.cps.toList.map fun c => .str ⟨#[c]⟩
def wlkOf (m : Mem) : D → Option (List D)
  | .str z => some (strOf z)
  | d => sqOf m d
/-- the i-th of n, then the end -/
def upTo (n i : Nat) (x : Option D) : Option (Option D) := if i < n then x.map some else if i = n then some none else none
/-- enumerate(xs) -/
def wkEn (d : D) : Wk := fun i m => (wlkOf m d).bind fun xs => upTo xs.length i ((xs[i]?).map fun x => .tup [.int (i : Nat), x])
def itEn (a : SE) : SI := fun ρ => M.bind (a ρ) fun d m => match wlkOf m d with
  | some xs => .ok (wkEn d, xs.length) m
  | none => .bad
def wkZp (d e : D) : Wk := fun i m => (wlkOf m d).bind fun xs => (wlkOf m e).bind fun ys => upTo (min xs.length ys.length) i ((xs[i]?).bind fun x => (ys[i]?).map fun y => .tup [x, y])
def itZp (a b : SE) : SI := fun ρ => M.bind (a ρ) fun d => M.bind (b ρ) fun e m => match wlkOf m d, wlkOf m e with
  | some xs, some ys => .ok (wkZp d e, min xs.length ys.length) m
  | _, _ => .bad
/-- slices of texts -/
def cutZ (z : Str) (lo hi : Option Int) : Str := ⟨(cutD z.cps.toList lo hi).toArray⟩
def gSlS (x : D) (lo hi : Option Int) : Option D := match x with
  | .str z => if z.length ≤ sizeLine then some (.str (cutZ z lo hi)) else none
  | _ => none
def slcS (a : SE) (lo hi : SO) : SE := fun ρ => M.bind (a ρ) fun x => M.bind (lo ρ) fun l => M.bind (hi ρ) fun h => fun m => lift (gSlS x l h) m
/-- a target that unpacks a list -/
def gUl (is : List Nat) (m : Mem) (d : D) (ρ : Ev) : Option Ev := (lstOf m d).bind fun ds => gNms is ds ρ
def sAsgU (a : SE) (is : List Nat) : SS := fun ρ => M.bind (a ρ) fun d m => match gUl is m d ρ with
  | some ρ1 => .ok (.nx, ρ1) m
  | none => .bad
def chn (g g' : O2) (a b c : SE) : SE := fun ρ => M.bind (a ρ) fun x => M.bind (b ρ) fun y => M.bind (fun m => lift (g x y m) m) fun k => M.bind (asB k) fun t => if t = true then M.bind (c ρ) fun z => fun m => lift (g' y z m) m else M.pure (.bl false)
def capE (a : SA) (k : List D → M D) : SE := fun ρ => M.bind (a ρ) fun xs m => if xs.length ≤ 1000 then k xs m else .bad
def tpl (a : SA) : SE := capE a fun xs => M.pure (.tup xs)
def lsl (a : SA) : SE := capE a fun xs => M.pure (.lst xs)
def lsm (a : SA) : SE := capE a fun xs => alloc (.lst xs)
def sBad : SS := fun _ _ => .bad
def callN (np : Nat) (f : Fn) (a : SA) : SE := fun ρ => M.bind (a ρ) fun ds m => if ds.length = np then f ds m else .bad
def dctE : SE := fun _ => alloc (.dct [])
def sPar (i j : Nat) (a b : SE) : SS := fun ρ => M.bind (a ρ) fun x => M.bind (b ρ) fun y => M.pure (.nx, (ρ.set i (some x)).set j (some y))
def gNeg : O1 := fun d _ => match d with
  | .int i => some (.int (-i))
  | _ => none
def gRep : O2 := fun x y m => match y with
  | .int k => (lstOf m x).bind fun xs => if -(2 ^ 63) ≤ k ∧ k < 2 ^ 63 ∧ xs.length * k.toNat ≤ sizeLine then some (.lst (List.replicate k.toNat xs).flatten) else none
  | _ => none
def op2M (g : O2) (a b : SE) : SE := fun ρ => M.bind (a ρ) fun x => M.bind (b ρ) fun y => M.bind (fun m => lift (g x y m) m) fun d => match d with
  | .lst ys => alloc (.lst ys)
  | _ => fun _ => .bad
/-! len(set(xs)) of ints, list(range(n)) -/
/-! objects of one's own classes -/
def objOf (m : Mem) (c : Nat) : D → Option (List (Str × D))
  | .loc k => if k < m.n then (match m.get k with
    | some (.obj c2 fs) => if c2 = c then some fs else none
    | _ => none) else none
  | _ => none
def gFld (c : Nat) (f : Str) : O1 := fun d m => (objOf m c d).bind fun fs => fs.lookup f
def putFD (f : Str) (v : D) : List (Str × D) → List (Str × D)
  | [] => [(f, v)]
  | (g, x) :: r => if g = f then (g, v) :: r else (g, x) :: putFD f v r
def fputK (c : Nat) (f : Str) (v d : D) : M Unit := fun m => match d with
  | .loc k => (match objOf m c (.loc k) with
    | some fs => if fs.length < 1000 then .ok () (m.put k (.obj c (putFD f v fs))) else .bad
    | none => .bad)
  | _ => .bad
def sFput (c : Nat) (f : Str) (o e : SE) : SS := fun ρ => M.bind (e ρ) fun v => M.bind (o ρ) fun d => M.bind (fputK c f v d) fun _ => M.pure (.nx, ρ)
def chkO (c : Nat) (mt : Str) (d : D) : M Unit := fun m => match objOf m c d with
  | some fs => if (fs.lookup mt).isNone = true then .ok () m else .bad
  | none => .bad
def callM (c np : Nat) (mt : Str) (f : Fn) (o : SE) (a : SA) : SE := fun ρ => M.bind (o ρ) fun d => M.bind (chkO c mt d) fun _ => M.bind (a ρ) fun ds m => if ds.length + 1 = np then f (d :: ds) m else .bad
def mkK (k : Nat) (d : D) : M D := match d with
  | .non => M.pure (.loc k)
  | _ => fun _ => .bad
def mkE (c np : Nat) (f : Fn) (a : SA) : SE := fun ρ => M.bind (a ρ) fun ds m => if ds.length + 1 = np then M.bind (f (.loc m.n :: ds)) (mkK m.n) (m.new (.obj c [])) else .bad
/-! errors raised -/
def sRaiseF (c : Nat) (fe : SE) : SS := fun ρ => M.bind (fe ρ) fun d m => .ex ⟨c, some d⟩ m
end LB

set_option Elab.async false
set_option linter.all false
set_option autoImplicit false
set_option maxRecDepth 100000
set_option maxHeartbeats 2000000
/-! What the pure part says of the heap (Rep, SR), and the readings of pure functions (tX, tXT, tXA, tXS). -/
namespace LB
open PySem PySem.Spec PyProof.Rows L2

/-- what is fixed of the text: the written part, the classes' addresses by number, the names of errors' fields -/
structure Pm where
  K : PySem.W.Frag
  CA : Nat → Addr
  XN : Nat → Str
  NH : NestedKey → Int
  T : List (Addr × Str) := []
  XD : Option (Addr × Str × Int) := none

/-- functions as values, by number; the rest: an address -/
def fnAd (K : PySem.W.Frag) : Nat → Addr
  | 0 => He.ga K "in_turn"
  | 1 => He.ga K "fewest_starts"
  | n + 2 => n
mutual
inductive Rep (K : PySem.W.Frag) (B : Hp) (A : Nat → Addr) (n : Nat) : V → D → Prop
  | non : Rep K B A n .non .non
  | bl (b : Bool) : Rep K B A n (.bl b) (.bl b)
  | int (i : Int) : Rep K B A n (.int i) (.int i)
  | str (x : Str) : Rep K B A n (.str x) (.str x)
  | tup {a : Addr} {vs : List V} {ds : List D} : SqT K B a vs → Reps K B A n vs ds → Rep K B A n (.ref a) (.tup ds)
  | lst {a : Addr} {vs : List V} {ds : List D} : B a = some (.lst vs) → Reps K B A n vs ds → Rep K B A n (.ref a) (.lst ds)
  | loc {k : Nat} {a : Addr} : k < n → A k = a → Rep K B A n (.ref a) (.loc k)
  | ref {k : Nat} : Rep K B A n (.ref (fnAd K k)) (.ref k)
  | scr {a : Addr} {ns : List Int} : SqL K B a (ns.map V.int) → Rep K B A n (.ref a) (.scr ns)
inductive Reps (K : PySem.W.Frag) (B : Hp) (A : Nat → Addr) (n : Nat) : List V → List D → Prop
  | nil : Reps K B A n [] []
  | cons {v : V} {vs : List V} {d : D} {ds : List D} : Rep K B A n v d → Reps K B A n vs ds → Reps K B A n (v :: vs) (d :: ds)
end
def Ex (H H' : Hp) : Prop := ∀ a o, H a = some o → H' a = some o
theorem Ex.refl (H : Hp) : Ex H H := fun _ _ h => h
theorem Ex.trans {H H1 H2 : Hp} (a : Ex H H1) (b : Ex H1 H2) : Ex H H2 := fun x o h => b x o (a x o h)
theorem Ex.new {H : Hp} {p : Addr} {o : HO} (h : H p = none) : Ex H (upd H p o) := fun a u e => by
  rw [upd_ne (ne_of_none e h)]
  exact e
theorem Ex.mut {H H' : Hp} {p : Addr} {o : HO} (e : Ex H H') (h : H p = none) : Ex H (upd H' p o) := fun a u ha => by
  rw [upd_ne (ne_of_none ha h)]
  exact e a u ha
theorem Ex.t {K : PySem.W.Frag} {H H' : Hp} {a : Addr} {xs : List V} (e : Ex H H') (h : SqT K H a xs) : SqT K H' a xs := by
  rcases h with (h | ⟨o, h⟩) | h
  · exact Or.inl (Or.inl (e a _ h))
  · exact Or.inl (Or.inr ⟨o, e a _ h⟩)
  · exact Or.inr h
theorem Ex.l {K : PySem.W.Frag} {H H' : Hp} {a : Addr} {xs : List V} (e : Ex H H') (h : SqL K H a xs) : SqL K H' a xs := by
  rcases h with (h | ⟨o, h⟩) | h
  · exact Or.inl (Or.inl (e a _ h))
  · exact Or.inl (Or.inr ⟨o, e a _ h⟩)
  · exact Or.inr h
theorem Ex.back {H H' : Hp} {p : Addr} (e : Ex H H') (h : H' p = none) : H p = none := by
  cases h1 : H p with
  | none => rfl
  | some o =>
    rw [e p o h1] at h
    cases h
/-- the worlds grow -/
structure Le (B : Hp) (A : Nat → Addr) (n : Nat) (B' : Hp) (A' : Nat → Addr) (n' : Nat) : Prop where
  ex : Ex B B'
  nn : n ≤ n'
  aa : ∀ k, k < n → A' k = A k
theorem Le.refl {B : Hp} {A : Nat → Addr} {n : Nat} : Le B A n B A n := ⟨Ex.refl B, Nat.le_refl _, fun _ _ => rfl⟩
theorem Le.trans {B B1 B2 : Hp} {A A1 A2 : Nat → Addr} {n n1 n2 : Nat} (a : Le B A n B1 A1 n1) (b : Le B1 A1 n1 B2 A2 n2) : Le B A n B2 A2 n2 :=
  ⟨a.ex.trans b.ex, Nat.le_trans a.nn b.nn, fun k h => (b.aa k (Nat.lt_of_lt_of_le h a.nn)).trans (a.aa k h)⟩
theorem Le.base {B B' : Hp} {A : Nat → Addr} {n : Nat} (e : Ex B B') : Le B A n B' A n := ⟨e, Nat.le_refl _, fun _ _ => rfl⟩
section
variable {K : PySem.W.Frag} {B B' : Hp} {A A' : Nat → Addr} {n n' : Nat}
mutual
theorem Rep.mono (l : Le B A n B' A' n') : ∀ {v : V} {d : D}, Rep K B A n v d → Rep K B' A' n' v d
  | _, _, .non => .non
  | _, _, .bl b => .bl b
  | _, _, .int i => .int i
  | _, _, .str x => .str x
  | _, _, .tup h r => .tup (l.ex.t h) (Reps.mono l r)
  | _, _, .lst h r => .lst (l.ex _ _ h) (Reps.mono l r)
  | _, _, .loc h e => .loc (Nat.lt_of_lt_of_le h l.nn) ((l.aa _ h).trans e)
  | _, _, .ref => .ref
  | _, _, .scr h => .scr (l.ex.l h)
theorem Reps.mono (l : Le B A n B' A' n') : ∀ {vs : List V} {ds : List D}, Reps K B A n vs ds → Reps K B' A' n' vs ds
  | _, _, .nil => .nil
  | _, _, .cons r t => .cons (Rep.mono l r) (Reps.mono l t)
end
theorem Reps.length : ∀ {vs : List V} {ds : List D}, Reps K B A n vs ds → vs.length = ds.length
  | _, _, .nil => rfl
  | _, _, .cons _ t => by rw [List.length_cons, List.length_cons, Reps.length t]
theorem Reps.append : ∀ {vs ws : List V} {ds es : List D}, Reps K B A n vs ds → Reps K B A n ws es → Reps K B A n (vs ++ ws) (ds ++ es)
  | _, _, _, _, .nil, s => s
  | _, _, _, _, .cons r t, s => .cons r (Reps.append t s)
theorem Reps.take : ∀ {vs : List V} {ds : List D} (i : Nat), Reps K B A n vs ds → Reps K B A n (vs.take i) (ds.take i)
  | _, _, 0, _ => .nil
  | _, _, _ + 1, .nil => .nil
  | _, _, i + 1, .cons r t => .cons r (Reps.take i t)
theorem Reps.drop : ∀ {vs : List V} {ds : List D} (i : Nat), Reps K B A n vs ds → Reps K B A n (vs.drop i) (ds.drop i)
  | _, _, 0, r => r
  | _, _, _ + 1, .nil => .nil
  | _, _, i + 1, .cons _ t => Reps.drop i t
theorem Reps.get : ∀ {vs : List V} {ds : List D} {i : Nat} {d : D}, Reps K B A n vs ds → ds[i]? = some d → ∃ v, vs[i]? = some v ∧ Rep K B A n v d
  | _, _, _, _, .nil, h => by simp at h
  | _, _, 0, _, .cons (v := v) r _, h => by
    simp only [List.getElem?_cons_zero, Option.some.injEq] at h
    subst h
    exact ⟨v, rfl, r⟩
  | _, _, i + 1, _, .cons _ t, h => by
    obtain ⟨v, e, r⟩ := Reps.get (i := i) t (by simpa using h)
    exact ⟨v, by simpa using e, r⟩
theorem Reps.getV : ∀ {vs : List V} {ds : List D} {i : Nat} {v : V}, Reps K B A n vs ds → vs[i]? = some v → ∃ d, ds[i]? = some d ∧ Rep K B A n v d
  | _, _, _, _, .nil, h => by simp at h
  | _, _, 0, _, .cons (d := d) r _, h => by
    simp only [List.getElem?_cons_zero, Option.some.injEq] at h
    subst h
    exact ⟨d, rfl, r⟩
  | _, _, i + 1, _, .cons _ t, h => by
    obtain ⟨v, e, r⟩ := Reps.getV (i := i) t (by simpa using h)
    exact ⟨v, by simpa using e, r⟩
theorem Reps.set {v : V} {d : D} (r : Rep K B A n v d) : ∀ {vs : List V} {ds : List D} (i : Nat), Reps K B A n vs ds → Reps K B A n (vs.set i v) (ds.set i d)
  | _, _, _, .nil => .nil
  | _, _, 0, .cons _ t => .cons r t
  | _, _, i + 1, .cons q t => .cons q (Reps.set r i t)
theorem Reps.reverse {vs : List V} {ds : List D} (r : Reps K B A n vs ds) : Reps K B A n vs.reverse ds.reverse := by
  induction r using Reps.rec (motive_1 := fun _ _ _ => True) with
  | non => trivial
  | bl => trivial
  | int => trivial
  | str => trivial
  | tup => trivial
  | lst => trivial
  | loc => trivial
  | ref => trivial
  | scr => trivial
  | nil => exact .nil
  | cons r t _ ih =>
    rw [List.reverse_cons, List.reverse_cons]
    exact Reps.append ih (.cons r .nil)
theorem Reps.none_of {vs : List V} {ds : List D} {i : Nat} (r : Reps K B A n vs ds) (h : ds[i]? = none) : vs[i]? = none := by
  have h1 := r.length
  have h2 := List.getElem?_eq_none_iff.mp h
  exact List.getElem?_eq_none_iff.mpr (by omega)
end

/-! ### dicts whose keys are tuples, of any depth -/
mutual
/-- what is the key k -/
inductive NRep (K : PySem.W.Frag) (B : Hp) : V → NestedKey → Prop
  | none : NRep K B .non .none
  | num (i : Int) : NRep K B (.int i) (.num i)
  | text (x : Str) : NRep K B (.str x) (.text x)
  | tup {a : Addr} {vs : List V} {ks : List NestedKey} : SqT K B a vs → NReps K B vs ks → NRep K B (.ref a) (.tup ks)
inductive NReps (K : PySem.W.Frag) (B : Hp) : List V → List NestedKey → Prop
  | nil : NReps K B [] []
  | cons {v : V} {vs : List V} {k : NestedKey} {ks : List NestedKey} : NRep K B v k → NReps K B vs ks → NReps K B (v :: vs) (k :: ks)
end
mutual
theorem NRep.mono {K : PySem.W.Frag} {B B' : Hp} (e : Ex B B') : ∀ {v : V} {k : NestedKey}, NRep K B v k → NRep K B' v k
  | _, _, .none => .none
  | _, _, .num i => .num i
  | _, _, .text x => .text x
  | _, _, .tup h r => .tup (e.t h) (NReps.mono e r)
theorem NReps.mono {K : PySem.W.Frag} {B B' : Hp} (e : Ex B B') : ∀ {vs : List V} {ks : List NestedKey}, NReps K B vs ks → NReps K B' vs ks
  | _, _, .nil => .nil
  | _, _, .cons r t => .cons (NRep.mono e r) (NReps.mono e t)
end
abbrev NEs := List (NestedKey × Addr × Value)
/-- such a dict's object: its entries -/
def NDct (hash : NestedKey → Int) (a : Addr) (xs : NEs) : Heap → Prop := fun h => xs.length ≤ sizeLine ∧ (a == sysModules) = false ∧ (∀ x ∈ xs, x.1.depth ≤ 8) ∧ (xs.map (·.1)).Nodup ∧
  ∃ o es ep, h.get? a = some o ∧ o.ExactDict ∧ o.data = .dict es ep ∧ es.toList = xs.map fun x => (⟨hash x.1, .ref x.2.1, x.2.2⟩ : DictEntry)
/-! ### the store, the slots -/
inductive RepO (P : Pm) (B : Hp) (A : Nat → Addr) (n : Nat) (H : Hp) (a : Addr) : MO → Prop
  | lst {vs : List V} {ds : List D} : H a = some (.lst vs) → Reps P.K B A n vs ds → RepO P B A n H a (.lst ds)
  | dct {kvs : List (Key × V)} {kds : List (Key × D)} : H a = some (.dK kvs) → Paired (fun (p : Key × V) (q : Key × D) => p.1 = q.1 ∧ Rep P.K B A n p.2 q.2) kvs kds → RepO P B A n H a (.dct kds)
  | dcn {xs : NEs} {kds : List (NestedKey × D)} : H a = some (.ext (NDct P.NH a xs)) → (∀ x ∈ xs, NRep P.K B (.ref x.2.1) x.1) →
      Paired (fun (p : NestedKey × Addr × Value) (q : NestedKey × D) => p.1 = q.1 ∧ ∃ v, RelV v p.2.2 ∧ Rep P.K B A n v q.2) xs kds → RepO P B A n H a (.dcn kds)
  | obj {c : Nat} {dx : Addr} {fs : List (Str × V)} {fds : List (Str × D)} : H a = some (.ins (P.CA c) dx fs) → Paired (fun (p : Str × V) (q : Str × D) => p.1 = q.1 ∧ Rep P.K B A n p.2 q.2) fs fds → RepO P B A n H a (.obj c fds)
theorem RepO.at {P : Pm} {B : Hp} {A : Nat → Addr} {n : Nat} {H : Hp} {a : Addr} {o : MO} (r : RepO P B A n H a o) : ∃ u, H a = some u := by
  cases r with
  | lst h _ => exact ⟨_, h⟩
  | dct h _ => exact ⟨_, h⟩
  | dcn h _ _ => exact ⟨_, h⟩
  | obj h _ => exact ⟨_, h⟩
theorem RepO.mono {P : Pm} {B B' : Hp} {A A' : Nat → Addr} {n n' : Nat} {H H' : Hp} {a : Addr} {o : MO} (l : Le B A n B' A' n') (e : ∀ u, H a = some u → H' a = some u) (r : RepO P B A n H a o) : RepO P B' A' n' H' a o := by
  cases r with
  | lst h r => exact .lst (e _ h) (r.mono l)
  | dct h r => exact .dct (e _ h) (L2.Paired.mapP r fun _ _ q => ⟨q.1, q.2.mono l⟩)
  | dcn h k r => exact .dcn (e _ h) (fun x hx => (k x hx).mono l.ex) (L2.Paired.mapP r fun _ _ ⟨q1, v, q2, q3⟩ => ⟨q1, v, q2, q3.mono l⟩)
  | obj h r => exact .obj (e _ h) (L2.Paired.mapP r fun _ _ q => ⟨q.1, q.2.mono l⟩)
/-- what tells no table -/
def NoT (o : HO) : Prop := ∀ ps, o ≠ .tbl ps
theorem codeO_dct {c a : Addr} {q : Str} {hash : NestedKey → Int} {xs : NEs} : LamX.CodeO c q ≠ .ext (NDct hash a xs) := fun e => by
  unfold LamX.CodeO at e
  injection e with e
  have e1 := congrFun e ⟨Array.replicate (c + 1) { cls := .none, data := .fields #[.none, .str q 0] }, {}⟩
  have hg : ∀ b o, (⟨Array.replicate (c + 1) { cls := .none, data := .fields #[.none, .str q 0] }, {}⟩ : Heap).get? b = some o → o = { cls := .none, data := .fields #[.none, .str q 0] } := fun b o hb => by
    obtain ⟨h1, _⟩ := Heap.get?_some_iff.mp hb
    have h2 := Array.getElem?_eq_some_iff.mp h1
    obtain ⟨h3, h4⟩ := h2
    rw [← h4]
    simp
  have hc : (⟨Array.replicate (c + 1) { cls := .none, data := .fields #[.none, .str q 0] }, {}⟩ : Heap).get? c = some { cls := .none, data := .fields #[.none, .str q 0] } := Heap.get?_some_iff.mpr ⟨by simp, rfl⟩
  have h1 : ∃ (oc : Obj) (vs : Array Value) (t : Tok), (⟨Array.replicate (c + 1) { cls := .none, data := .fields #[.none, .str q 0] }, {}⟩ : Heap).get? c = some oc ∧ oc.data = .fields vs ∧ vs[1]? = some (.str q t) := ⟨_, _, 0, hc, rfl, rfl⟩
  have h2 : NDct hash a xs (⟨Array.replicate (c + 1) { cls := .none, data := .fields #[.none, .str q 0] }, {}⟩ : Heap) := (eq_iff_iff.mp e1).mp h1
  obtain ⟨_, _, _, _, o, es, ep, h3, _, h4, _⟩ := h2
  rw [hg a o h3] at h4
  cases h4
structure SR (P : Pm) (F B : Hp) (A : Nat → Addr) (m : Mem) (H : Hp) : Prop where
  ex : Ex B H
  fr : ∀ a o, F a = some o → H a = some o ∧ B a = none ∧ ∀ k u, k < m.n → m.get k = some u → A k ≠ a
  at_ : ∀ k o, k < m.n → m.get k = some o → B (A k) = none ∧ RepO P B A m.n H (A k) o
  inj : ∀ j k o u, j < m.n → k < m.n → m.get j = some o → m.get k = some u → A j = A k → j = k
  tb : LamX.Tabs P.T H
  nb : ∀ a ps, B a ≠ some (.tbl ps)
  nf : ∀ a ps, F a ≠ some (.tbl ps)
  xd : ∀ p, P.XD = some p → H p.1 = some (.xd [(p.2.1, .int p.2.2)])
/-- a cell is no table, no code object -/
theorem RepO.noT {P : Pm} {B : Hp} {A : Nat → Addr} {n : Nat} {H : Hp} {a : Addr} {o : MO} (r : RepO P B A n H a o) : (∀ ps, H a ≠ some (.tbl ps)) ∧ (∀ c q, H a ≠ some (LamX.CodeO c q)) ∧ ∀ fs, H a ≠ some (.xd fs) := by
  cases r with
  | lst h _ => exact ⟨fun ps e => (by rw [h] at e; cases e), fun c q e => (by rw [h] at e; unfold LamX.CodeO at e; cases e), fun fs e => (by rw [h] at e; cases e)⟩
  | dct h _ => exact ⟨fun ps e => (by rw [h] at e; cases e), fun c q e => (by rw [h] at e; unfold LamX.CodeO at e; cases e), fun fs e => (by rw [h] at e; cases e)⟩
  | dcn h _ _ => exact ⟨fun ps e => (by rw [h] at e; cases e), fun c q e => (by rw [h] at e; exact codeO_dct (Option.some.inj e).symm), fun fs e => (by rw [h] at e; cases e)⟩
  | obj h _ => exact ⟨fun ps e => (by rw [h] at e; cases e), fun c q e => (by rw [h] at e; unfold LamX.CodeO at e; cases e), fun fs e => (by rw [h] at e; cases e)⟩
/-- a thing that is no table and no code object is changed -/
theorem tabs_upd {T : List (Addr × Str)} {H : Hp} {p : Addr} {u : HO} (t : LamX.Tabs T H) (h1 : ∀ ps, H p ≠ some (.tbl ps)) (h2 : ∀ c q, H p ≠ some (LamX.CodeO c q)) : LamX.Tabs T (upd H p u) := fun x hx => by
  obtain ⟨ps, e1, e2, e3⟩ := t x hx
  refine ⟨ps, ?_, e2, fun pos cv hc => ?_⟩
  · rw [upd_ne (fun z => h1 ps (by rw [← z]; exact e1))]
    exact e1
  · obtain ⟨c, e4, e5⟩ := e3 pos cv hc
    refine ⟨c, e4, ?_⟩
    rw [upd_ne (fun z => h2 c x.2 (by rw [← z]; exact e5))]
    exact e5
theorem xd_upd {o : Option (Addr × Str × Int)} {H : Hp} {p : Addr} {u : HO} (t : ∀ p, o = some p → H p.1 = some (.xd [(p.2.1, .int p.2.2)])) (h1 : ∀ fs, H p ≠ some (.xd fs)) : ∀ p', o = some p' → upd H p u p'.1 = some (.xd [(p'.2.1, .int p'.2.2)]) := fun q hq => by
  rw [upd_ne (fun z => h1 _ (by rw [← z]; exact t q hq))]
  exact t q hq
theorem nb_upd {B : Hp} {p : Addr} {o : HO} (h : ∀ a ps, B a ≠ some (.tbl ps)) (ho : NoT o) : ∀ a ps, upd B p o a ≠ some (.tbl ps) := fun a ps e => by
  by_cases ha : a = p
  · rw [ha, upd_same] at e
    exact ho ps (Option.some.inj e)
  · rw [upd_ne ha] at e
    exact h a ps e
section
variable {P : Pm} {F B B' : Hp} {A A' : Nat → Addr} {m m' : Mem} {H H' : Hp}
/-- the heap grows -/
theorem SR.grow (s : SR P F B A m H) (e : Ex H H') : SR P F B A m H' := ⟨s.ex.trans e, fun a o h => ⟨e _ _ (s.fr a o h).1, (s.fr a o h).2⟩, fun k o hk ho => ⟨(s.at_ k o hk ho).1, (s.at_ k o hk ho).2.mono Le.refl fun u hu => e _ _ hu⟩, s.inj, s.tb.ext e, s.nb, s.nf, fun p h => e _ _ (s.xd p h)⟩
/-- a new thing that will not change -/
theorem SR.frozen {p : Addr} {o : HO} (s : SR P F B A m H) (h : H p = none) (ho : NoT o := by intro ps e; cases e) : SR P F (upd B p o) A m (upd H p o) := by
  have hb : B p = none := s.ex.back h
  refine ⟨fun a u e => ?_, fun a u e => ?_, fun k u hk hu => ?_, s.inj, s.tb.ext (Ex.new h), nb_upd s.nb ho, s.nf, fun p q => Ex.new h _ _ (s.xd p q)⟩
  · by_cases ha : a = p
    · rw [ha, upd_same] at e ⊢
      exact e
    · rw [upd_ne ha] at e ⊢
      exact s.ex a u e
  · obtain ⟨h1, h2, h3⟩ := s.fr a u e
    have ne : a ≠ p := ne_of_none h1 h
    exact ⟨by rw [upd_ne ne]; exact h1, by rw [upd_ne ne]; exact h2, h3⟩
  · obtain ⟨h1, h2⟩ := s.at_ k u hk hu
    obtain ⟨w, hw⟩ := h2.at
    have ne : A k ≠ p := ne_of_none hw h
    exact ⟨by rw [upd_ne ne]; exact h1, h2.mono (Le.base (Ex.new hb)) fun x hx => by rw [upd_ne ne]; exact hx⟩
theorem SR.frozenEx {p : Addr} {o : HO} (s : SR P F B A m H) (h : H p = none) : Ex B (upd B p o) := Ex.new (s.ex.back h)
/-- A with one more -/
def cons1 (A : Nat → Addr) (n : Nat) (p : Addr) : Nat → Addr := fun k => if k = n then p else A k
theorem cons1_at {A : Nat → Addr} {n : Nat} {p : Addr} : cons1 A n p n = p := by unfold cons1; rw [if_pos rfl]
theorem cons1_ne {A : Nat → Addr} {n k : Nat} {p : Addr} (h : k < n) : cons1 A n p k = A k := by unfold cons1; rw [if_neg (Nat.ne_of_lt h)]
theorem SR.leNew (s : SR P F B A m H) (p : Addr) (o : MO) : Le B A m.n B (cons1 A m.n p) (m.new o).n := ⟨Ex.refl B, Nat.le_succ _, fun _ h => cons1_ne h⟩
/-- a new thing that may change -/
theorem SR.new {p : Addr} {o : MO} {u : HO} (s : SR P F B A m H) (h : H p = none) (r : RepO P B (cons1 A m.n p) (m.n + 1) (upd H p u) p o) : SR P F B (cons1 A m.n p) (m.new o) (upd H p u) := by
  have hb : B p = none := s.ex.back h
  have live : ∀ k w, k < m.n → m.get k = some w → A k ≠ p := fun k w hk hw => by
    obtain ⟨x, hx⟩ := (s.at_ k w hk hw).2.at
    exact ne_of_none hx h
  refine ⟨s.ex.mut hb, fun a w e => ?_, fun k w hk hw => ?_, fun j k w x hj hk hw hx e => ?_, s.tb.ext (Ex.new h), s.nb, s.nf, fun p q => Ex.new h _ _ (s.xd p q)⟩
  · obtain ⟨h1, h2, h3⟩ := s.fr a w e
    have ne : a ≠ p := ne_of_none h1 h
    refine ⟨by rw [upd_ne ne]; exact h1, h2, fun k x hk hx => ?_⟩
    by_cases ek : k = m.n
    · rw [ek, cons1_at]
      exact Ne.symm ne
    · have hk' : k < m.n := by
        have : k < m.n + 1 := hk
        omega
      have q : (m.new o).get k = m.get k := by
        show (if k = m.n then some o else m.get k) = m.get k
        rw [if_neg ek]
      rw [q] at hx
      rw [cons1_ne hk']
      exact h3 k x hk' hx
  · by_cases e : k = m.n
    · have q : (m.new o).get k = some o := by
        show (if k = m.n then some o else m.get k) = some o
        rw [if_pos e]
      rw [q] at hw
      cases hw
      rw [e, cons1_at]
      exact ⟨hb, r⟩
    · have hk' : k < m.n := by
        have : k < m.n + 1 := hk
        omega
      have q : (m.new o).get k = m.get k := by
        show (if k = m.n then some o else m.get k) = m.get k
        rw [if_neg e]
      rw [q] at hw
      rw [cons1_ne hk']
      obtain ⟨h1, h2⟩ := s.at_ k w hk' hw
      exact ⟨h1, h2.mono (s.leNew p o) fun x hx => by rw [upd_ne (live k w hk' hw)]; exact hx⟩
  · have get : ∀ i, i ≠ m.n → (m.new o).get i = m.get i := fun i hi => by
      show (if i = m.n then some o else m.get i) = m.get i
      rw [if_neg hi]
    have hj' : j < m.n + 1 := hj
    have hk' : k < m.n + 1 := hk
    by_cases ej : j = m.n
    · by_cases ek : k = m.n
      · rw [ej, ek]
      · rw [get k ek] at hx
        rw [ej, cons1_at, cons1_ne (by omega)] at e
        exact absurd e.symm (live k x (by omega) hx)
    · rw [get j ej] at hw
      by_cases ek : k = m.n
      · rw [ek, cons1_at, cons1_ne (by omega)] at e
        exact absurd e (live j w (by omega) hw)
      · rw [get k ek] at hx
        rw [cons1_ne (by omega), cons1_ne (by omega)] at e
        exact s.inj j k w x (by omega) (by omega) hw hx e
/-- a thing is changed -/
theorem SR.put {k : Nat} {o o' : MO} {u : HO} (s : SR P F B A m H) (hk : k < m.n) (h : m.get k = some o) (r : RepO P B A m.n (upd H (A k) u) (A k) o') : SR P F B A (m.put k o') (upd H (A k) u) := by
  have hb := (s.at_ k o hk h).1
  have hz := (s.at_ k o hk h).2.noT
  refine ⟨s.ex.mut hb, fun a w e => ?_, fun j w hj hw => ?_, fun i j w x hi hj hw hx e => ?_, tabs_upd s.tb hz.1 hz.2.1, s.nb, s.nf, xd_upd s.xd hz.2.2⟩
  · obtain ⟨h1, h2, h3⟩ := s.fr a w e
    have ne : a ≠ A k := Ne.symm (h3 k o hk h)
    refine ⟨by rw [upd_ne ne]; exact h1, h2, fun j x hj hx => ?_⟩
    by_cases ej : j = k
    · rw [ej]
      exact Ne.symm ne
    · have q : (m.put k o').get j = m.get j := by
        show (if j = k then some o' else m.get j) = m.get j
        rw [if_neg ej]
      rw [q] at hx
      exact h3 j x hj hx
  · by_cases e : j = k
    · have q : (m.put k o').get j = some o' := by
        show (if j = k then some o' else m.get j) = some o'
        rw [if_pos e]
      rw [q] at hw
      cases hw
      rw [e]
      exact ⟨hb, r⟩
    · have q : (m.put k o').get j = m.get j := by
        show (if j = k then some o' else m.get j) = m.get j
        rw [if_neg e]
      rw [q] at hw
      obtain ⟨h1, h2⟩ := s.at_ j w hj hw
      have ne : A j ≠ A k := fun z => e (s.inj j k w o hj hk hw h z)
      exact ⟨h1, h2.mono Le.refl fun x hx => by rw [upd_ne ne]; exact hx⟩
  · have some_of : ∀ i w, (m.put k o').get i = some w → ∃ w', m.get i = some w' := fun i w hw => by
      by_cases e : i = k
      · rw [e]
        exact ⟨o, h⟩
      · have q : (m.put k o').get i = m.get i := by
          show (if i = k then some o' else m.get i) = m.get i
          rw [if_neg e]
        rw [q] at hw
        exact ⟨w, hw⟩
    obtain ⟨w', hw'⟩ := some_of i w hw
    obtain ⟨x', hx'⟩ := some_of j x hx
    exact s.inj i j w' x' hi hj hw' hx' e
end
/-- the slots -/
structure EnvR (K : PySem.W.Frag) (B : Hp) (A : Nat → Addr) (n : Nat) (σ : L2.St) (ρ : Ev) : Prop where
  len : σ.length = ρ.length
  at_ : ∀ (i : Nat) (d : D), ρ[i]? = some (some d) → ∃ v, σ[i]? = some (some v) ∧ Rep K B A n v d
section
variable {K : PySem.W.Frag} {B B' : Hp} {A A' : Nat → Addr} {n n' : Nat} {σ : L2.St} {ρ : Ev}
theorem EnvR.mono (l : Le B A n B' A' n') (e : EnvR K B A n σ ρ) : EnvR K B' A' n' σ ρ := ⟨e.len, fun i d h => let ⟨v, h1, h2⟩ := e.at_ i d h; ⟨v, h1, h2.mono l⟩⟩
theorem EnvR.set {v : V} {d : D} (e : EnvR K B A n σ ρ) (r : Rep K B A n v d) (i : Nat) : EnvR K B A n (σ.set i (some v)) (ρ.set i (some d)) := by
  refine ⟨by rw [List.length_set, List.length_set, e.len], fun j x h => ?_⟩
  by_cases hj : j = i
  · subst hj
    have hl : j < ρ.length := by
      have := (List.getElem?_eq_some_iff.mp h).1
      rw [List.length_set] at this
      exact this
    rw [List.getElem?_set_self hl] at h
    cases h
    exact ⟨v, by rw [List.getElem?_set_self (by rw [e.len]; exact hl)], r⟩
  · rw [List.getElem?_set_ne (Ne.symm hj)] at h ⊢
    exact e.at_ j x h
theorem EnvR.setNone (e : EnvR K B A n σ ρ) (i : Nat) : EnvR K B A n (σ.set i none) (ρ.set i none) := by
  refine ⟨by rw [List.length_set, List.length_set, e.len], fun j x h => ?_⟩
  by_cases hj : j = i
  · subst hj
    have hl : j < ρ.length := by
      have := (List.getElem?_eq_some_iff.mp h).1
      rw [List.length_set] at this
      exact this
    rw [List.getElem?_set_self hl] at h
    cases h
  · rw [List.getElem?_set_ne (Ne.symm hj)] at h ⊢
    exact e.at_ j x h
theorem EnvR.wipe (e : EnvR K B A n σ ρ) : ∀ vs : List Nat, EnvR K B A n (L2.wipe σ vs) (wipeE ρ vs)
  | [] => e
  | v :: vs => by
    show EnvR K B A n ((L2.wipe σ vs).set v none) ((wipeE ρ vs).set v none)
    exact (EnvR.wipe e vs).setNone v
theorem EnvR.start {vs : List V} {ds : List D} {N : List Str} (r : Reps K B A n vs ds) : EnvR K B A n (L2.start N vs) (LB.start N.length ds) := by
  have hl := r.length
  refine ⟨by simp [L2.start, LB.start, hl], fun i d h => ?_⟩
  unfold LB.start at h
  unfold L2.start
  rw [List.getElem?_append] at h ⊢
  rw [List.length_map] at h ⊢
  by_cases hi : i < ds.length
  · rw [if_pos hi, List.getElem?_map] at h
    rw [if_pos (by rw [hl]; exact hi), List.getElem?_map]
    cases hd : ds[i]? with
    | none => rw [hd] at h; cases h
    | some d' =>
      rw [hd] at h
      simp only [Option.map_some, Option.some.injEq] at h
      subst h
      obtain ⟨v, hv, rv⟩ := r.get hd
      exact ⟨v, by rw [hv]; rfl, rv⟩
  · rw [if_neg hi] at h
    have := List.mem_of_getElem? h
    rw [List.mem_replicate] at this
    exact absurd this.2 (by simp)
end

/-! ### the readings -/
def RepX (P : Pm) (B : Hp) (A : Nat → Addr) (n : Nat) (H : Hp) (e : Er) (c : Value) (dd : Option Addr) : Prop :=
  c = .ref (P.CA e.cls) ∧ match e.fld with
    | none => dd = none
    | some d => ∃ a v, dd = some a ∧ H a = some (.xd [(P.XN e.cls, v)]) ∧ Rep P.K B A n v d
section
variable (P : Pm) (E : XK)
def exV (F B : Hp) (A : Nat → Addr) (n : Nat) : Er → Mem → Prop := fun e m' => ∀ B' A' H' c dd, Le B A n B' A' m'.n → SR P F B' A' m' H' → RepX P B' A' m'.n H' e c dd → E c dd H'
def okD (F B : Hp) (A : Nat → Addr) (n : Nat) (Q : VK) : D → Mem → Prop := fun d m' => ∀ B' A' H' v, Le B A n B' A' m'.n → SR P F B' A' m' H' → Rep P.K B' A' m'.n v d → Q v H'
def okT (F B : Hp) (A : Nat → Addr) (n : Nat) (Q : Bool → Hp → Prop) : Bool → Mem → Prop := fun b m' => ∀ B' A' H', Le B A n B' A' m'.n → SR P F B' A' m' H' → Q b H'
def okA (F B : Hp) (A : Nat → Addr) (n : Nat) (Q : List V → Hp → Prop) : List D → Mem → Prop := fun ds m' => ∀ B' A' H' vs, Le B A n B' A' m'.n → SR P F B' A' m' H' → Reps P.K B' A' m'.n vs ds → Q vs H'
def okS (F B : Hp) (A : Nat → Addr) (n : Nat) (D : Ends) : Fl × Ev → Mem → Prop := fun r m' => ∀ B' A' H' σ', Le B A n B' A' m'.n → SR P F B' A' m' H' → EnvR P.K B' A' m'.n σ' r.2 →
  match r.1 with
    | .nx => D.nx σ' H'
    | .bk => D.bk σ' H'
    | .ct => D.ct σ' H'
    | .rt d => ∀ v, Rep P.K B' A' m'.n v d → D.rt v H'
def tX (f : SE) : TE := fun σ H Q => ∃ F B A ρ m, SR P F B A m H ∧ EnvR P.K B A m.n σ ρ ∧ (f ρ m).wp (okD P F B A m.n Q) (exV P E F B A m.n)
def tXT (f : SB) : TT := fun σ H Q => ∃ F B A ρ m, SR P F B A m H ∧ EnvR P.K B A m.n σ ρ ∧ (f ρ m).wp (okT P F B A m.n Q) (exV P E F B A m.n)
def tXA (f : SA) : TA := fun σ H Q => ∃ F B A ρ m, SR P F B A m H ∧ EnvR P.K B A m.n σ ρ ∧ (f ρ m).wp (okA P F B A m.n Q) (exV P E F B A m.n)
def tXS (f : SS) : TS := fun D σ H => ∃ F B A ρ m, SR P F B A m H ∧ EnvR P.K B A m.n σ ρ ∧ (f ρ m).wp (okS P F B A m.n D) (exV P E F B A m.n)
end
section
variable {P : Pm} {E : XK} {F B B' : Hp} {A A' : Nat → Addr} {n n' : Nat}
theorem exV.le {e : Er} {m : Mem} (l : Le B A n B' A' n') (h : exV P E F B A n e m) : exV P E F B' A' n' e m := fun B2 A2 H2 c dd l2 => h B2 A2 H2 c dd (l.trans l2)
theorem okD.le {Q : VK} {d : D} {m : Mem} (l : Le B A n B' A' n') (h : okD P F B A n Q d m) : okD P F B' A' n' Q d m := fun B2 A2 H2 v l2 => h B2 A2 H2 v (l.trans l2)
theorem okT.le {Q : Bool → Hp → Prop} {d : Bool} {m : Mem} (l : Le B A n B' A' n') (h : okT P F B A n Q d m) : okT P F B' A' n' Q d m := fun B2 A2 H2 l2 => h B2 A2 H2 (l.trans l2)
theorem okA.le {Q : List V → Hp → Prop} {d : List D} {m : Mem} (l : Le B A n B' A' n') (h : okA P F B A n Q d m) : okA P F B' A' n' Q d m := fun B2 A2 H2 v l2 => h B2 A2 H2 v (l.trans l2)
theorem okS.le {Q : Ends} {r : Fl × Ev} {m : Mem} (l : Le B A n B' A' n') (h : okS P F B A n Q r m) : okS P F B' A' n' Q r m := fun B2 A2 H2 v l2 => h B2 A2 H2 v (l.trans l2)
end

/-! ### weakening the judgements -/
theorem pe_imp {X : Cx} {e : Expr} {t t' : TE} (h : PE X e t) (i : ∀ σ H Q, t' σ H Q → t σ H Q) : PE X e t' := ⟨fun pins s σ H Q I w => h.run pins s σ H Q I (i σ H Q w)⟩
theorem pt_imp {X : Cx} {e : Expr} {t t' : TT} (h : PT X e t) (i : ∀ σ H Q, t' σ H Q → t σ H Q) : PT X e t' := ⟨fun pins s σ H Q I w => h.run pins s σ H Q I (i σ H Q w)⟩
theorem pw_imp {X : Cx} {e : Expr} {t t' : TT} (h : PW X e t) (i : ∀ σ H Q, t' σ H Q → t σ H Q) : PW X e t' := ⟨fun wh pins s σ H Q I w => h.run wh pins s σ H Q I (i σ H Q w)⟩
theorem pa_imp {X : Cx} {e : List Expr} {t t' : TA} (h : PA X e t) (i : ∀ σ H Q, t' σ H Q → t σ H Q) : PA X e t' := ⟨fun pos pins s σ H Q I w => h.run pos pins s σ H Q I (i σ H Q w)⟩
theorem ps_imp {X : Cx} {e : Stmt} {t t' : TS} (h : PS X e t) (i : ∀ D σ H, t' D σ H → t D σ H) : PS X e t' := ⟨fun pins s σ H D I w => h.run pins s σ H D I (i D σ H w)⟩
theorem pss_imp {X : Cx} {e : List Stmt} {t t' : TS} (h : PSs X e t) (i : ∀ D σ H, t' D σ H → t D σ H) : PSs X e t' := ⟨fun pins s σ H D I w => h.run pins s σ H D I (i D σ H w)⟩
theorem pi_imp {X : Cx} {tg e : Expr} {t t' : TI} (h : PI X tg e t) (i : ∀ σ H R, t' σ H R → t σ H R) : PI X tg e t' := ⟨fun pins s σ H R I w => h.run pins s σ H R I (i σ H R w)⟩
end LB

set_option Elab.async false
set_option linter.all false
set_option autoImplicit false
set_option maxRecDepth 100000
set_option maxHeartbeats 2000000
/-! Readings of pure functions, construct by construct: expressions, tests, arguments, statements, loops, comprehensions. -/
namespace LB
open PySem PySem.Spec PyProof.Rows L2

section
variable {P : Pm} {E : XK} {F B : Hp} {A : Nat → Addr} {n : Nat}
theorem lift_wp {α : Type} {o : Option α} {m : Mem} {q : α → Mem → Prop} {e : Er → Mem → Prop} (h : (lift o m).wp q e) : ∃ x, o = some x ∧ q x m := by
  cases o with
  | none => exact h.elim
  | some x => exact ⟨x, rfl, h⟩
/-- a run, its value used -/
theorem tX_go {f : SE} {σ : L2.St} {H : Hp} {Q : VK} {F B : Hp} {A : Nat → Addr} {ρ : Ev} {m : Mem} (s : SR P F B A m H) (e : EnvR P.K B A m.n σ ρ) {q : D → Mem → Prop} (h : (f ρ m).wp q (exV P E F B A m.n))
    (k : ∀ d m1 B1 A1 H1 v, q d m1 → Le B A m.n B1 A1 m1.n → SR P F B1 A1 m1 H1 → Rep P.K B1 A1 m1.n v d → Q v H1) : tX P E f σ H Q :=
  ⟨F, B, A, ρ, m, s, e, Rs.wp_mono h (fun d m1 hq B1 A1 H1 v l s1 r => k d m1 B1 A1 H1 v hq l s1 r) fun _ _ x => x⟩
theorem tXT_go {f : SB} {σ : L2.St} {H : Hp} {Q : Bool → Hp → Prop} {F B : Hp} {A : Nat → Addr} {ρ : Ev} {m : Mem} (s : SR P F B A m H) (e : EnvR P.K B A m.n σ ρ) {q : Bool → Mem → Prop} (h : (f ρ m).wp q (exV P E F B A m.n))
    (k : ∀ d m1 B1 A1 H1, q d m1 → Le B A m.n B1 A1 m1.n → SR P F B1 A1 m1 H1 → Q d H1) : tXT P E f σ H Q :=
  ⟨F, B, A, ρ, m, s, e, Rs.wp_mono h (fun d m1 hq B1 A1 H1 l s1 => k d m1 B1 A1 H1 hq l s1) fun _ _ x => x⟩
theorem tXA_go {f : SA} {σ : L2.St} {H : Hp} {Q : List V → Hp → Prop} {F B : Hp} {A : Nat → Addr} {ρ : Ev} {m : Mem} (s : SR P F B A m H) (e : EnvR P.K B A m.n σ ρ) {q : List D → Mem → Prop} (h : (f ρ m).wp q (exV P E F B A m.n))
    (k : ∀ d m1 B1 A1 H1 v, q d m1 → Le B A m.n B1 A1 m1.n → SR P F B1 A1 m1 H1 → Reps P.K B1 A1 m1.n v d → Q v H1) : tXA P E f σ H Q :=
  ⟨F, B, A, ρ, m, s, e, Rs.wp_mono h (fun d m1 hq B1 A1 H1 v l s1 r => k d m1 B1 A1 H1 v hq l s1 r) fun _ _ x => x⟩
theorem tXS_go {f : SS} {σ : L2.St} {H : Hp} {D : Ends} {F B : Hp} {A : Nat → Addr} {ρ : Ev} {m : Mem} (s : SR P F B A m H) (e : EnvR P.K B A m.n σ ρ) {q : Fl × Ev → Mem → Prop} (h : (f ρ m).wp q (exV P E F B A m.n))
    (k : ∀ r m1, q r m1 → okS P F B A m.n D r m1) : tXS P E f D σ H :=
  ⟨F, B, A, ρ, m, s, e, Rs.wp_mono h (fun r m1 hq => k r m1 hq) fun _ _ x => x⟩
theorem wp_le {α : Type} {r : Rs α} {q : α → Mem → Prop} {B' : Hp} {A' : Nat → Addr} {n' : Nat} (l : Le B A n B' A' n') (h : r.wp q (exV P E F B A n)) : r.wp q (exV P E F B' A' n') := Rs.wp_mono h (fun _ _ x => x) fun _ _ x => x.le l
end

section
variable {X : Cx} {P : Pm} {E : XK} {pos : Pos}
/-! ### expressions -/
theorem xe_vr (i : Nat) {x : Str} (hN : X.N[i]? = some x := by rfl) (hv : Vis X.env.scope x := by first | exact Or.inl rfl | exact Or.inr (Or.inl rfl) | exact Or.inr (Or.inr rfl)) (hd : (x == ("__debug__" : Str)) = false := by decide)
    (hcd : (x == ("__classdict__" : Str)) = false := by decide) : PE X (.Name x pos) (tX P E (vr i)) := by
  refine pe_imp (pe_var hN hv hd hcd) fun σ H Q ⟨F, B, A, ρ, m, s, e, h⟩ => ?_
  unfold vr at h
  split at h
  · rename_i d hd'
    obtain ⟨v, hv', r⟩ := e.at_ i d hd'
    exact ⟨v, hv', h B A H v Le.refl s r⟩
  · exact h.elim
theorem xe_c {e : Expr} {v : V} {d : D} (h : PE X e (tC v)) (r : ∀ B A n, Rep P.K B A n v d) : PE X e (tX P E (cn d)) :=
  pe_imp h fun σ H Q ⟨F, B, A, ρ, m, s, e, h⟩ => h B A H v Le.refl s (r B A m.n)
theorem xe_int {i j} : PE X (.Constant (.int i) j pos) (tX P E (cn (.int i))) := xe_c pe_int fun _ _ _ => .int _
theorem xe_bl {b j} : PE X (.Constant (.bool b) j pos) (tX P E (cn (.bl b))) := xe_c pe_bl fun _ _ _ => .bl _
theorem xe_non {j} : PE X (.Constant .none j pos) (tX P E (cn .non)) := xe_c pe_non fun _ _ _ => .non
theorem xe_str {x j} : PE X (.Constant (.str x) j pos) (tX P E (cn (.str x))) := xe_c pe_str fun _ _ _ => .str _
/-- what a two-place operation on values tells of data -/
def Op2 (P : Pm) (g : O2) (r : R2) : Prop := ∀ (F B : Hp) (A : Nat → Addr) (m : Mem) (H : Hp) (x y : V) (dx dy z : D) (Q : VK), SR P F B A m H → Rep P.K B A m.n x dx → Rep P.K B A m.n y dy → g dx dy m = some z →
  (∀ B' H' v, Ex B B' → SR P F B' A m H' → Rep P.K B' A m.n v z → Q v H') → r x y H Q
variable {a b : Expr} {fa fb : SE} {es : List Expr} {fas : SA}
theorem op2_imp {g : O2} {r : R2} (hg : Op2 P g r) {σ : L2.St} {H : Hp} {Q : VK} (h : tX P E (op2 g fa fb) σ H Q) : tOp r (tX P E fa) (tX P E fb) σ H Q := by
  obtain ⟨F, B, A, ρ, m, s, e, h⟩ := h
  refine tX_go s e (wp_bind h) fun dx m1 B1 A1 H1 x h1 l1 s1 rx => ?_
  refine tX_go s1 (e.mono l1) (wp_le l1 (wp_bind h1)) fun dy m2 B2 A2 H2 y h2 l2 s2 ry => ?_
  obtain ⟨z, hz, h3⟩ := lift_wp h2
  exact hg F B2 A2 m2 H2 x y dx dy z Q s2 (rx.mono l2) ry hz fun B' H' v ex s' rv => h3 B' A2 H' v ((l1.trans l2).trans (Le.base ex)) s' rv
theorem xe_op {op : Operator} {r : R2} {g : O2} (ho : OpR X (binaryOp op) r) (hg : Op2 P g r) (ha : PE X a (tX P E fa)) (hb : PE X b (tX P E fb)) : PE X (.BinOp a op b pos) (tX P E (op2 g fa fb)) :=
  pe_imp (pe_op ho ha hb) fun _ _ _ h => op2_imp hg h
theorem xe_cmp {op : CmpOp} {r : R2} {g : O2} (ho : OpR X (compareOp op) r) (hg : Op2 P g r) (ha : PE X a (tX P E fa)) (hb : PE X b (tX P E fb)) (hm : behindInMarks op b = false) : PE X (.Compare a [op] [b] pos) (tX P E (op2 g fa fb)) :=
  pe_imp (pe_cmpR ho ha hb hm) fun _ _ _ h => op2_imp hg h
theorem xe_ix {r : R2} {g : O2} (ho : IxR X r) (hg : Op2 P g r) (ha : PE X a (tX P E fa)) (hb : PE X b (tX P E fb)) (hs : PlainIx b) : PE X (.Subscript a b pos) (tX P E (op2 g fa fb)) :=
  pe_imp (pe_ix ho ha hb hs) fun _ _ _ h => op2_imp hg h
/-- a test by a value -/
theorem tV_imp {σ : L2.St} {H : Hp} {Q : Bool → Hp → Prop} {f : SE} (h : tXT P E (tV f) σ H Q) : tX P E f σ H fun x H1 => ∃ c, x = .bl c ∧ Q c H1 := by
  obtain ⟨F, B, A, ρ, m, s, e, h⟩ := h
  refine tX_go s e (wp_bind h) fun dx m1 B1 A1 H1 x h1 l1 s1 rx => ?_
  cases dx with
  | bl c =>
    cases rx
    exact ⟨c, rfl, h1 B1 A1 H1 l1 s1⟩
  | _ => exact h1.elim
theorem xt_cmp {op : CmpOp} {r : R2} {g : O2} (ho : OpR X (compareOp op) r) (hg : Op2 P g r) (ha : PE X a (tX P E fa)) (hb : PE X b (tX P E fb)) (hm : behindInMarks op b = false) : PT X (.Compare a [op] [b] pos) (tXT P E (tV (op2 g fa fb))) :=
  pt_imp (pt_cmpR ho ha hb hm) fun σ H Q h => op2_imp hg (tV_imp h)
theorem xt_V {e : Expr} {f : SE} (h : PE X e (tX P E f)) (he : ∀ whole, isTrue e X.env whole = (do let v ← whole; standAt e.pos; holding [v] (truthy v)) := by intro _; rfl) : PT X e (tXT P E (tV f)) :=
  pt_imp (pt_val h he) fun σ H Q h => tV_imp h
/-- x op y op' z -/
theorem asB_wp {d : D} {m : Mem} {q : Bool → Mem → Prop} {e : Er → Mem → Prop} (h : (asB d m).wp q e) : ∃ b, d = .bl b ∧ q b m := by
  cases d with
  | bl b => exact ⟨b, rfl, h⟩
  | _ => exact h.elim
variable {c : Expr} {fc : SE}
theorem chn_imp {g g' : O2} {r r' : R2} (hg : Op2 P g r) (hg' : Op2 P g' r') {σ : L2.St} {H : Hp} {Q : VK} (h : tX P E (chn g g' fa fb fc) σ H Q) : tChain r r' (tX P E fa) (tX P E fb) (tX P E fc) σ H Q := by
  obtain ⟨F, B, A, ρ, m, s, e, h⟩ := h
  refine tX_go s e (wp_bind h) fun dx m1 B1 A1 H1 x h1 l1 s1 rx => ?_
  refine tX_go s1 (e.mono l1) (wp_le l1 (wp_bind h1)) fun dy m2 B2 A2 H2 y h2 l2 s2 ry => ?_
  obtain ⟨z, hz, h3⟩ := lift_wp (wp_bind h2)
  refine hg F B2 A2 m2 H2 x y dx dy z _ s2 (rx.mono l2) ry hz fun B' H' v ex s' rv => ?_
  obtain ⟨t, rfl, h4⟩ := asB_wp (wp_bind h3)
  cases rv
  refine ⟨t, rfl, ?_⟩
  have l3 := (l1.trans l2).trans (Le.base (A := A2) (n := m2.n) ex)
  cases t with
  | true =>
    rw [if_pos rfl] at h4 ⊢
    refine tX_go s' (e.mono l3) (wp_le l3 (wp_bind h4)) fun dz m4 B4 A4 H4 w h5 l4 s4 rw => ?_
    obtain ⟨u, hu, h6⟩ := lift_wp h5
    exact hg' F B4 A4 m4 H4 y w dy dz u Q s4 ((ry.mono (Le.base ex)).mono l4) rw hu fun B5 H5 v5 ex5 s5 r5 => h6 B5 A4 H5 v5 ((l3.trans l4).trans (Le.base ex5)) s5 r5
  | false =>
    rw [if_neg Bool.false_ne_true] at h4 ⊢
    exact h4 B' A2 H' (.bl false) l3 s' (.bl false)
theorem xe_chain {op op' : CmpOp} {r r' : R2} {g g' : O2} (ho : OpR X (compareOp op) r) (ho' : OpR X (compareOp op') r') (hg : Op2 P g r) (hg' : Op2 P g' r') (ha : PE X a (tX P E fa)) (hb : PE X b (tX P E fb)) (hc : PE X c (tX P E fc))
    (hm : lastMarks [op, op'] [b, c] = false := by with_unfolding_all rfl) : PE X (.Compare a [op, op'] [b, c] pos) (tX P E (chn g g' fa fb fc)) := pe_imp (pe_chain ho ho' ha hb hc hm) fun _ _ _ h => chn_imp hg hg' h
theorem xt_chain {op op' : CmpOp} {r r' : R2} {g g' : O2} (ho : OpR X (compareOp op) r) (ho' : OpR X (compareOp op') r') (hg : Op2 P g r) (hg' : Op2 P g' r') (ha : PE X a (tX P E fa)) (hb : PE X b (tX P E fb)) (hc : PE X c (tX P E fc))
    (hm : lastMarks [op, op'] [b, c] = false := by with_unfolding_all rfl) : PT X (.Compare a [op, op'] [b, c] pos) (tXT P E (tV (chn g g' fa fb fc))) := pt_imp (pt_chain ho ho' ha hb hc hm) fun _ _ _ h => chn_imp hg hg' (tV_imp h)
/-! one-place -/
def Op1 (P : Pm) (g : O1) (r : V → Hp → VK → Prop) : Prop := ∀ (F B : Hp) (A : Nat → Addr) (m : Mem) (H : Hp) (x : V) (dx z : D) (Q : VK), SR P F B A m H → Rep P.K B A m.n x dx → g dx m = some z →
  (∀ B' H' v, Ex B B' → SR P F B' A m H' → Rep P.K B' A m.n v z → Q v H') → r x H Q
theorem op1_imp {g : O1} {r : V → Hp → VK → Prop} (hg : Op1 P g r) {σ : L2.St} {H : Hp} {Q : VK} (h : tX P E (op1 g fa) σ H Q) : tX P E fa σ H fun x H1 => r x H1 Q := by
  obtain ⟨F, B, A, ρ, m, s, e, h⟩ := h
  refine tX_go s e (wp_bind h) fun dx m1 B1 A1 H1 x h1 l1 s1 rx => ?_
  obtain ⟨z, hz, h3⟩ := lift_wp h1
  exact hg F B1 A1 m1 H1 x dx z Q s1 rx hz fun B' H' v ex s' rv => h3 B' A1 H' v (l1.trans (Le.base ex)) s' rv
/-! arguments -/
theorem xa_nil : PA X [] (tXA P E argN) := pa_imp pa_nil fun σ H Q ⟨F, B, A, ρ, m, s, e, h⟩ => h B A H [] Le.refl s .nil
theorem xa_cons {e : Expr} (ha : PE X e (tX P E fa)) (hr : PA X es (tXA P E fas)) (hs : starEach (e :: es) X.env = (false, eval e X.env) :: starEach es X.env := by rfl) : PA X (e :: es) (tXA P E (argC fa fas)) := by
  refine pa_imp (pa_cons ha hr hs) fun σ H Q ⟨F, B, A, ρ, m, s, e, h⟩ => ?_
  refine tX_go s e (wp_bind h) fun dx m1 B1 A1 H1 x h1 l1 s1 rx => ?_
  refine tXA_go s1 (e.mono l1) (wp_le l1 (wp_bind h1)) fun ds m2 B2 A2 H2 vs h2 l2 s2 rs => ?_
  exact h2 B2 A2 H2 (x :: vs) (l1.trans l2) s2 (.cons (rx.mono l2) rs)
/-! displays -/
theorem cap_wp {xs : List D} {k : List D → M D} {m : Mem} {q : D → Mem → Prop} {e : Er → Mem → Prop} (h : Rs.wp (if xs.length ≤ 1000 then k xs m else .bad) q e) : xs.length ≤ sizeLine ∧ (k xs m).wp q e := by
  by_cases hl : xs.length ≤ 1000
  · rw [if_pos hl] at h
    exact ⟨Nat.le_trans hl (by decide), h⟩
  · rw [if_neg hl] at h
    exact h.elim
theorem xe_tpl {x1} (h : PA X es (tXA P E fas)) : PE X (.Tuple es x1 pos) (tX P E (tpl fas)) := by
  refine pe_imp (pe_tup h) fun σ H Q ⟨F, B, A, ρ, m, s, e, h⟩ => ?_
  refine tXA_go s e (wp_bind h) fun ds m1 B1 A1 H1 vs h1 l1 s1 rs => ?_
  obtain ⟨hl, h2⟩ := cap_wp (xs := ds) (k := fun xs => M.pure (D.tup xs)) h1
  refine ⟨by rw [rs.length]; exact hl, fun p hp => ?_⟩
  have ex := s1.frozenEx (o := .tup vs) hp
  exact h2 _ A1 _ _ (l1.trans (Le.base ex)) (s1.frozen hp) (.tup (SqT.of upd_same) (rs.mono (Le.base ex)))
theorem xe_lsl (h : PA X es (tXA P E fas)) : PE X (.List es pos) (tX P E (lsl fas)) := by
  refine pe_imp (pe_lst h) fun σ H Q ⟨F, B, A, ρ, m, s, e, h⟩ => ?_
  refine tXA_go s e (wp_bind h) fun ds m1 B1 A1 H1 vs h1 l1 s1 rs => ?_
  obtain ⟨hl, h2⟩ := cap_wp (xs := ds) (k := fun xs => M.pure (D.lst xs)) h1
  refine ⟨by rw [rs.length]; exact hl, fun p hp => ?_⟩
  have ex := s1.frozenEx (o := .lst vs) hp
  exact h2 _ A1 _ _ (l1.trans (Le.base ex)) (s1.frozen hp) (.lst upd_same (rs.mono (Le.base ex)))
/-- a new list that may change: what alloc tells -/
theorem alloc_lst {Q : VK} {F B : Hp} {A : Nat → Addr} {m : Mem} {n : Nat} {B0 : Hp} {A0 : Nat → Addr} {H : Hp} {vs : List V} {ds : List D} {e : Er → Mem → Prop} {p : Addr} (l : Le B0 A0 n B A m.n) (s : SR P F B A m H) (rs : Reps P.K B A m.n vs ds)
    (h : (alloc (.lst ds) m).wp (okD P F B0 A0 n Q) e) (hp : H p = none) : Q (.ref p) (upd H p (.lst vs)) := by
  have l2 : Le B A m.n B (cons1 A m.n p) (m.n + 1) := s.leNew p (.lst ds)
  have r : RepO P B (cons1 A m.n p) (m.n + 1) (upd H p (.lst vs)) p (.lst ds) := .lst upd_same (rs.mono l2)
  exact h B (cons1 A m.n p) _ (.ref p) (l.trans l2) (s.new hp r) (.loc (Nat.lt_succ_self _) cons1_at)
theorem xe_lsm (h : PA X es (tXA P E fas)) : PE X (.List es pos) (tX P E (lsm fas)) := by
  refine pe_imp (pe_lst h) fun σ H Q ⟨F, B, A, ρ, m, s, e, h⟩ => ?_
  refine tXA_go s e (wp_bind h) fun ds m1 B1 A1 H1 vs h1 l1 s1 rs => ?_
  obtain ⟨hl, h2⟩ := cap_wp (xs := ds) (k := fun xs => alloc (MO.lst xs)) h1
  refine ⟨by rw [rs.length]; exact hl, fun p hp => ?_⟩
  exact alloc_lst l1 s1 rs h2 hp
theorem xe_if {ft : SB} (hc : PT X c (tXT P E ft)) (ha : PE X a (tX P E fa)) (hb : PE X b (tX P E fb)) : PE X (.IfExp c a b pos) (tX P E (ifE ft fa fb)) := by
  refine pe_imp (pe_ifExp hc ha hb) fun σ H Q ⟨F, B, A, ρ, m, s, e, h⟩ => ?_
  refine tXT_go s e (wp_bind h) fun t m1 B1 A1 H1 h1 l1 s1 => ?_
  cases t with
  | true =>
    rw [if_pos rfl] at h1 ⊢
    exact tX_go s1 (e.mono l1) (wp_le l1 h1) fun d m2 B2 A2 H2 v h2 l2 s2 r2 => h2 B2 A2 H2 v (l1.trans l2) s2 r2
  | false =>
    rw [if_neg Bool.false_ne_true] at h1 ⊢
    exact tX_go s1 (e.mono l1) (wp_le l1 h1) fun d m2 B2 A2 H2 v h2 l2 s2 r2 => h2 B2 A2 H2 v (l1.trans l2) s2 r2
/-! tests -/
variable {ta tb : SB} {rest : List Expr}
theorem xw_and1 (ha : PT X a (tXT P E ta)) : PW X (.BoolOp .And [a] pos) (tXT P E ta) := pw_and1 ha
theorem xw_or1 (ha : PT X a (tXT P E ta)) : PW X (.BoolOp .Or [a] pos) (tXT P E ta) := pw_or1 ha
theorem xw_and (ha : PT X a (tXT P E ta)) (hb : PW X (.BoolOp .And (b :: rest) pos) (tXT P E tb)) : PW X (.BoolOp .And (a :: b :: rest) pos) (tXT P E (LB.tAnd ta tb)) := by
  refine pw_imp (pw_and ha hb) fun σ H Q ⟨F, B, A, ρ, m, s, e, h⟩ => ?_
  refine tXT_go s e (wp_bind h) fun t m1 B1 A1 H1 h1 l1 s1 => ?_
  cases t with
  | true =>
    rw [if_pos rfl] at h1 ⊢
    exact tXT_go s1 (e.mono l1) (wp_le l1 h1) fun d m2 B2 A2 H2 h2 l2 s2 => h2 B2 A2 H2 (l1.trans l2) s2
  | false =>
    rw [if_neg Bool.false_ne_true] at h1 ⊢
    exact h1 B1 A1 H1 l1 s1
theorem xw_or (ha : PT X a (tXT P E ta)) (hb : PW X (.BoolOp .Or (b :: rest) pos) (tXT P E tb)) : PW X (.BoolOp .Or (a :: b :: rest) pos) (tXT P E (LB.tOr ta tb)) := by
  refine pw_imp (pw_or ha hb) fun σ H Q ⟨F, B, A, ρ, m, s, e, h⟩ => ?_
  refine tXT_go s e (wp_bind h) fun t m1 B1 A1 H1 h1 l1 s1 => ?_
  cases t with
  | true =>
    rw [if_pos rfl] at h1 ⊢
    exact h1 B1 A1 H1 l1 s1
  | false =>
    rw [if_neg Bool.false_ne_true] at h1 ⊢
    exact tXT_go s1 (e.mono l1) (wp_le l1 h1) fun d m2 B2 A2 H2 h2 l2 s2 => h2 B2 A2 H2 (l1.trans l2) s2
theorem xt_not (ha : PT X a (tXT P E ta)) : PT X (.UnaryOp .Not a pos) (tXT P E (LB.tNot ta)) := by
  refine pt_imp (pt_not ha) fun σ H Q ⟨F, B, A, ρ, m, s, e, h⟩ => ?_
  exact tXT_go s e (wp_bind h) fun t m1 B1 A1 H1 h1 l1 s1 => h1 B1 A1 H1 l1 s1
theorem xe_one {op} {f : SE} (h : PE X a (tX P E f)) : PE X (.BoolOp op [a] pos) (tX P E f) := pe_one h
theorem xe_and (ha : PE X a (tX P E fa)) (hb : PE X (.BoolOp .And (b :: rest) pos) (tX P E fb)) : PE X (.BoolOp .And (a :: b :: rest) pos) (tX P E (vAnd fa fb)) := by
  refine pe_imp (pe_and ha hb) fun σ H Q ⟨F, B, A, ρ, m, s, e, h⟩ => ?_
  refine tX_go s e (wp_bind h) fun dx m1 B1 A1 H1 x h1 l1 s1 rx => ?_
  obtain ⟨t, rfl, h2⟩ := asB_wp (wp_bind h1)
  cases rx
  refine ⟨t, rfl, ?_⟩
  cases t with
  | true =>
    rw [if_pos rfl] at h2 ⊢
    exact tX_go s1 (e.mono l1) (wp_le l1 h2) fun d m2 B2 A2 H2 v h3 l2 s2 r2 => h3 B2 A2 H2 v (l1.trans l2) s2 r2
  | false =>
    rw [if_neg Bool.false_ne_true] at h2 ⊢
    exact h2 B1 A1 H1 _ l1 s1 (.bl false)
theorem xe_not (ha : PE X a (tX P E fa)) : PE X (.UnaryOp .Not a pos) (tX P E (vNot fa)) := by
  refine pe_imp (pe_not ha) fun σ H Q ⟨F, B, A, ρ, m, s, e, h⟩ => ?_
  refine tX_go s e (wp_bind h) fun dx m1 B1 A1 H1 x h1 l1 s1 rx => ?_
  obtain ⟨t, rfl, h2⟩ := asB_wp (wp_bind h1)
  cases rx
  exact ⟨t, rfl, h2 B1 A1 H1 _ l1 s1 (.bl _)⟩

/-! ### statements -/
variable {st : Stmt} {sts : List Stmt} {f1 f2 : SS} {f : SE}
theorem xss_nil : PSs X [] (tXS P E sNext) := pss_imp pss_nil fun D σ H ⟨F, B, A, ρ, m, s, e, h⟩ => h B A H σ Le.refl s e
theorem xss_cons (h1 : PS X st (tXS P E f1)) (h2 : PSs X sts (tXS P E f2)) : PSs X (st :: sts) (tXS P E (sSeq f1 f2)) := by
  refine pss_imp (pss_cons h1 h2) fun D σ H ⟨F, B, A, ρ, m, s, e, h⟩ => ?_
  refine tXS_go s e (wp_bind h) fun r m1 h1 B1 A1 H1 σ1 l1 s1 e1 => ?_
  obtain ⟨fl, ρ1⟩ := r
  cases fl with
  | nx => exact ⟨F, B1, A1, ρ1, m1, s1, e1, Rs.wp_mono (wp_le l1 h1) (fun r m2 h2 => h2.le l1) fun _ _ x => x⟩
  | bk => exact h1 B1 A1 H1 σ1 l1 s1 e1
  | ct => exact h1 B1 A1 H1 σ1 l1 s1 e1
  | rt d => exact h1 B1 A1 H1 σ1 l1 s1 e1
theorem xss_one (h1 : PS X st (tXS P E f1)) : PSs X [st] (tXS P E f1) := pss_one h1
theorem xs_ret {e : Expr} (he : PE X e (tX P E f)) : PS X (.Return (some e) pos) (tXS P E (sRet f)) := by
  refine ps_imp (ps_ret he) fun D σ H ⟨F, B, A, ρ, m, s, e, h⟩ => ?_
  exact tX_go s e (wp_bind h) fun dx m1 B1 A1 H1 x h1 l1 s1 rx => h1 B1 A1 H1 σ l1 s1 (e.mono l1) x rx
theorem xs_exp {e : Expr} (he : PE X e (tX P E f)) (hs : swapsWith e none pos.line X.env = pure false := by rfl) : PS X (.Expr e pos) (tXS P E (sExp f)) := by
  refine ps_imp (ps_expr he hs) fun D σ H ⟨F, B, A, ρ, m, s, e, h⟩ => ?_
  exact tX_go s e (wp_bind h) fun dx m1 B1 A1 H1 x h1 l1 s1 rx => h1 B1 A1 H1 σ l1 s1 (e.mono l1)
theorem xs_if {c : Expr} {x y : List Stmt} {tc : SB} (hc : PT X c (tXT P E tc)) (ha : PSs X x (tXS P E f1)) (hb : PSs X y (tXS P E f2)) : PS X (.If c x y pos) (tXS P E (sIf tc f1 f2)) := by
  refine ps_imp (ps_if hc ha hb) fun D σ H ⟨F, B, A, ρ, m, s, e, h⟩ => ?_
  refine tXT_go s e (wp_bind h) fun t m1 B1 A1 H1 h1 l1 s1 => ?_
  cases t with
  | true =>
    rw [if_pos rfl] at h1 ⊢
    exact tXS_go s1 (e.mono l1) (wp_le l1 h1) fun r m2 h2 => h2.le l1
  | false =>
    rw [if_neg Bool.false_ne_true] at h1 ⊢
    exact tXS_go s1 (e.mono l1) (wp_le l1 h1) fun r m2 h2 => h2.le l1
theorem xss_never : PSs X sts (tXS P E sBad) := pss_imp pss_never fun D σ H ⟨F, B, A, ρ, m, s, e, h⟩ => h
/-! targets -/
/-- a target: the slots that it stores -/
def tXG (P : Pm) (g : SG) (is : List Nat) : TG := fun v σ H Q => ∃ B A n ρ d ρ1, EnvR P.K B A n σ ρ ∧ Ex B H ∧ Rep P.K B A n v d ∧ g d ρ = some ρ1 ∧
  ∀ σ1, EnvR P.K B A n σ1 ρ1 → (∀ vs : List Nat, (∀ i ∈ is, i ∈ vs) → L2.wipe σ1 vs = L2.wipe σ vs) → Q σ1 H
theorem pg_imp {tg : Expr} {g g' : TG} (h : PG X tg g) (i : ∀ v σ H Q, g' v σ H Q → g v σ H Q) : PG X tg g' := ⟨fun pins s σ H v u Q I r w => h.run pins s σ H v u Q I r (i v σ H Q w)⟩
theorem wipe_set {i : Nat} {x : Option V} (σ : L2.St) : ∀ {vs : List Nat}, i ∈ vs → L2.wipe (σ.set i x) vs = L2.wipe σ vs
  | v :: vs, h => by
    show (L2.wipe (σ.set i x) vs).set v none = (L2.wipe σ vs).set v none
    by_cases hv : i ∈ vs
    · rw [wipe_set σ hv]
    · have e : i = v := by
        rcases List.mem_cons.mp h with e | e
        · exact e
        · exact absurd e hv
      subst e
      have gen : ∀ vs : List Nat, (L2.wipe (σ.set i x) vs).set i none = (L2.wipe σ vs).set i none := by
        intro vs
        induction vs with
        | nil => show (σ.set i x).set i none = σ.set i none; rw [List.set_set]
        | cons w ws ih =>
          show ((L2.wipe (σ.set i x) ws).set w none).set i none = ((L2.wipe σ ws).set w none).set i none
          by_cases hw : w = i
          · rw [hw, List.set_set, List.set_set, ih]
          · rw [List.set_comm _ _ hw, ih, List.set_comm _ _ (Ne.symm hw)]
      exact gen vs
theorem xg_nm {i : Nat} {x : Str} (hN : X.N.Nodup) (hi : X.N[i]? = some x := by rfl) (hx : Loc X.env.scope x := by first | exact Or.inl rfl | exact Or.inr rfl) (hf : X.fn x = true ∨ X.env.scope.names.lookup x = some .local := by first | exact .inl rfl | exact .inr rfl | assumption) : PG X (.Name x pos) (tXG P (gNm i) [i]) := by
  refine pg_imp (pg_name hN hi hx hf) fun v σ H Q ⟨B, A, n, ρ, d, ρ1, e, ex, r, hg, k⟩ => ?_
  cases hg
  exact k _ (e.set r i) fun vs h => wipe_set σ (h i (List.mem_singleton.mpr rfl))
def tXGs (P : Pm) (is : List Nat) : TGs := fun vs σ H Q => ∃ B A n ρ ds ρ1, EnvR P.K B A n σ ρ ∧ Ex B H ∧ Reps P.K B A n vs ds ∧ gNms is ds ρ = some ρ1 ∧
  ∀ σ1, EnvR P.K B A n σ1 ρ1 → (∀ vs : List Nat, (∀ i ∈ is, i ∈ vs) → L2.wipe σ1 vs = L2.wipe σ vs) → Q σ1 H
theorem pgs_imp {tg : List Expr} {g g' : TGs} (h : PGs X tg g) (i : ∀ v σ H Q, g' v σ H Q → g v σ H Q) : PGs X tg g' := ⟨fun pins s σ H v u Q I r w => h.run pins s σ H v u Q I r (i v σ H Q w)⟩
theorem xgs_nil : PGs X [] (tXGs P []) := pgs_imp pgs_nil fun vs σ H Q ⟨B, A, n, ρ, ds, ρ1, e, ex, r, hg, k⟩ => by
  cases r with
  | nil =>
    cases hg
    exact ⟨rfl, k σ e fun _ _ => rfl⟩
  | cons _ _ => cases hg
theorem xgs_cons {i : Nat} {is : List Nat} {x : Str} {es : List Expr} (hN : X.N.Nodup) (h2 : PGs X es (tXGs P is)) (hi : X.N[i]? = some x := by rfl) (hx : Loc X.env.scope x := by first | exact Or.inl rfl | exact Or.inr rfl)
    (hf : X.fn x = true ∨ X.env.scope.names.lookup x = some .local := by first | exact .inl rfl | exact .inr rfl | assumption)
    (hs : (assignEach (.Name x pos :: es) X.env).map (·.2) = assign (.Name x pos) X.env :: (assignEach es X.env).map (·.2) := by rfl) : PGs X (.Name x pos :: es) (tXGs P (i :: is)) := by
  refine pgs_imp (pgs_cons (pg_name hN hi hx hf) h2 hs) fun vs σ H Q ⟨B, A, n, ρ, ds, ρ1, e, ex, r, hg, k⟩ => ?_
  cases r with
  | nil => cases hg
  | cons rv rr =>
    refine ⟨_, _, rfl, B, A, n, _, _, ρ1, e.set rv i, ex, rr, hg, fun σ1 e1 w => k σ1 e1 fun vs h => ?_⟩
    rw [w vs fun j hj => h j (List.mem_cons_of_mem _ hj)]
    exact wipe_set σ (h i List.mem_cons_self)
theorem gNms_len : ∀ {is : List Nat} {ds : List D} {ρ ρ1 : Ev}, gNms is ds ρ = some ρ1 → ds.length = is.length
  | [], [], _, _, _ => rfl
  | [], _ :: _, _, _, h => by cases h
  | _ :: _, [], _, _, h => by cases h
  | i :: is, d :: ds, ρ, ρ1, h => by
    have q : gNms is ds (ρ.set i (some d)) = some ρ1 := h
    rw [List.length_cons, List.length_cons, gNms_len q]
theorem xg_tp {es : List Expr} {kk : Nat} {is : List Nat} (hK : X.K = P.K) (hc : X.calm = true) (h : PGs X es (tXGs P is)) (hn : (assignEach es X.env).length = is.length := by rfl) (hst : (assignEach es X.env).findIdx? (·.1) = none := by rfl) :
    PG X (.Tuple es kk pos) (tXG P (gTp is) is) := by
  refine pg_imp (pg_tup hc h hn hst) fun v σ H Q ⟨B, A, n, ρ, d, ρ1, e, ex, r, hg, k⟩ => ?_
  cases r with
  | tup hq rs =>
    have hl := gNms_len hg
    refine ⟨_, _, rfl, by rw [hK]; exact ex.t hq, by rw [rs.length, hl], B, A, n, ρ, _, ρ1, e, ex, rs, hg, k⟩
  | _ => cases hg
theorem xs_set {i : Nat} {x : Str} {e : Expr} {pos' : Pos} (hN : X.N.Nodup) (he : PE X e (tX P E f)) (hi : X.N[i]? = some x := by rfl) (hx : Loc X.env.scope x := by first | exact Or.inl rfl | exact Or.inr rfl) (hs : swapsWith e (some (.Name x pos')) pos.line X.env = pure false := by rfl)
    (hf : X.fn x = true ∨ X.env.scope.names.lookup x = some .local := by first | exact .inl rfl | exact .inr rfl | assumption) : PS X (.Assign [.Name x pos'] e pos) (tXS P E (sAsg f (gNm i))) := by
  refine ps_imp (ps_set hN hi hx he hs hf) fun D σ H ⟨F, B, A, ρ, m, s, e, h⟩ => ?_
  exact tX_go s e (wp_bind h) fun dx m1 B1 A1 H1 x h1 l1 s1 rx => h1 B1 A1 H1 _ l1 s1 ((e.mono l1).set rx i)
end
end LB

set_option Elab.async false
set_option linter.all false
set_option autoImplicit false
set_option maxRecDepth 100000
set_option maxHeartbeats 2000000
/-! Loops, comprehensions, calls, a def's promise. -/
namespace LB
open PySem PySem.Spec PyProof.Rows L2

/-! ### what is walked -/
/-- the iterator J tells w -/
def JOk (P : Pm) (F B : Hp) (A : Nat → Addr) (n : Nat) (J : It) (w : Wk) : Prop := ∀ i F' B' A' m' H', (∀ a o, F a = some o → F' a = some o ∨ True) → Le B A n B' A' m'.n → SR P F' B' A' m' H' →
  (w i m' = some none → J.stop i H') ∧ ∀ d, w i m' = some (some d) → J.go i H' ∧ ∀ x H'', J.yld i H' x H'' → ∃ B'', Ex B' B'' ∧ SR P F' B'' A' m' H'' ∧ Rep P.K B'' A' m'.n x d
def tXI (P : Pm) (E : XK) (f : SI) : TI := fun σ H R => ∃ F B A ρ m, SR P F B A m H ∧ EnvR P.K B A m.n σ ρ ∧ (f ρ m).wp (fun w m' => ∀ B' A' H' J, Le B A m.n B' A' m'.n → SR P F B' A' m' H' → JOk P F B' A' m'.n J w.1 → R J H') (exV P E F B A m.n)
theorem JOk.le {P : Pm} {F B : Hp} {A : Nat → Addr} {n : Nat} {J : It} {w : Wk} {F' B' : Hp} {A' : Nat → Addr} {n' : Nat} (j : JOk P F B A n J w) (l : Le B A n B' A' n') : JOk P F' B' A' n' J w := fun i F2 B2 A2 m2 H2 _ l2 s2 => j i F2 B2 A2 m2 H2 (fun _ _ _ => Or.inr trivial) (l.trans l2) s2

section
variable {X : Cx} {P : Pm} {E : XK} {pos : Pos}
theorem xs_for {tg iter : Expr} {body : List Stmt} {it : SI} {g : SG} {is : List Nat} {fb : SS} (hp : PassesOwn (model X.prog X.w) X.A X.env X.xe) (hc : X.calm = true) (hi : PI X tg iter (tXI P E it)) (hg : PG X tg (tXG P g is)) (hb : PSs X body (tXS P E fb))
    (hs : ∀ x, foldedSetIterable iter X.env x = pure x := by intro _; rfl) : PS X (.For tg iter body [] pos) (tXS P E (sFor it g fb)) := by
  refine ps_imp (ps_for hp hc hi hg hb hs) fun D σ H ⟨F, B, A, ρ, m, s, e, h⟩ => ?_
  refine ⟨F, B, A, ρ, m, s, e, Rs.wp_mono (wp_bind h) (fun w m1 h1 B1 A1 H1 J l1 s1 jok => ?_) fun _ _ x => x⟩
  refine ⟨fun i fuel σ' H' => ∃ B2 A2 ρ2 m2, Le B A m.n B2 A2 m2.n ∧ Le B1 A1 m1.n B2 A2 m2.n ∧ SR P F B2 A2 m2 H' ∧ EnvR P.K B2 A2 m2.n σ' ρ2 ∧ (forG w.1 g fb fuel i ρ2 m2).wp (okS P F B A m.n D) (exV P E F B A m.n),
    ⟨w.2, B1, A1, ρ, m1, l1, Le.refl, s1, e.mono l1, h1⟩, ?_⟩
  rintro i fuel σ' H' ⟨B2, A2, ρ2, m2, l2, l12, s2, e2, h2⟩
  unfold forG at h2
  obtain ⟨js, jg⟩ := jok i F B2 A2 m2 H' (fun _ _ _ => Or.inr trivial) l12 s2
  split at h2
  · exact h2.elim
  · rename_i hw
    exact .inl ⟨js hw, h2 B2 A2 H' σ' l2 s2 e2⟩
  · rename_i x hw
    obtain ⟨go, yl⟩ := jg x hw
    split at h2
    · exact h2.elim
    · rename_i fuel'
      split at h2
      · exact h2.elim
      · rename_i ρ3 hg3
        refine .inr ⟨go, fun σ3 H3 => ∃ B3 A3 ρ3 m3, Le B A m.n B3 A3 m3.n ∧ Le B1 A1 m1.n B3 A3 m3.n ∧ SR P F B3 A3 m3 H3 ∧ EnvR P.K B3 A3 m3.n σ3 ρ3 ∧ (forG w.1 g fb fuel' (i + 1) ρ3 m3).wp (okS P F B A m.n D) (exV P E F B A m.n),
          fun σ3 H3 q => ⟨fuel', Nat.lt_succ_self _, q⟩, fun v H3 hy => ?_⟩
        obtain ⟨B3, ex3, s3, r3⟩ := yl v H3 hy
        have l3 : Le B2 A2 m2.n B3 A2 m2.n := Le.base ex3
        refine ⟨B3, A2, m2.n, ρ2, x, ρ3, e2.mono l3, s3.ex, r3, hg3, fun σ4 e4 _ => ?_⟩
        refine tXS_go s3 e4 (wp_le (l2.trans l3) (wp_bind h2)) fun r m5 h5 B5 A5 H5 σ5 l5 s5 e5 => ?_
        have la := (l2.trans l3).trans l5
        have lb := (l12.trans l3).trans l5
        obtain ⟨fl, ρ5⟩ := r
        cases fl with
        | nx => exact ⟨B5, A5, ρ5, m5, la, lb, s5, e5, h5⟩
        | ct => exact ⟨B5, A5, ρ5, m5, la, lb, s5, e5, h5⟩
        | bk => exact h5 B5 A5 H5 σ5 la s5 e5
        | rt d => exact h5 B5 A5 H5 σ5 la s5 e5
/-! ### comprehensions -/
theorem noex_wp {α : Type} {a : M α} {m : Mem} {q : α → Mem → Prop} {e e' : Er → Mem → Prop} (h : (noex a m).wp q e) : (a m).wp q e' := by
  unfold noex at h
  cases ha : a m with
  | bad => rw [ha] at h; exact h
  | ok x m1 => rw [ha] at h; exact h
  | ex x m1 => rw [ha] at h; exact h.elim
theorem wipe_wipe (σ : L2.St) : ∀ vs : List Nat, L2.wipe (L2.wipe σ vs) vs = L2.wipe σ vs := by
  have gen : ∀ (us vs : List Nat) (τ : L2.St), (∀ v ∈ us, v ∈ vs) → L2.wipe (L2.wipe τ us) vs = L2.wipe τ vs := by
    intro us
    induction us with
    | nil => intro vs τ _; rfl
    | cons u us ih =>
      intro vs τ h
      show L2.wipe ((L2.wipe τ us).set u none) vs = L2.wipe τ vs
      rw [wipe_set _ (h u List.mem_cons_self)]
      exact ih vs τ fun v hv => h v (List.mem_cons_of_mem _ hv)
  intro vs
  exact gen vs vs σ fun _ h => h
/-- the frame with the list that is being made -/
theorem SR.frame {P : Pm} {F B : Hp} {A : Nat → Addr} {m : Mem} {H : Hp} {p : Addr} {o : HO} (s : SR P F B A m H) (h : H p = none) (ho : NoT o := by intro ps e; cases e) : SR P (upd F p o) B A m (upd H p o) := by
  have hb : B p = none := s.ex.back h
  have live : ∀ k w, k < m.n → m.get k = some w → A k ≠ p := fun k w hk hw => by
    obtain ⟨x, hx⟩ := (s.at_ k w hk hw).2.at
    exact ne_of_none hx h
  refine ⟨s.ex.mut hb, fun a u e => ?_, fun k u hk hu => ?_, s.inj, s.tb.ext (Ex.new h), s.nb, nb_upd s.nf ho, fun p q => Ex.new h _ _ (s.xd p q)⟩
  · by_cases ha : a = p
    · rw [ha, upd_same] at e ⊢
      exact ⟨e, hb, live⟩
    · rw [upd_ne ha] at e ⊢
      exact s.fr a u e
  · obtain ⟨h1, h2⟩ := s.at_ k u hk hu
    exact ⟨h1, h2.mono Le.refl fun x hx => by rw [upd_ne (live k u hk hu)]; exact hx⟩
/-- the list that is being made is changed -/
theorem SR.reframe {P : Pm} {F B : Hp} {A : Nat → Addr} {m : Mem} {H : Hp} {p : Addr} {o u : HO} (s : SR P (upd F p o) B A m H) (hc : ∀ c q, o ≠ LamX.CodeO c q := by first | (intro c q e; unfold LamX.CodeO at e; cases e; done) | exact fun c q e => codeO_dct e.symm) (hx : ∀ fs, o ≠ .xd fs := by intro fs e; cases e) (ho : NoT u := by intro ps e; cases e) : SR P (upd F p u) B A m (upd H p u) := by
  obtain ⟨h1, hb, live⟩ := s.fr p o upd_same
  have h2 : ∀ ps, H p ≠ some (.tbl ps) := fun ps e => s.nf p ps (by rw [upd_same, ← h1]; exact e)
  have h3 : ∀ a ps, upd F p u a ≠ some (.tbl ps) := fun a ps e => by
    by_cases ha : a = p
    · rw [ha, upd_same] at e
      exact ho ps (Option.some.inj e)
    · rw [upd_ne ha] at e
      exact s.nf a ps (by rw [upd_ne ha]; exact e)
  refine ⟨s.ex.mut hb, fun a w e => ?_, fun k w hk hw => ?_, s.inj, tabs_upd s.tb h2 (fun c q e => hc c q (Option.some.inj (h1.symm.trans e))), s.nb, h3, xd_upd s.xd (fun fs e => hx fs (Option.some.inj (h1.symm.trans e)))⟩
  · by_cases ha : a = p
    · rw [ha, upd_same] at e ⊢
      exact ⟨e, hb, live⟩
    · rw [upd_ne ha] at e ⊢
      exact s.fr a w (by rw [upd_ne ha]; exact e)
  · obtain ⟨h1, h2⟩ := s.at_ k w hk hw
    exact ⟨h1, h2.mono Le.refl fun x hx => by rw [upd_ne (live k w hk hw)]; exact hx⟩
theorem SR.unframe {P : Pm} {F B : Hp} {A : Nat → Addr} {m : Mem} {H : Hp} {p : Addr} {o : HO} (s : SR P (upd F p o) B A m H) (hF : F p = none) : SR P F B A m H :=
  ⟨s.ex, fun a w e => s.fr a w (by rw [upd_ne (ne_of_none e hF)]; exact e), s.at_, s.inj, s.tb, s.nb, fun a ps e => s.nf a ps (by rw [upd_ne (ne_of_none e hF)]; exact e), s.xd⟩
/-- what was framed will change no more -/
theorem SR.toBase {P : Pm} {F B : Hp} {A : Nat → Addr} {m : Mem} {H : Hp} {p : Addr} {o : HO} (s : SR P (upd F p o) B A m H) (hF : F p = none) : SR P F (upd B p o) A m H ∧ Ex B (upd B p o) := by
  obtain ⟨h1, hb, live⟩ := s.fr p o upd_same
  refine ⟨⟨fun a u e => ?_, fun a w e => ?_, fun k w hk hw => ?_, s.inj, s.tb, nb_upd s.nb (fun ps e => s.nf p ps (by rw [upd_same, e])), fun a ps e => s.nf a ps (by rw [upd_ne (ne_of_none e hF)]; exact e), s.xd⟩, Ex.new hb⟩
  · by_cases ha : a = p
    · rw [ha, upd_same] at e
      cases e
      rw [ha]
      exact h1
    · rw [upd_ne ha] at e
      exact s.ex a u e
  · have ne : a ≠ p := ne_of_none e hF
    obtain ⟨h1, h2, h3⟩ := s.fr a w (by rw [upd_ne ne]; exact e)
    exact ⟨h1, by rw [upd_ne ne]; exact h2, h3⟩
  · obtain ⟨h1, h2⟩ := s.at_ k w hk hw
    exact ⟨by rw [upd_ne (live k w hk hw)]; exact h1, h2.mono (Le.base (Ex.new hb)) fun _ q => q⟩
/-- the reading of a comprehension: the list that comes of it stands framed at a new address -/
theorem comp_core {it : SI} {g : SG} {is own : List Nat} {ft : SB} {fe : SE} {σ : L2.St} {H : Hp} {Q : VK} {F B : Hp} {A : Nat → Addr} {ρ : Ev} {m : Mem} {q : List D → Mem → Prop} (hown : ∀ i ∈ is, i ∈ own)
    (s : SR P F B A m H) (e : EnvR P.K B A m.n σ ρ) (h : (compL it g ft fe own ρ m).wp q (exV P E F B A m.n))
    (k : ∀ ds m1 B1 A1 H1 p vs, q ds m1 → Le B A m.n B1 A1 m1.n → F p = none → SR P (upd F p (.lst vs)) B1 A1 m1 H1 → Reps P.K B1 A1 m1.n vs ds → Q (.ref p) H1) :
    tLc (tXI P E it) (tXG P g is) (tXT P E0 ft) (tX P E0 fe) own σ H Q := by
  refine ⟨F, B, A, ρ, m, s, e, Rs.wp_mono (wp_bind h) (fun w m1 h1 B1 A1 H1 J l1 s1 jok => ?_) fun _ _ x => x⟩
  intro Dl hD
  have hF : F Dl = none := by
    cases hf : F Dl with
    | none => rfl
    | some o =>
      have := (s1.fr Dl o hf).1
      rw [hD] at this
      cases this
  refine ⟨fun i fuel H' => ∃ B2 A2 m2 acc vs, Le B A m.n B2 A2 m2.n ∧ Le B1 A1 m1.n B2 A2 m2.n ∧ SR P (upd F Dl (.lst vs)) B2 A2 m2 H' ∧ Reps P.K B2 A2 m2.n vs acc ∧ (compG w.1 g ft fe (wipeE ρ own) fuel i acc m2).wp q (exV P E F B A m.n),
    ⟨w.2, B1, A1, m1, [], [], l1, Le.refl, s1.frame hD, .nil, h1⟩, ?_⟩
  rintro i fuel H' ⟨B2, A2, m2, acc, vs, l2, l12, s2, racc, h2⟩
  unfold compG at h2
  obtain ⟨js, jg⟩ := jok i _ B2 A2 m2 H' (fun _ _ _ => Or.inr trivial) l12 s2
  split at h2
  · exact h2.elim
  · rename_i hw
    exact .inl ⟨js hw, k acc m2 B2 A2 H' Dl vs h2 l2 hF s2 racc⟩
  · rename_i x hw
    obtain ⟨go, yl⟩ := jg x hw
    split at h2
    · exact h2.elim
    · rename_i fuel'
      split at h2
      · exact h2.elim
      · rename_i ρ3 hg3
        refine .inr ⟨go, fun H3 => ∃ B3 A3 m3 acc vs, Le B A m.n B3 A3 m3.n ∧ Le B1 A1 m1.n B3 A3 m3.n ∧ SR P (upd F Dl (.lst vs)) B3 A3 m3 H3 ∧ Reps P.K B3 A3 m3.n vs acc ∧ (compG w.1 g ft fe (wipeE ρ own) fuel' (i + 1) acc m3).wp q (exV P E F B A m.n),
          fun H3 z => ⟨fuel', Nat.lt_succ_self _, z⟩, fun v H3 hy => ?_⟩
        obtain ⟨B3, ex3, s3, r3⟩ := yl v H3 hy
        have l3 : Le B2 A2 m2.n B3 A2 m2.n := Le.base ex3
        have e3 : EnvR P.K B3 A2 m2.n (L2.wipe σ own) (wipeE ρ own) := (e.mono (l2.trans l3)).wipe own
        refine ⟨B3, A2, m2.n, _, x, ρ3, e3, s3.ex, r3, hg3, fun σ4 e4 hwp => ⟨by rw [hwp own hown, wipe_wipe], ?_⟩⟩
        have h3 := noex_wp (e' := exV P E0 (upd F Dl (.lst vs)) B3 A2 m2.n) (wp_bind h2)
        refine tXT_go s3 e4 h3 fun b m5 B5 A5 H5 h5 l5 s5 => ?_
        have la := (l2.trans l3).trans l5
        have lb := (l12.trans l3).trans l5
        cases b with
        | false =>
          rw [if_neg Bool.false_ne_true] at h5 ⊢
          exact ⟨B5, A5, m5, acc, vs, la, lb, s5, (racc.mono l3).mono l5, h5⟩
        | true =>
          rw [if_pos rfl] at h5 ⊢
          have h6 := noex_wp (e' := exV P E0 (upd F Dl (.lst vs)) B5 A5 m5.n) (wp_bind h5)
          refine tX_go s5 (e4.mono l5) h6 fun d m7 B7 A7 H7 y h7 l7 s7 r7 => ?_
          have lc := la.trans l7
          have ld := lb.trans l7
          by_cases hl : acc.length < sizeLine
          · rw [if_pos hl] at h7
            have rv : Reps P.K B7 A7 m7.n vs acc := ((racc.mono l3).mono l5).mono l7
            refine ⟨vs, (s7.fr Dl _ upd_same).1, by rw [racc.length]; exact hl, B7, A7, m7, acc ++ [d], vs ++ [y], lc, ld, s7.reframe, rv.append (.cons r7 .nil), h7⟩
          · rw [if_neg hl] at h7
            exact h7.elim
theorem xe_comp {elt tg iter : Expr} {ifs : List Expr} {scope : Scope} {own : List (Str × Nat)} {it : SI} {g : SG} {is : List Nat} {ft : SB} {fe : SE} (hc : X.calm = true) (hN : X.N.Nodup) (hi : PI X tg iter (tXI P E it)) (ok : BlkOk X.N X.env.scope scope own)
    (hg : ∀ (s : Shared) (H : Hp) (C : Addr) (cl : List (Str × Addr)) (fp : List Addr), PG (X.blk s H scope (compEnvC scope cl C X.env) fp) tg (tXG P g is)) (ht : ∀ (s : Shared) (H : Hp) (C : Addr) (cl : List (Str × Addr)) (fp : List Addr), PTs (X.blk s H scope (compEnvC scope cl C X.env) fp) ifs (tXT P E0 ft))
    (he : ∀ (s : Shared) (H : Hp) (C : Addr) (cl : List (Str × Addr)) (fp : List Addr), PE (X.blk s H scope (compEnvC scope cl C X.env) fp) elt (tX P E0 fe)) (hown : ∀ i ∈ is, i ∈ own.map (·.2)) (hs : ∀ x, foldedSetIterable iter X.env x = pure x := by intro _; rfl) :
    PE X (.ListComp elt [⟨tg, iter, ifs, 0⟩] scope pos) (tX P E (comp it g ft fe (own.map (·.2)))) := by
  refine pe_imp (pe_lc hc hN hi ok hg ht he hs) fun σ H Q ⟨F, B, A, ρ, m, s, e, h⟩ => ?_
  refine comp_core hown s e (wp_bind h) fun ds m1 B1 A1 H1 p vs h1 l1 hF s1 rs => ?_
  obtain ⟨s2, ex⟩ := s1.toBase hF
  exact h1 _ A1 H1 (.ref p) (l1.trans (Le.base ex)) s2 (.lst upd_same (rs.mono (Le.base ex)))
theorem xts_nil : PTs X [] (tXT P E LB.tYes) := by
  refine ⟨fun pins s σ H Q I ⟨F, B, A, ρ, m, sr, e, h⟩ => pts_nil.run pins s σ H Q I ?_⟩
  exact h B A H Le.refl sr
theorem xts_one {c : Expr} {ft : SB} (h : PT X c (tXT P E ft)) : PTs X [c] (tXT P E ft) := pts_one h
end

/-! ### calls, promises -/
/-- the promise of a def that is read as f -/
def spF (P : Pm) (f : Fn) (np : Nat) : Sp := fun vs H Q E => ∃ F B A m ds, SR P F B A m H ∧ Reps P.K B A m.n vs ds ∧ ds.length = np ∧ (f ds m).wp (okD P F B A m.n Q) (exV P E F B A m.n)
section
variable {X : Cx} {P : Pm} {E : XK} {pos : Pos} {k : Nat} {f : Addr} {fd : FuncData} {ps : List Str} {mf : Fn} {x : Str} {fas : SA}
/-- the call, its arguments counted -/
theorem callN_imp {np : Nat} {mf : Fn} {σ : L2.St} {H : Hp} {Q : VK} (h : tX P E (callN np mf fas) σ H Q) : tXA P E fas σ H fun vs H1 => spF P mf np vs H1 Q E := by
  obtain ⟨F, B, A, ρ, m, s, e, h⟩ := h
  refine tXA_go s e (wp_bind h) fun ds m1 B1 A1 H1 vs h1 l1 s1 rs => ?_
  by_cases hl : ds.length = np
  · rw [if_pos hl] at h1
    exact ⟨F, B1, A1, m1, ds, s1, rs, hl, Rs.wp_mono (wp_le l1 h1) (fun _ _ q => q.le l1) fun _ _ q => q⟩
  · rw [if_neg hl] at h1
    exact h1.elim
theorem xe_call {np : Nat} {e : Expr} {es : List Expr} {p : Pos} (G : FnOk X.prog X.w X.K X.mg X.base (L2.CX X.prog X.w) k f fd ps (spF P mf np)) (hr : Room k X.A) (hg : Gl X x) (hm : X.mg x = some (.ref f)) (hk : PySem.W.keepIn X.K (.ref f) = true) (hb : Binds X.K fd ps [])
    (hx : Passes (L2.CX X.prog X.w) X E) (ha : PA X (e :: es) (tXA P E fas)) (hdb : (x == ("__debug__" : Str)) = false := by decide)
    (he : starEach (e :: es) X.env = (false, eval e X.env) :: starEach es X.env := by rfl) (hpl : (backTo pos (starEach es X.env)).any (·.1) = false := by rfl) :
    PE X (.Call (.Name x p) (e :: es) [] pos) (tX P E (callN np mf fas)) := by
  refine pe_imp (pe_call G hr hg hm hk hb .nil hx ha hdb he hpl) fun σ H Q h => ?_
  show tXA P E fas σ H fun vs H1 => spF P mf np (vs ++ []) H1 Q E
  have h2 := callN_imp h
  simpa only [List.append_nil] using h2
end
end LB

set_option Elab.async false
set_option linter.all false
set_option autoImplicit false
set_option maxRecDepth 100000
set_option maxHeartbeats 2000000
/-! The operations on data, and a def's promise from its body. -/
namespace LB
open PySem PySem.Spec PyProof.Rows L2

/-! ### a def's promise -/
section
variable {K : PySem.W.Frag} {B : Hp} {A : Nat → Addr} {n n' : Nat}
mutual
theorem Rep.blw : ∀ {v : V} {d : D}, Rep K B A n v d → d.blw n = true
  | _, _, .non => rfl
  | _, _, .bl b => rfl
  | _, _, .int i => rfl
  | _, _, .str x => rfl
  | _, _, .tup _ r => Reps.blw r
  | _, _, .lst _ r => Reps.blw r
  | _, _, .loc h _ => decide_eq_true h
  | _, _, .ref => rfl
  | _, _, .scr _ => rfl
theorem Reps.blw : ∀ {vs : List V} {ds : List D}, Reps K B A n vs ds → blws n ds = true
  | _, _, .nil => rfl
  | _, _, .cons r t => by
    show (_ && _) = true
    rw [Rep.blw r, Reps.blw t]
    rfl
end
mutual
theorem Rep.cut : ∀ {v : V} {d : D}, Rep K B A n v d → d.blw n' = true → Rep K B A n' v d
  | _, _, .non, _ => .non
  | _, _, .bl b, _ => .bl b
  | _, _, .int i, _ => .int i
  | _, _, .str x, _ => .str x
  | _, _, .tup h r, q => .tup h (Reps.cut r q)
  | _, _, .lst h r, q => .lst h (Reps.cut r q)
  | _, _, .loc _ e, q => .loc (of_decide_eq_true q) e
  | _, _, .ref, _ => .ref
  | _, _, .scr h, _ => .scr h
theorem Reps.cut : ∀ {vs : List V} {ds : List D}, Reps K B A n vs ds → blws n' ds = true → Reps K B A n' vs ds
  | _, _, .nil, _ => .nil
  | _, _, .cons (d := d) (ds := ds) r t, q => by
    have z : (d.blw n' && blws n' ds) = true := q
    rw [Bool.and_eq_true] at z
    exact .cons (Rep.cut r z.1) (Reps.cut t z.2)
end
mutual
theorem D.blw_mono (h : n ≤ n') : ∀ d : D, d.blw n = true → d.blw n' = true
  | .non, _ => rfl
  | .bl _, _ => rfl
  | .int _, _ => rfl
  | .str _, _ => rfl
  | .ref _, _ => rfl
  | .scr _, _ => rfl
  | .loc k, q => decide_eq_true (Nat.lt_of_lt_of_le (of_decide_eq_true q) h)
  | .tup xs, q => blws_mono h xs q
  | .lst xs, q => blws_mono h xs q
theorem blws_mono (h : n ≤ n') : ∀ ds : List D, blws n ds = true → blws n' ds = true
  | [], _ => rfl
  | d :: ds, q => by
    have z : (d.blw n && blws n ds) = true := q
    rw [Bool.and_eq_true] at z
    show (_ && _) = true
    rw [D.blw_mono h d z.1, blws_mono h ds z.2]
    rfl
end
end
theorem MO.blw_mono {n n' : Nat} (h : n ≤ n') (o : MO) (q : o.blw n = true) : o.blw n' = true := by
  cases o with
  | lst xs => exact blws_mono h xs q
  | dct kvs =>
    have z : kvs.all (fun p => p.2.blw n) = true := q
    rw [List.all_eq_true] at z
    show kvs.all (fun p => p.2.blw n') = true
    rw [List.all_eq_true]
    exact fun p hp => D.blw_mono h _ (z p hp)
  | dcn kvs =>
    have z : kvs.all (fun p => p.2.blw n) = true := q
    rw [List.all_eq_true] at z
    show kvs.all (fun p => p.2.blw n') = true
    rw [List.all_eq_true]
    exact fun p hp => D.blw_mono h _ (z p hp)
  | obj c fs =>
    have z : fs.all (fun p => p.2.blw n) = true := q
    rw [List.all_eq_true] at z
    show fs.all (fun p => p.2.blw n') = true
    rw [List.all_eq_true]
    exact fun p hp => D.blw_mono h _ (z p hp)
theorem paired_blw {κ : Type} {K : PySem.W.Frag} {B : Hp} {A : Nat → Addr} {n : Nat} : ∀ {kvs : List (κ × V)} {kds : List (κ × D)}, Paired (fun (p : κ × V) (q : κ × D) => p.1 = q.1 ∧ Rep K B A n p.2 q.2) kvs kds → ∀ p ∈ kds, p.2.blw n = true
  | _, _, .nil, p, hp => nomatch hp
  | _, _, .cons r t, p, hp => by
    rcases List.mem_cons.mp hp with rfl | hp
    · exact r.2.blw
    · exact paired_blw t p hp
theorem paired_cut {κ : Type} {K : PySem.W.Frag} {B : Hp} {A : Nat → Addr} {n n' : Nat} : ∀ {kvs : List (κ × V)} {kds : List (κ × D)}, Paired (fun (p : κ × V) (q : κ × D) => p.1 = q.1 ∧ Rep K B A n p.2 q.2) kvs kds → (∀ p ∈ kds, p.2.blw n' = true) →
    Paired (fun (p : κ × V) (q : κ × D) => p.1 = q.1 ∧ Rep K B A n' p.2 q.2) kvs kds
  | _, _, .nil, _ => .nil
  | _, _, .cons r t, h => .cons ⟨r.1, r.2.cut (h _ List.mem_cons_self)⟩ (paired_cut t fun p hp => h p (List.mem_cons_of_mem _ hp))
theorem pairedN_blw {K : PySem.W.Frag} {B : Hp} {A : Nat → Addr} {n : Nat} : ∀ {xs : NEs} {kds : List (NestedKey × D)}, Paired (fun (p : NestedKey × Addr × Value) (q : NestedKey × D) => p.1 = q.1 ∧ ∃ v, RelV v p.2.2 ∧ Rep K B A n v q.2) xs kds → ∀ p ∈ kds, p.2.blw n = true
  | _, _, .nil, p, hp => nomatch hp
  | _, _, .cons ⟨_, _, _, r⟩ t, p, hp => by
    rcases List.mem_cons.mp hp with rfl | hp
    · exact r.blw
    · exact pairedN_blw t p hp
theorem pairedN_cut {K : PySem.W.Frag} {B : Hp} {A : Nat → Addr} {n n' : Nat} : ∀ {xs : NEs} {kds : List (NestedKey × D)}, Paired (fun (p : NestedKey × Addr × Value) (q : NestedKey × D) => p.1 = q.1 ∧ ∃ v, RelV v p.2.2 ∧ Rep K B A n v q.2) xs kds → (∀ p ∈ kds, p.2.blw n' = true) →
    Paired (fun (p : NestedKey × Addr × Value) (q : NestedKey × D) => p.1 = q.1 ∧ ∃ v, RelV v p.2.2 ∧ Rep K B A n' v q.2) xs kds
  | _, _, .nil, _ => .nil
  | _, _, .cons ⟨e, v, rv, r⟩ t, h => .cons ⟨e, v, rv, r.cut (h _ List.mem_cons_self)⟩ (pairedN_cut t fun p hp => h p (List.mem_cons_of_mem _ hp))
section
variable {P : Pm} {F B B' : Hp} {A A' : Nat → Addr} {n n' : Nat} {H : Hp} {a : Addr} {o : MO}
theorem RepO.blw (r : RepO P B A n H a o) : o.blw n = true := by
  cases r with
  | lst _ r => exact r.blw
  | dct _ r => exact List.all_eq_true.mpr (paired_blw r)
  | dcn _ _ r => exact List.all_eq_true.mpr (pairedN_blw r)
  | obj _ r => exact List.all_eq_true.mpr (paired_blw r)
theorem RepO.cut (r : RepO P B A n H a o) (h : o.blw n' = true) : RepO P B A n' H a o := by
  cases r with
  | lst e r => exact .lst e (r.cut h)
  | dct e r => exact .dct e (paired_cut r (List.all_eq_true.mp h))
  | dcn e k r => exact .dcn e k (pairedN_cut r (List.all_eq_true.mp h))
  | obj e r => exact .obj e (paired_cut r (List.all_eq_true.mp h))
theorem SR.cut {m0 m1 m2 : Mem} {H0 H2 : Hp} {F0 : Hp} (s0 : SR P F0 B A m0 H0) (s2 : SR P F B' A' m2 H2) (t : Tr m0 m1 m2) : SR P F B' A' m1 H2 := by
  obtain ⟨h0, h1, h⟩ := t
  have old : ∀ k u, k < m1.n → m1.get k = some u → m2.get k = some u := fun k u hk hu => by
    rcases h k hk with e | e
    · rw [e] at hu
      cases hu
    · rw [← e.1]
      exact hu
  refine ⟨s2.ex, fun a o e => ⟨(s2.fr a o e).1, (s2.fr a o e).2.1, fun k u hk hu => (s2.fr a o e).2.2 k u (Nat.lt_of_lt_of_le hk h1) (old k u hk hu)⟩, fun k o hk ho => ?_,
    fun j k o u hj hk ho hu e => s2.inj j k o u (Nat.lt_of_lt_of_le hj h1) (Nat.lt_of_lt_of_le hk h1) (old j o hj ho) (old k u hk hu) e, s2.tb, s2.nb, s2.nf, s2.xd⟩
  obtain ⟨k1, k2⟩ := s2.at_ k o (Nat.lt_of_lt_of_le hk h1) (old k o hk ho)
  refine ⟨k1, k2.cut ?_⟩
  rcases h k hk with e | ⟨_, e⟩
  · rw [e] at ho
    cases ho
  · rcases e with ⟨e1, e2⟩ | e
    · rw [e2] at ho
      exact MO.blw_mono h0 o (s0.at_ k o e1 ho).2.blw
    · exact e o ho
end
section
variable {Pg : Program} {w : World} {K : PySem.W.Frag} {mg : Str → Option Value} {base : Heap} {P : Pm}
/-- THE RULE for a def: its body read as fb, which tells what f tells -/
theorem ok_fnL {x qual : Str} {st : Stmt} {f : Addr} {fd : FuncData} {N ps : List Str} {k : Nat} {mf : Fn} {fb : SS} (Fn0 : Fun K x qual st f fd) (S : FnScope N ps (defScope st)) (hm : ∀ ds m, ds.length = ps.length → LeR m (mf ds m) (run N.length fb ds m))
    (hb : ∀ (cdv : Value) (A : Around) (outer : List Env) (s : Shared) (H : Hp) (E : XK), fd.code = cdv → Room k (A.deeper (envOfC qual (defScope st) s.heap.objs.size f cdv)) →
      PSs (cxOf (L2.CX Pg w) Pg w K mg base N qual (defScope st) f cdv A outer s H E) (defBody st) (tXS P E fb)) : FnOk Pg w K mg base (L2.CX Pg w) (k + 1) f fd ps (spF P mf ps.length) := by
  obtain ⟨oc, od, kV, doc, pm, an, cdv, ct, osl, rfl, lk, hcd⟩ := Fn0.ex
  refine fn_of lk hcd S (fun vs H Q E ⟨F, B, A, m, ds, s, r, hl, h⟩ => by rw [r.length, hl]) fun A outer s H vs Q E hr ⟨F, B, A0, m, ds, sr, r, hl, h⟩ => ⟨tXS P E fb, hb cdv A outer s H E rfl hr, ?_⟩
  refine ⟨F, B, A0, LB.start N.length ds, m, sr, .start r, ?_⟩
  have hq : (run N.length fb ds m).wp (fun d m' => ∀ B' A' H' v, Le B A0 m.n B' A' m'.n → SR P F B' A' m' H' → Rep P.K B' A' m'.n v d → Q v H') (exV P E F B A0 m.n) := by
    have z := hm ds m hl
    generalize mf ds m = r1 at z h
    generalize run N.length fb ds m = r2 at z
    cases z with
    | bad => exact h.elim
    | same => exact h
    | ok d m1 m2 t hb => exact fun B' A' H' v l s' rv => h B' A' H' v ⟨l.ex, t.1, l.aa⟩ (sr.cut s' t) (rv.cut hb)
    | ex e m1 m2 t hb =>
      refine fun B' A' H' c dd l s' rx => h B' A' H' c dd ⟨l.ex, t.1, l.aa⟩ (sr.cut s' t) ⟨rx.1, ?_⟩
      have q2 := rx.2
      cases hf : e.fld with
      | none =>
        rw [hf] at q2
        exact q2
      | some d =>
        rw [hf] at q2
        obtain ⟨a, v, e1, e2, rv⟩ := q2
        exact ⟨a, v, e1, e2, rv.cut (hb d hf)⟩
  refine Rs.wp_mono (wp_bind hq) (fun r m1 h1 B1 A1 H1 σ1 l1 s1 e1 => ?_) fun _ _ x => x
  obtain ⟨fl, ρ1⟩ := r
  cases fl with
  | nx => exact h1 B1 A1 H1 .non l1 s1 .non
  | rt d => exact fun v rv => h1 B1 A1 H1 v l1 s1 rv
  | bk => exact h1.elim
  | ct => exact h1.elim
theorem ok_fn {x qual : Str} {st : Stmt} {f : Addr} {fd : FuncData} {N ps : List Str} {k : Nat} {mf : Fn} {fb : SS} (Fn0 : Fun K x qual st f fd) (S : FnScope N ps (defScope st)) (hm : ∀ ds m, ds.length = ps.length → LeR m (mf ds m) (run N.length fb ds m))
    (hb : ∀ (cdv : Value) (A : Around) (outer : List Env) (s : Shared) (H : Hp) (E : XK), Room k (A.deeper (envOfC qual (defScope st) s.heap.objs.size f cdv)) →
      PSs (cxOf (L2.CX Pg w) Pg w K mg base N qual (defScope st) f cdv A outer s H E) (defBody st) (tXS P E fb)) : FnOk Pg w K mg base (L2.CX Pg w) (k + 1) f fd ps (spF P mf ps.length) :=
  ok_fnL Fn0 S hm fun cdv A outer s H E _ hr => hb cdv A outer s H E hr
end

/-! ### operations -/
section
variable {P : Pm} {F B : Hp} {A : Nat → Addr} {m : Mem} {H : Hp} {v : V} {d : D}
theorem lst_of {ds : List D} (s : SR P F B A m H) (r : Rep P.K B A m.n v d) (h : lstOf m d = some ds) : ∃ a vs, v = .ref a ∧ H a = some (.lst vs) ∧ Reps P.K B A m.n vs ds := by
  cases r with
  | lst hb rs =>
    cases h
    exact ⟨_, _, rfl, s.ex _ _ hb, rs⟩
  | loc hk ea =>
    subst ea
    unfold lstOf at h
    simp only [if_pos hk] at h
    split at h
    · rename_i xs hg
      cases h
      obtain ⟨_, ro⟩ := s.at_ _ _ hk hg
      cases ro with
      | lst h1 h2 => exact ⟨_, _, rfl, h1, h2⟩
    · cases h
  | _ => cases h
theorem sq_of {ds : List D} (s : SR P F B A m H) (r : Rep P.K B A m.n v d) (h : sqOf m d = some ds) : ∃ a vs, v = .ref a ∧ (SqL P.K H a vs ∨ SqT P.K H a vs) ∧ Reps P.K B A m.n vs ds := by
  cases r with
  | tup hq rs =>
    cases h
    exact ⟨_, _, rfl, .inr (s.ex.t hq), rs⟩
  | lst hb rs =>
    obtain ⟨a, vs, e, h1, h2⟩ := lst_of s (.lst hb rs) h
    exact ⟨a, vs, e, .inl (SqL.of h1), h2⟩
  | @scr a ns hq =>
    cases h
    refine ⟨a, _, rfl, .inl (s.ex.l hq), ?_⟩
    have gen : ∀ ns : List Int, Reps P.K B A m.n (ns.map V.int) (ns.map D.int) := by
      intro ns
      induction ns with
      | nil => exact .nil
      | cons i r ih => exact .cons (.int i) ih
    exact gen ns
  | loc hk ea =>
    obtain ⟨a, vs, e, h1, h2⟩ := lst_of s (.loc hk ea) h
    exact ⟨a, vs, e, .inl (SqL.of h1), h2⟩
  | _ => cases h
theorem op_int {f : Int → Int → D} {g : Int → Int → V} (hf : ∀ i j (B : Hp) (A : Nat → Addr) n, Rep P.K B A n (g i j) (f i j)) : Op2 P (g2I f) (rI0 g) := by
  intro F B A m H x y dx dy z Q s rx ry hz k
  cases rx with
  | int i =>
    cases ry with
    | int j =>
      cases hz
      exact ⟨i, j, rfl, rfl, k B H _ (Ex.refl B) s (hf i j B A m.n)⟩
    | _ => cases hz
  | _ => cases hz
theorem op_intC {c : Int → Int → Bool} {C : Int → Int → Prop} (hc : ∀ i j, c i j = true → C i j) {f : Int → Int → D} {g : Int → Int → V} (hf : ∀ i j (B : Hp) (A : Nat → Addr) n, Rep P.K B A n (g i j) (f i j)) : Op2 P (g2IC c f) (rI C g) := by
  intro F B A m H x y dx dy z Q s rx ry hz k
  cases rx with
  | int i =>
    cases ry with
    | int j =>
      simp only [g2IC] at hz
      split at hz
      · rename_i h
        cases hz
        exact ⟨i, j, rfl, rfl, hc i j h, k B H _ (Ex.refl B) s (hf i j B A m.n)⟩
      · cases hz
    | _ => cases hz
  | _ => cases hz
theorem op2_sub : Op2 P gSub (rI0 fun i j => .int (i - j)) := op_int fun _ _ _ _ _ => .int _
theorem op2_lt : Op2 P gLt (rI0 fun i j => .bl (decide (i < j))) := op_int fun _ _ _ _ _ => .bl _
theorem op2_le : Op2 P gLe (rI0 fun i j => .bl (decide (i ≤ j))) := op_int fun _ _ _ _ _ => .bl _
theorem op2_gt : Op2 P gGt (rI0 fun i j => .bl (decide (j < i))) := op_int fun _ _ _ _ _ => .bl _
theorem op2_ge : Op2 P gGe (rI0 fun i j => .bl (decide (j ≤ i))) := op_int fun _ _ _ _ _ => .bl _
theorem s64 {i : Int} (h : small64 i = true) : -(2 ^ 64) < i ∧ i < 2 ^ 64 := by
  unfold small64 at h
  rw [Bool.and_eq_true, decide_eq_true_eq, decide_eq_true_eq] at h
  exact h
theorem op2_mul : Op2 P gMul (rI CMul fun i j => .int (i * j)) := op_intC (fun i j h => by
  rcases Bool.or_eq_true _ _ ▸ h with h | h
  · exact .inl (s64 h)
  · exact .inr (s64 h)) fun _ _ _ _ _ => .int _
theorem op2_mod : Op2 P gMod (rI (fun _ j => j ≠ 0) fun i j => .int (i.fmod j)) := op_intC (fun i j h => of_decide_eq_true h) fun _ _ _ _ _ => .int _
theorem op2_fdiv : Op2 P gFdiv (rI CDivN fun i j => .int (i.fdiv j)) := op_intC (fun i j h => by
  rw [Bool.and_eq_true, decide_eq_true_eq, decide_eq_true_eq] at h
  exact h) fun _ _ _ _ _ => .int _
theorem op2_pow : Op2 P gPow (rI CPow fun i j => .int (i ^ j.toNat)) := op_intC (fun i j h => by
  rw [Bool.and_eq_true, Bool.and_eq_true, decide_eq_true_eq, decide_eq_true_eq, decide_eq_true_eq] at h
  exact ⟨h.1.1, h.1.2, h.2⟩) fun _ _ _ _ _ => .int _
def rAdd (K : PySem.W.Frag) : R2 := fun x y H Q => rI0 (fun i j => .int (i + j)) x y H Q ∨ ((∃ i j, x = .str i ∧ y = .str j ∧ i.length + j.length ≤ sizeLine ∧ Q (.str (i ++ j)) H) ∨ (rCatA K x y H Q ∨ rCat x y H Q))
theorem op_addA {X : Cx} : OpR X (binaryOp .Add) (rAdd X.K) := op_add.or (op_add_str.or (op_catA.or op_cat))
theorem op2_cat {dx dy z : D} {x y : V} {Q : VK} (s : SR P F B A m H) (rx : Rep P.K B A m.n x dx) (ry : Rep P.K B A m.n y dy) (h : (match lstOf m dx, lstOf m dy with
    | some xs, some ys => if xs.length + ys.length ≤ sizeLine then some (D.lst (xs ++ ys)) else none
    | _, _ => none) = some z) (k : ∀ B' H' v, Ex B B' → SR P F B' A m H' → Rep P.K B' A m.n v z → Q v H') : rCat x y H Q := by
  split at h
  · rename_i xs ys hx hy
    split at h
    · rename_i hl
      cases h
      obtain ⟨a, vs, rfl, ha, rs⟩ := lst_of s rx hx
      obtain ⟨b, ws, rfl, hb, rt⟩ := lst_of s ry hy
      refine ⟨a, b, vs, ws, rfl, rfl, ha, hb, by rw [rs.length, rt.length]; exact hl, fun p hp => ?_⟩
      have ex := s.frozenEx (o := .lst (vs ++ ws)) hp
      exact k _ _ _ ex (s.frozen hp) (.lst upd_same ((rs.append rt).mono (Le.base ex)))
    · cases h
  · cases h
theorem op2_add : Op2 P gAdd (rAdd P.K) := by
  intro F B A m H x y dx dy z Q s rx ry hz k
  unfold gAdd at hz
  split at hz
  · rename_i i j
    cases rx
    cases ry
    cases hz
    exact .inl ⟨_, _, rfl, rfl, k B H _ (Ex.refl B) s (.int _)⟩
  · rename_i i j
    cases rx
    cases ry
    split at hz
    · rename_i hl
      cases hz
      exact .inr (.inl ⟨_, _, rfl, rfl, hl, k B H _ (Ex.refl B) s (.str _)⟩)
    · cases hz
  · rename_i xs ys
    cases rx with
    | tup hq rs =>
      cases ry with
      | tup hq' rt =>
        split at hz
        · rename_i hl
          cases hz
          refine .inr (.inr (.inl ⟨_, _, _, _, rfl, rfl, s.ex.t hq, s.ex.t hq', by rw [rs.length, rt.length]; exact hl, fun e => ?_, fun _ e => ?_, fun _ _ p hp => ?_⟩))
          · subst e
            cases rs
            exact k B H _ (Ex.refl B) s (.tup hq' rt)
          · subst e
            cases rt
            rw [List.append_nil] at k
            exact k B H _ (Ex.refl B) s (.tup hq rs)
          · exact k _ _ _ (s.frozenEx hp) (s.frozen hp) (.tup (SqT.of upd_same) ((rs.append rt).mono (Le.base (s.frozenEx hp))))
        · cases hz
  · exact .inr (.inr (.inr (op2_cat s rx ry hz k)))
/-! subscripts -/
theorem ix_eq (n : Nat) (i : Int) : ixD n i = L2.ixN n i := rfl
theorem atD_rep {vs : List V} {ds : List D} {i : Int} {z : D} {n : Nat} (r : Reps P.K B A n vs ds) (h : atD ds i = some z) : ∃ v, L2.atI vs i = some v ∧ Rep P.K B A n v z := by
  unfold atD at h
  unfold L2.atI
  rw [r.length, ← ix_eq]
  cases hj : ixD ds.length i with
  | none => rw [hj] at h; cases h
  | some j =>
    rw [hj] at h
    exact r.get h
theorem op2_ix : Op2 P gIx (L2.rIx P.K) := by
  intro F B A m H x y dx dy z Q s rx ry hz k
  unfold gIx at hz
  split at hz
  · rename_i i
    cases ry
    split at hz
    · rename_i w
      cases rx
      split at hz
      · rename_i hl
        cases hc : atD w.cps.toList i with
        | none => rw [hc] at hz; cases hz
        | some c =>
          rw [hc] at hz
          cases hz
          exact .inr (.inr ⟨w, i, c, rfl, rfl, hl, hc, k B H _ (Ex.refl B) s (.str _)⟩)
      · cases hz
    · cases hs : sqOf m dx with
      | none => rw [hs] at hz; cases hz
      | some ds =>
        rw [hs] at hz
        obtain ⟨a, vs, rfl, hq, rs⟩ := sq_of s rx hs
        obtain ⟨v, hv, rv⟩ := atD_rep rs hz
        rcases hq with hq | hq
        · exact .inl ⟨a, vs, i, v, rfl, rfl, hq, hv, k B H v (Ex.refl B) s rv⟩
        · exact .inr (.inl ⟨a, vs, i, v, rfl, rfl, hq, hv, k B H v (Ex.refl B) s rv⟩)
  · cases hz
/-! equality -/
mutual
theorem isFlat_V : ∀ {v : V} {d : D} {n : Nat}, Rep P.K B A n v d → L2.flatV v = d.isFlat
  | _, _, _, .non => rfl
  | _, _, _, .bl _ => rfl
  | _, _, _, .int _ => rfl
  | _, _, _, .str _ => rfl
  | _, _, _, .tup _ _ => rfl
  | _, _, _, .lst _ _ => rfl
  | _, _, _, .loc _ _ => rfl
  | _, _, _, .ref => rfl
  | _, _, _, .scr _ => rfl
end
theorem eqv_V {v u : V} {d e : D} {n : Nat} (r : Rep P.K B A n v d) (q : Rep P.K B A n u e) (hd : d.isFlat = true) (he : e.isFlat = true) : L2.eqV v u = d.eqv e := by
  cases r <;> cases q <;> first | rfl | (simp only [D.isFlat] at hd he; cases hd) | (simp only [D.isFlat] at hd he; cases he) | (simp only [L2.eqV, D.eqv])
theorem all_flat {n : Nat} : ∀ {vs : List V} {ds : List D}, Reps P.K B A n vs ds → vs.all L2.flatV = ds.all D.isFlat
  | _, _, .nil => rfl
  | _, _, .cons r t => by rw [List.all_cons, List.all_cons, isFlat_V r, all_flat t]
theorem in_V {n : Nat} {v : V} {d : D} (r : Rep P.K B A n v d) (hd : d.isFlat = true) : ∀ {vs : List V} {ds : List D}, Reps P.K B A n vs ds → ds.all D.isFlat = true → L2.inV v vs = inD d ds
  | _, _, .nil, _ => rfl
  | _, _, .cons q t, h => by
    rw [List.all_cons, Bool.and_eq_true] at h
    have ih := in_V r hd t h.2
    unfold L2.inV inD at ih ⊢
    rw [List.any_cons, List.any_cons, ih, eqv_V q r h.1 hd]
theorem op2_isN : Op2 P gIsN (fun x y H Q => y = .non ∧ Q (.bl (decide (x = .non))) H) := by
  intro F B A m H x y dx dy z Q s rx ry hz k
  cases ry with
  | non =>
    refine ⟨rfl, ?_⟩
    cases rx <;> (cases hz; exact k B H _ (Ex.refl B) s (.bl _))
  | _ => cases hz
/-! deep equality -/
mutual
def toPy : D → PyData
  | .non => .none
  | .bl b => .bool b
  | .int i => .int i
  | .str x => .str x
  | .tup xs => .tuple (toPys xs)
  | .lst xs => .list (toPys xs)
  | .loc _ => .none
  | .ref _ => .none
  | .scr _ => .none
def toPys : List D → List PyData
  | [] => []
  | x :: xs => toPy x :: toPys xs
end
mutual
theorem toPy_lay : ∀ d : D, d.plain = true → (toPy d).canLay0 = true
  | .non, _ => by simp [toPy, PyData.canLay0]
  | .bl _, _ => by simp [toPy, PyData.canLay0]
  | .int _, _ => by simp [toPy, PyData.canLay0]
  | .str x, h => by
    have h' : x.cps.all (· < 0x110000) = true := h
    simp only [toPy, PyData.canLay0, PyData.strOk]
    exact h'
  | .tup xs, h => by simp only [toPy, PyData.canLay0]; exact toPys_lay xs h
  | .lst xs, h => by simp only [toPy, PyData.canLay0]; exact toPys_lay xs h
theorem toPys_lay : ∀ ds : List D, plains ds = true → PyData.canLayAll0 (toPys ds) = true
  | [], _ => by simp [toPys, PyData.canLayAll0]
  | d :: ds, h => by
    have z : (d.plain && plains ds) = true := h
    rw [Bool.and_eq_true] at z
    simp only [toPys, PyData.canLayAll0, toPy_lay d z.1, toPys_lay ds z.2, Bool.and_self]
end
mutual
theorem toPy_dep : ∀ d : D, (toPy d).depth = d.dep
  | .non => by simp [toPy, PyData.depth, D.dep]
  | .bl _ => by simp [toPy, PyData.depth, D.dep]
  | .int _ => by simp [toPy, PyData.depth, D.dep]
  | .str _ => by simp [toPy, PyData.depth, D.dep]
  | .loc _ => by simp [toPy, PyData.depth, D.dep]
  | .ref _ => by simp [toPy, PyData.depth, D.dep]
  | .scr _ => by simp [toPy, PyData.depth, D.dep]
  | .tup xs => by simp only [toPy, PyData.depth, D.dep, toPys_dep xs]
  | .lst xs => by simp only [toPy, PyData.depth, D.dep, toPys_dep xs]
theorem toPys_dep : ∀ ds : List D, PyData.depthAll (toPys ds) = deps ds
  | [] => by simp [toPys, PyData.depthAll, deps]
  | d :: ds => by simp only [toPys, PyData.depthAll, deps, toPy_dep d, toPys_dep ds]
end
mutual
theorem toPy_eqv : ∀ d e : D, d.plain = true → e.plain = true → PyData.eqv (toPy d) (toPy e) = d.eqv e
  | .tup xs, .tup ys, h1, h2 => by simp only [toPy, PyData.eqv, D.eqv]; exact toPys_eqv xs ys h1 h2
  | .lst xs, .lst ys, h1, h2 => by simp only [toPy, PyData.eqv, D.eqv]; exact toPys_eqv xs ys h1 h2
  | .non, e, _, h2 => by cases e <;> first | (simp [D.plain] at h2; done) | simp [toPy, PyData.eqv, D.eqv]
  | .bl _, e, _, h2 => by cases e <;> first | (simp [D.plain] at h2; done) | simp [toPy, PyData.eqv, D.eqv]
  | .int _, e, _, h2 => by cases e <;> first | (simp [D.plain] at h2; done) | simp [toPy, PyData.eqv, D.eqv]
  | .str _, e, _, h2 => by cases e <;> first | simp [toPy, PyData.eqv, D.eqv]; done | (simp [D.plain] at h2; done)
  | .tup xs, .non, _, _ => by simp [toPy, PyData.eqv, D.eqv]
  | .tup xs, .bl _, _, _ => by simp [toPy, PyData.eqv, D.eqv]
  | .tup xs, .int _, _, _ => by simp [toPy, PyData.eqv, D.eqv]
  | .tup xs, .str _, _, _ => by simp [toPy, PyData.eqv, D.eqv]
  | .tup xs, .lst _, _, _ => by simp [toPy, PyData.eqv, D.eqv]
  | .lst xs, .non, _, _ => by simp [toPy, PyData.eqv, D.eqv]
  | .lst xs, .bl _, _, _ => by simp [toPy, PyData.eqv, D.eqv]
  | .lst xs, .int _, _, _ => by simp [toPy, PyData.eqv, D.eqv]
  | .lst xs, .str _, _, _ => by simp [toPy, PyData.eqv, D.eqv]
  | .lst xs, .tup _, _, _ => by simp [toPy, PyData.eqv, D.eqv]
theorem toPys_eqv : ∀ xs ys : List D, plains xs = true → plains ys = true → PyData.eqvAll (toPys xs) (toPys ys) = eqvs xs ys
  | [], [], _, _ => by simp [toPys, PyData.eqvAll, eqvs]
  | [], y :: ys, _, _ => by simp [toPys, PyData.eqvAll, eqvs]
  | x :: xs, [], _, _ => by simp [toPys, PyData.eqvAll, eqvs]
  | x :: xs, y :: ys, h1, h2 => by
    have z1 : (x.plain && plains xs) = true := h1
    have z2 : (y.plain && plains ys) = true := h2
    rw [Bool.and_eq_true] at z1 z2
    simp only [toPys, PyData.eqvAll, eqvs, toPy_eqv x y z1.1 z2.1, toPys_eqv xs ys z1.2 z2.2]
end
mutual
theorem dp_of (ex : Ex B H) {n : Nat} : ∀ {v : V} {d : D}, Rep P.K B A n v d → d.plain = true → Dp P.K H v (toPy d)
  | _, _, .non, _ => by simp only [toPy]; exact .non
  | _, _, .bl _, _ => by simp only [toPy]; exact .bl _
  | _, _, .int _, _ => by simp only [toPy]; exact .int _
  | _, _, .str _, _ => by simp only [toPy]; exact .str _
  | _, _, .tup hq r, h => by simp only [toPy]; exact .tup (ex.t hq) (dps_of ex r h)
  | _, _, .lst hb r, h => by simp only [toPy]; exact .lst (SqL.of (ex _ _ hb)) (dps_of ex r h)
  | _, _, .loc _ _, h => by simp [D.plain] at h
  | _, _, .ref, h => by simp [D.plain] at h
  | _, _, .scr _, h => by simp [D.plain] at h
theorem dps_of (ex : Ex B H) {n : Nat} : ∀ {vs : List V} {ds : List D}, Reps P.K B A n vs ds → plains ds = true → DpAll P.K H vs (toPys ds)
  | _, _, .nil, _ => by simp only [toPys]; exact .nil
  | _, _, .cons (d := d) (ds := ds) r t, h => by
    have z : (d.plain && plains ds) = true := h
    rw [Bool.and_eq_true] at z
    simp only [toPys]
    exact .cons (dp_of ex r z.1) (dps_of ex t z.2)
end
theorem dp_res (s : SR P F B A m H) (r : Rep P.K B A m.n v d) (h : (res m d).plain = true) : Dp P.K H v (toPy (res m d)) := by
  cases hs : lstOf m d with
  | some ds =>
    have e : res m d = .lst ds := by unfold res; rw [hs]
    rw [e] at h ⊢
    obtain ⟨a, vs, rfl, ha, rs⟩ := lst_of s r hs
    simp only [toPy]
    exact .lst (SqL.of ha) (dps_of s.ex rs h)
  | none =>
    have e : res m d = d := by unfold res; rw [hs]
    rw [e] at h ⊢
    exact dp_of s.ex r h
theorem dps_res (s : SR P F B A m H) : ∀ {vs : List V} {ds : List D}, Reps P.K B A m.n vs ds → plains (ds.map (res m)) = true → DpAll P.K H vs (toPys (ds.map (res m)))
  | _, _, .nil, _ => by simp only [List.map, toPys]; exact .nil
  | _, _, .cons (d := d) (ds := ds) r t, h => by
    have z : ((res m d).plain && plains (ds.map (res m))) = true := h
    rw [Bool.and_eq_true] at z
    simp only [List.map, toPys]
    exact .cons (dp_res s r z.1) (dps_res s t z.2)
theorem dp_resT (s : SR P F B A m H) (r : Rep P.K B A m.n v d) (h : (resT m d).plain = true) : Dp P.K H v (toPy (resT m d)) := by
  cases r with
  | tup hq rs =>
    simp only [resT, toPy]
    exact .tup (s.ex.t hq) (dps_res s rs h)
  | non => exact dp_res s .non h
  | bl b => exact dp_res s (.bl b) h
  | int i => exact dp_res s (.int i) h
  | str x => exact dp_res s (.str x) h
  | lst hb rs => exact dp_res s (.lst hb rs) h
  | loc hk ha => exact dp_res s (.loc hk ha) h
  | ref => exact dp_res s .ref h
  | scr hq => exact dp_res s (.scr hq) h
theorem dps_resT (s : SR P F B A m H) : ∀ {vs : List V} {ds : List D}, Reps P.K B A m.n vs ds → plains (ds.map (resT m)) = true → DpAll P.K H vs (toPys (ds.map (resT m)))
  | _, _, .nil, _ => by simp only [List.map, toPys]; exact .nil
  | _, _, .cons (d := d) (ds := ds) r t, h => by
    have z : ((resT m d).plain && plains (ds.map (resT m))) = true := h
    rw [Bool.and_eq_true] at z
    simp only [List.map, toPys]
    exact .cons (dp_resT s r z.1) (dps_resT s t z.2)
theorem dp_resU (s : SR P F B A m H) (r : Rep P.K B A m.n v d) (h : (resU m d).plain = true) : Dp P.K H v (toPy (resU m d)) := by
  cases r with
  | tup hq rs =>
    simp only [resU, toPy]
    exact .tup (s.ex.t hq) (dps_resT s rs h)
  | non => exact dp_res s .non h
  | bl b => exact dp_res s (.bl b) h
  | int i => exact dp_res s (.int i) h
  | str x => exact dp_res s (.str x) h
  | lst hb rs => exact dp_res s (.lst hb rs) h
  | loc hk ha => exact dp_res s (.loc hk ha) h
  | ref => exact dp_res s .ref h
  | scr hq => exact dp_res s (.scr hq) h
def rEqA (K : PySem.W.Frag) : R2 := fun x y H Q => L2.rEq x y H Q ∨ rEqD K x y H Q
def rNeA (K : PySem.W.Frag) : R2 := fun x y H Q => L2.rNe x y H Q ∨ rNeD K x y H Q
theorem op_eqA {X : Cx} {k : Nat} (hr : Room k X.A) : OpR X (compareOp .Eq) (rEqA X.K) := op_eq.or (op_eqD (by have := hr.un; omega))
theorem op_neA {X : Cx} {k : Nat} (hr : Room k X.A) : OpR X (compareOp .NotEq) (rNeA X.K) := op_ne.or (op_neD (by have := hr.un; omega))
theorem shaped_of {d : D} (h1 : d.plain = true) (h2 : d.dep ≤ 60) : SeqAt.shaped (toPy d) = true := by
  unfold SeqAt.shaped
  rw [toPy_lay d h1, toPy_dep]
  simp only [Bool.true_and, decide_eq_true_eq]
  omega
theorem eq_split {x y : V} {dx dy : D} {b : Bool} (s : SR P F B A m H) (rx : Rep P.K B A m.n x dx) (ry : Rep P.K B A m.n y dy) (h : eqOf m dx dy = some b) :
    (L2.scal x y = true ∧ decide (x = y) = b) ∨ ∃ d e, Dp P.K H x d ∧ Dp P.K H y e ∧ SeqAt.shaped d = true ∧ SeqAt.shaped e = true ∧ PyData.eqv d e = b := by
  unfold eqOf at h
  split at h
  · cases rx; cases ry; cases h; exact .inl ⟨rfl, rfl⟩
  · cases rx; cases ry; cases h; exact .inl ⟨rfl, by simp⟩
  · cases rx; cases ry; cases h; exact .inl ⟨rfl, by simp⟩
  · cases rx; cases ry; cases h; exact .inl ⟨rfl, by simp⟩
  · unfold eqDeep at h
    split at h
    · rename_i hc
      obtain ⟨h1, h2, h3, h4⟩ := hc
      cases h
      exact .inr ⟨_, _, dp_res s rx h1, dp_res s ry h2, shaped_of h1 h3, shaped_of h2 h4, toPy_eqv _ _ h1 h2⟩
    · split at h
      · rename_i hc
        obtain ⟨h1, h2, h3, h4⟩ := hc
        cases h
        exact .inr ⟨_, _, dp_resT s rx h1, dp_resT s ry h2, shaped_of h1 h3, shaped_of h2 h4, toPy_eqv _ _ h1 h2⟩
      · split at h
        · rename_i hc
          obtain ⟨h1, h2, h3, h4⟩ := hc
          cases h
          exact .inr ⟨_, _, dp_resU s rx h1, dp_resU s ry h2, shaped_of h1 h3, shaped_of h2 h4, toPy_eqv _ _ h1 h2⟩
        · cases h
theorem op2_eq : Op2 P gEq (rEqA P.K) := by
  intro F B A m H x y dx dy z Q s rx ry hz k
  unfold gEq at hz
  cases hb : eqOf m dx dy with
  | none => rw [hb] at hz; cases hz
  | some b =>
    rw [hb] at hz
    cases hz
    have q := k B H (.bl b) (Ex.refl B) s (.bl b)
    rcases eq_split s rx ry hb with ⟨h1, h2⟩ | ⟨d, e, h1, h2, h3, h4, h5⟩
    · exact .inl ⟨h1, by rw [h2]; exact q⟩
    · exact .inr ⟨d, e, h1, h2, h3, h4, by rw [h5]; exact q⟩
theorem op2_ne : Op2 P gNe (rNeA P.K) := by
  intro F B A m H x y dx dy z Q s rx ry hz k
  unfold gNe at hz
  cases hb : eqOf m dx dy with
  | none => rw [hb] at hz; cases hz
  | some b =>
    rw [hb] at hz
    cases hz
    have q := k B H (.bl (!b)) (Ex.refl B) s (.bl _)
    rcases eq_split s rx ry hb with ⟨h1, h2⟩ | ⟨d, e, h1, h2, h3, h4, h5⟩
    · exact .inl ⟨h1, by rw [h2]; exact q⟩
    · exact .inr ⟨d, e, h1, h2, h3, h4, by rw [h5]; exact q⟩

end
/-! x in xs -/
def rInDT (K : PySem.W.Frag) (neg : Bool) : R2 := fun x y H Q => ∃ d ds, Dp K H x d ∧ (Dp K H y (.tuple ds) ∨ Dp K H y (.list ds)) ∧ SeqAt.shaped d = true ∧ PyData.canLayAll0 ds = true ∧ Q (.bl (if neg = true then !(ds.any fun z => PyData.eqv z d) else ds.any fun z => PyData.eqv z d)) H
theorem op_inDT {X : Cx} (hu : X.A.units + 65 < cLine) : OpR X (compareOp .In) (rInDT X.K false) := by
  intro pins s σ H x y v u Q I rx ry ⟨d, ds, hd, he, sd, se, q⟩
  obtain ⟨as, r1⟩ := Dp.reads I d x v hd rx
  have room := PyProof.Rows.room_in_shaped (xs := ds) (A := X.A) sd hu
  rcases he with he | he
  · obtain ⟨bs, r2⟩ := Dp.reads I (.tuple ds) y u he ry
    exact SeqAt.in_tuple_reads r2 r1 se (SeqAt.canLay_of_shaped sd) room ⟨.bl _, H, I, rfl, q⟩
  · obtain ⟨bs, r2⟩ := Dp.reads I (.list ds) y u he ry
    exact SeqAt.in_list_reads r2 r1 se (SeqAt.canLay_of_shaped sd) room ⟨.bl _, H, I, rfl, q⟩
def rInA (K : PySem.W.Frag) (neg : Bool) : R2 := fun x y H Q => L2.rIn K neg x y H Q ∨ rInDT K neg x y H Q
theorem op_inA {X : Cx} {k : Nat} (hr : Room k X.A) : OpR X (compareOp .In) (rInA X.K false) := op_in_seq.or (op_inDT (by have := hr.un; omega))
theorem any_eqv {x : D} (hx : x.plain = true) : ∀ {ds : List D}, plains ds = true → ((toPys ds).any fun z => PyData.eqv z (toPy x)) = inD x ds
  | [], _ => by simp [toPys, inD]
  | d :: ds, h => by
    have z : (d.plain && plains ds) = true := h
    rw [Bool.and_eq_true] at z
    have ih := any_eqv hx z.2
    unfold inD at ih ⊢
    simp only [toPys]
    rw [List.any_cons, List.any_cons, ih, toPy_eqv d x z.1 hx]
section
variable {P : Pm} {F B : Hp} {A : Nat → Addr} {m : Mem} {H : Hp}
theorem dp_sq {a : Addr} {vs : List V} {ds : List D} {n : Nat} (ex : Ex B H) (hq : SqL P.K H a vs ∨ SqT P.K H a vs) (rs : Reps P.K B A n vs ds) (h : plains ds = true) : Dp P.K H (.ref a) (.tuple (toPys ds)) ∨ Dp P.K H (.ref a) (.list (toPys ds)) := by
  rcases hq with hq | hq
  · exact .inr (.lst hq (dps_of ex rs h))
  · exact .inl (.tup hq (dps_of ex rs h))
theorem in_go {neg : Bool} {x y : V} {dx dy : D} {ds : List D} {b : Bool} {Q : VK} (s : SR P F B A m H) (rx : Rep P.K B A m.n x dx) (ry : Rep P.K B A m.n y dy) (hs : sqOf m dy = some ds) (hb : inOf dx ds = some b) (q : Q (.bl (if neg = true then !b else b)) H) : rInA P.K neg x y H Q := by
  obtain ⟨a, vs, rfl, hq, rs⟩ := sq_of s ry hs
  unfold inOf at hb
  split at hb
  · rename_i hf
    cases hb
    refine .inl ⟨a, vs, rfl, hq, by rw [isFlat_V rx]; exact hf.1, by rw [all_flat rs]; exact hf.2, ?_⟩
    rw [in_V rx hf.1 rs hf.2]
    exact q
  · split at hb
    · rename_i hf
      cases hb
      refine .inr ⟨toPy dx, toPys ds, dp_of s.ex rx hf.1, dp_sq s.ex hq rs hf.2.2.1, shaped_of hf.1 (by omega), toPys_lay ds hf.2.2.1, ?_⟩
      rw [any_eqv hf.1 hf.2.2.1]
      exact q
    · cases hb
theorem op2_in : Op2 P gIn (rInA P.K false) := by
  intro F B A m H x y dx dy z Q s rx ry hz k
  unfold gIn at hz
  cases hs : sqOf m dy with
  | none => rw [hs] at hz; cases hz
  | some ds =>
    cases hb : inOf dx ds with
    | none => simp only [hs, hb, Option.bind_some, Option.map_none] at hz; cases hz
    | some b =>
      simp only [hs, hb, Option.bind_some, Option.map_some, Option.some.injEq] at hz
      subst hz
      exact in_go s rx ry hs hb (k B H _ (Ex.refl B) s (.bl _))
end
end LB

set_option Elab.async false
set_option linter.all false
set_option autoImplicit false
set_option maxRecDepth 100000
set_option maxHeartbeats 2000000
/-! Built-ins, dicts and lists of the store. -/
namespace LB
open PySem PySem.Spec PyProof.Rows L2

def OpN (P : Pm) (g : ON) (r : List V → Hp → VK → Prop) : Prop := ∀ (F B : Hp) (A : Nat → Addr) (m : Mem) (H : Hp) (vs : List V) (ds : List D) (z : D) (Q : VK), SR P F B A m H → Reps P.K B A m.n vs ds → g ds m = some z →
  (∀ B' H' v, Ex B B' → SR P F B' A m H' → Rep P.K B' A m.n v z → Q v H') → r vs H Q
/-- the same, the value a new list that may change -/
def OpNM (P : Pm) (g : ON) (r : List V → Hp → VK → Prop) : Prop := ∀ (F B : Hp) (A : Nat → Addr) (m : Mem) (H : Hp) (vs : List V) (ds : List D) (z : List D) (Q : VK), SR P F B A m H → Reps P.K B A m.n vs ds → g ds m = some (.lst z) →
  (∀ p ws, H p = none → Reps P.K B A m.n ws z → Q (.ref p) (upd H p (.lst ws))) → r vs H Q
section
variable {X : Cx} {P : Pm} {E : XK} {pos : Pos} {e : Expr} {es : List Expr} {fas : SA} {r : List V → Hp → VK → Prop} {g : ON} {id T : String} {x : Str} {p : Pos}
theorem opN_imp (hg : OpN P g r) {σ : L2.St} {H : Hp} {Q : VK} (h : tX P E (opN g fas) σ H Q) : tCB r (tXA P E fas) σ H Q := by
  obtain ⟨F, B, A, ρ, m, s, e, h⟩ := h
  refine tXA_go s e (wp_bind h) fun ds m1 B1 A1 H1 vs h1 l1 s1 rs => ?_
  obtain ⟨z, hz, h2⟩ := lift_wp h1
  exact hg F B1 A1 m1 H1 vs ds z Q s1 rs hz fun B' H' v ex s' rv => h2 B' A1 H' v (l1.trans (Le.base ex)) s' rv
theorem opNM_imp (hg : OpNM P g r) {σ : L2.St} {H : Hp} {Q : VK} (h : tX P E (opNM g fas) σ H Q) : tCB r (tXA P E fas) σ H Q := by
  obtain ⟨F, B, A, ρ, m, s, e, h⟩ := h
  refine tXA_go s e (wp_bind h) fun ds m1 B1 A1 H1 vs h1 l1 s1 rs => ?_
  obtain ⟨z, hz, h2⟩ := lift_wp (wp_bind h1)
  cases z with
  | lst ys => exact hg F B1 A1 m1 H1 vs ds ys Q s1 rs hz fun p ws hp rw => alloc_lst l1 s1 rw h2 hp
  | _ => exact h2.elim
theorem xe_callB (hc : CallR X (.builtin id) r) (hG : OpN P g r) (hg : Gl X x) (hm : X.mg x = none) (hv : bootBuiltins x = some (.builtin id)) (ha : PA X (e :: es) (tXA P E fas)) (hn : x ≠ "__name__" := by decide) (hdb : (x == ("__debug__" : Str)) = false := by decide)
    (he : starEach (e :: es) X.env = (false, eval e X.env) :: starEach es X.env := by rfl) (hpl : (backTo pos (starEach es X.env)).any (·.1) = false := by rfl) : PE X (.Call (.Name x p) (e :: es) [] pos) (tX P E (opN g fas)) :=
  pe_imp (pe_callB hc hg hm hv ha hn hdb he hpl) fun _ _ _ h => opN_imp hG h
theorem xe_callTy (hc : CallR X (.type T) r) (hG : OpN P g r) (hg : Gl X x) (hm : X.mg x = none) (hv : bootBuiltins x = some (.type T)) (ha : PA X (e :: es) (tXA P E fas)) (hn : x ≠ "__name__" := by decide) (hdb : (x == ("__debug__" : Str)) = false := by decide)
    (he : starEach (e :: es) X.env = (false, eval e X.env) :: starEach es X.env := by rfl) (hpl : (backTo pos (starEach es X.env)).any (·.1) = false := by rfl) : PE X (.Call (.Name x p) (e :: es) [] pos) (tX P E (opN g fas)) :=
  pe_imp (pe_callTy hc hg hm hv ha hn hdb he hpl) fun _ _ _ h => opN_imp hG h
theorem xe_callTyM (hc : CallR X (.type T) r) (hG : OpNM P g r) (hg : Gl X x) (hm : X.mg x = none) (hv : bootBuiltins x = some (.type T)) (ha : PA X (e :: es) (tXA P E fas)) (hn : x ≠ "__name__" := by decide) (hdb : (x == ("__debug__" : Str)) = false := by decide)
    (he : starEach (e :: es) X.env = (false, eval e X.env) :: starEach es X.env := by rfl) (hpl : (backTo pos (starEach es X.env)).any (·.1) = false := by rfl) : PE X (.Call (.Name x p) (e :: es) [] pos) (tX P E (opNM g fas)) :=
  pe_imp (pe_callTy hc hg hm hv ha hn hdb he hpl) fun _ _ _ h => opNM_imp hG h
end
section
variable {P : Pm}
def rLenA (K : PySem.W.Frag) : List V → Hp → VK → Prop := fun xs H Q => (∃ x n, xs = [x] ∧ LenV K x H n ∧ Q (.int n) H) ∨ ∃ a kvs, xs = [V.ref a] ∧ H a = some (.dK kvs) ∧ Q (.int kvs.length) H
theorem call_lenA {X : Cx} : CallR X (.builtin "len") (rLenA X.K) := call_len.or call_lenD
theorem Reps.one {K : PySem.W.Frag} {B : Hp} {A : Nat → Addr} {n : Nat} {vs : List V} {d : D} (r : Reps K B A n vs [d]) : ∃ v, vs = [v] ∧ Rep K B A n v d := by
  cases r with
  | cons r t =>
    cases t
    exact ⟨_, rfl, r⟩
theorem Reps.two {K : PySem.W.Frag} {B : Hp} {A : Nat → Addr} {n : Nat} {vs : List V} {d e : D} (r : Reps K B A n vs [d, e]) : ∃ v u, vs = [v, u] ∧ Rep K B A n v d ∧ Rep K B A n u e := by
  cases r with
  | cons r t =>
    cases t with
    | cons q t =>
      cases t
      exact ⟨_, _, rfl, r, q⟩
theorem lenV_sq {F B : Hp} {A : Nat → Addr} {m : Mem} {H : Hp} {v : V} {d : D} {ds : List D} (s : SR P F B A m H) (r : Rep P.K B A m.n v d) (h : sqOf m d = some ds) : LenV P.K v H ds.length := by
  obtain ⟨a, vs, rfl, hq, rs⟩ := sq_of s r h
  rw [← rs.length]
  rcases hq with hq | hq
  · exact .inl ⟨vs, hq, rfl⟩
  · exact .inr ⟨vs, hq, rfl⟩
theorem opN_len : OpN P gLen (rLenA P.K) := by
  intro F B A m H vs ds z Q s rs hz k
  unfold gLen at hz
  split at hz
  · obtain ⟨v, rfl, r⟩ := rs.one
    cases r
    split at hz
    · rename_i hl
      cases hz
      exact .inl ⟨_, _, rfl, ⟨hl, rfl⟩, k B H _ (Ex.refl B) s (.int _)⟩
    · cases hz
  · rename_i j
    obtain ⟨v, rfl, r⟩ := rs.one
    cases r with
    | loc hj ea =>
      subst ea
      rw [if_pos hj] at hz
      split at hz
      · rename_i xs hg
        cases hz
        exact .inl ⟨_, _, rfl, lenV_sq s (.loc hj rfl) (show sqOf m (.loc j) = some xs by unfold sqOf lstOf; simp only [if_pos hj, hg]), k B H _ (Ex.refl B) s (.int _)⟩
      · rename_i kvs hg
        cases hz
        obtain ⟨_, ro⟩ := s.at_ _ _ hj hg
        cases ro with
        | dct h1 h2 =>
          refine .inr ⟨_, _, rfl, h1, ?_⟩
          rw [Paired.length h2]
          exact k B H _ (Ex.refl B) s (.int _)
      · cases hz
  · rename_i d _ _
    obtain ⟨v, rfl, r⟩ := rs.one
    cases hs : sqOf m d with
    | none => rw [hs] at hz; cases hz
    | some xs =>
      rw [hs] at hz
      cases hz
      exact .inl ⟨_, _, rfl, lenV_sq s r hs, k B H _ (Ex.refl B) s (.int _)⟩
  · cases hz
theorem opN_max2 : OpN P gMax2 (fun xs H Q => ∃ i j, xs = [.int i, .int j] ∧ Q (.int (if j > i then j else i)) H) := by
  intro F B A m H vs ds z Q s rs hz k
  unfold gMax2 at hz
  split at hz
  · obtain ⟨v, u, rfl, r, q⟩ := rs.two
    cases r
    cases q
    cases hz
    exact ⟨_, _, rfl, k B H _ (Ex.refl B) s (.int _)⟩
  · cases hz
theorem opN_min2 : OpN P gMin2 (fun xs H Q => ∃ i j, xs = [.int i, .int j] ∧ Q (.int (if j < i then j else i)) H) := by
  intro F B A m H vs ds z Q s rs hz k
  unfold gMin2 at hz
  split at hz
  · obtain ⟨v, u, rfl, r, q⟩ := rs.two
    cases r
    cases q
    cases hz
    exact ⟨_, _, rfl, k B H _ (Ex.refl B) s (.int _)⟩
  · cases hz
theorem opN_int : OpN P gInt (fun xs H Q => (∃ i, xs = [.int i] ∧ Q (.int i) H) ∨ ∃ k, xs = [.bl k] ∧ Q (.int (if k then 1 else 0)) H) := by
  intro F B A m H vs ds z Q s rs hz k
  unfold gInt at hz
  split at hz
  · obtain ⟨v, rfl, r⟩ := rs.one
    cases r
    cases hz
    exact .inl ⟨_, rfl, k B H _ (Ex.refl B) s (.int _)⟩
  · obtain ⟨v, rfl, r⟩ := rs.one
    cases r
    cases hz
    exact .inr ⟨_, rfl, k B H _ (Ex.refl B) s (.int _)⟩
  · cases hz
abbrev rListA (K : PySem.W.Frag) : List V → Hp → VK → Prop := fun xs H Q => ∃ p ys, xs = [.ref p] ∧ (SqL K H p ys ∨ SqT K H p ys) ∧ ∀ l, H l = none → Q (.ref l) (upd H l (.lst ys))
theorem list_sq {F B : Hp} {A : Nat → Addr} {m : Mem} {H : Hp} {vs : List V} {ds : List D} {z : D} {f : List D → D} (s : SR P F B A m H) (rs : Reps P.K B A m.n vs ds) (h : gSq f ds m = some z) : ∃ a ws ys, vs = [.ref a] ∧ (SqL P.K H a ws ∨ SqT P.K H a ws) ∧ Reps P.K B A m.n ws ys ∧ z = f ys := by
  unfold gSq at h
  split at h
  · rename_i d
    obtain ⟨v, rfl, r⟩ := rs.one
    cases hs : sqOf m d with
    | none => rw [hs] at h; cases h
    | some ys =>
      rw [hs] at h
      cases h
      obtain ⟨a, ws, rfl, hq, rw⟩ := sq_of s r hs
      exact ⟨a, ws, ys, rfl, hq, rw, rfl⟩
  · cases h
theorem opNM_list : OpNM P gList (rListA P.K) := by
  intro F B A m H vs ds z Q s rs hz k
  obtain ⟨a, ws, ys, rfl, hq, rw, e⟩ := list_sq s rs hz
  cases e
  exact ⟨a, ws, rfl, hq, fun p hp => k p ws hp rw⟩
theorem opN_tuple : OpN P gTuple (fun xs H Q => ∃ p ys, xs = [.ref p] ∧ ((SqL P.K H p ys ∧ ∀ l, H l = none → Q (.ref l) (upd H l (.tup ys))) ∨ (SqT P.K H p ys ∧ Q (.ref p) H))) := by
  intro F B A m H vs ds z Q s rs hz k
  unfold gTuple at hz
  split at hz
  · obtain ⟨v, rfl, r⟩ := rs.one
    cases r with
    | tup hq rw =>
      cases hz
      exact ⟨_, _, rfl, .inr ⟨s.ex.t hq, k B H _ (Ex.refl B) s (.tup hq rw)⟩⟩
  · rename_i d _
    obtain ⟨v, rfl, r⟩ := rs.one
    cases hs : lstOf m d with
    | none => rw [hs] at hz; cases hz
    | some ys =>
      rw [hs] at hz
      cases hz
      obtain ⟨a, ws, rfl, ha, rw⟩ := lst_of s r hs
      exact ⟨_, _, rfl, .inl ⟨SqL.of ha, fun p hp => k _ _ _ (s.frozenEx hp) (s.frozen hp) (.tup (SqT.of upd_same) (rw.mono (Le.base (s.frozenEx hp))))⟩⟩
  · cases hz
theorem reps_ints {B : Hp} {A : Nat → Addr} {n : Nat} : ∀ ns : List Int, Reps P.K B A n (ns.map V.int) (ns.map D.int)
  | [] => .nil
  | i :: r => .cons (.int i) (reps_ints r)
theorem sorted_uniq : ∀ {xs ys : List Int}, xs.Perm ys → xs.Pairwise (· ≤ ·) → ys.Pairwise (· ≤ ·) → xs = ys
  | [], ys, h, _, _ => by
    have := h.length_eq
    cases ys with
    | nil => rfl
    | cons y r => simp at this
  | x :: r, [], h, _, _ => by
    have := h.length_eq
    simp at this
  | x :: r, y :: t, h, h1, h2 => by
    rw [List.pairwise_cons] at h1 h2
    have e : x = y := by
      have a : x ∈ y :: t := h.mem_iff.mp List.mem_cons_self
      have b : y ∈ x :: r := h.mem_iff.mpr List.mem_cons_self
      rcases List.mem_cons.mp a with e | a
      · exact e
      · rcases List.mem_cons.mp b with e | b
        · exact e.symm
        · have q1 := h2.1 x a
          have q2 := h1.1 y b
          omega
    subst e
    rw [sorted_uniq h.cons_inv h1.2 h2.2]
end
end LB

set_option Elab.async false
set_option linter.all false
set_option autoImplicit false
set_option maxRecDepth 100000
set_option maxHeartbeats 2000000
/-! Slices, isinstance, dicts and lists of the store. -/
namespace LB
open PySem PySem.Spec PyProof.Rows L2

/-! ### slices -/
def tXO (P : Pm) (E : XK) (f : SO) : TO := fun σ H Q => ∃ F B A ρ m, SR P F B A m H ∧ EnvR P.K B A m.n σ ρ ∧ (f ρ m).wp (fun o m' => ∀ B' A' H', Le B A m.n B' A' m'.n → SR P F B' A' m' H' → Q o H') (exV P E F B A m.n)
section
variable {X : Cx} {P : Pm} {E : XK} {pos : Pos}
theorem po_imp {e : Option Expr} {t t' : TO} (h : PO X e t) (i : ∀ σ H Q, t' σ H Q → t σ H Q) : PO X e t' := by
  obtain ⟨run⟩ := h
  constructor
  intros
  apply run <;> first | assumption | (apply i; assumption)
theorem xo_none : PO X none (tXO P E soN) := po_imp po_none fun σ H Q ⟨F, B, A, ρ, m, s, e, h⟩ => h B A H Le.refl s
theorem xo_some {e : Expr} {f : SE} (h : PE X e (tX P E f)) : PO X (some e) (tXO P E (soS f)) := by
  refine po_imp (po_some h) fun σ H Q ⟨F, B, A, ρ, m, s, e, h⟩ => ?_
  refine tX_go s e (wp_bind h) fun dx m1 B1 A1 H1 x h1 l1 s1 rx => ?_
  cases dx with
  | int i =>
    cases rx
    exact ⟨i, rfl, h1 B1 A1 H1 l1 s1⟩
  | _ => exact h1.elim
def rSlE (K : PySem.W.Frag) : V → Option Int → Option Int → Hp → VK → Prop := fun x lo hi H Q => rSlA K x lo hi H Q ∨ rSlL K x lo hi H Q
theorem sl_all : SlR X (rSlE X.K) := sl_tupA.or sl_list
theorem sIx_eq (n d : Nat) (o : Option Int) : sIxD n d o = HT.sIx n d o := by
  cases o <;> rfl
theorem cut_rep {K : PySem.W.Frag} {B : Hp} {A : Nat → Addr} {n : Nat} {vs : List V} {ds : List D} (lo hi : Option Int) (r : Reps K B A n vs ds) : Reps K B A n (cutV vs lo hi) (cutD ds lo hi) := by
  unfold cutV cutD
  rw [r.length, ← sIx_eq, ← sIx_eq]
  exact (r.drop _).take _
theorem cut_whole {α : Type} {xs : List α} {lo hi : Option Int} (h : sIxD xs.length 0 lo = 0 ∧ sIxD xs.length xs.length hi = xs.length) : cutD xs lo hi = xs := by
  unfold cutD
  rw [h.1, h.2, List.drop_zero, Nat.sub_zero, List.take_length]
theorem sl_go {F B : Hp} {A : Nat → Addr} {m : Mem} {H : Hp} {x : V} {dx z : D} {lo hi : Option Int} {Q : VK} (s : SR P F B A m H) (r : Rep P.K B A m.n x dx) (h : gSl dx lo hi m = some z)
    (k : ∀ B' H' v, Ex B B' → SR P F B' A m H' → Rep P.K B' A m.n v z → Q v H') : rSlE P.K x lo hi H Q := by
  unfold gSl at h
  split at h
  · cases h
    cases r with
    | tup hq rs =>
      refine .inl ⟨_, _, rfl, s.ex.t hq, fun hw => ?_, fun hw p hp => ?_⟩
      · rw [rs.length, ← sIx_eq, ← sIx_eq] at hw
        rw [cut_whole hw] at k
        exact k B H _ (Ex.refl B) s (.tup hq rs)
      · exact k _ _ _ (s.frozenEx hp) (s.frozen hp) (.tup (SqT.of upd_same) ((cut_rep lo hi rs).mono (Le.base (s.frozenEx hp))))
  · cases hs : lstOf m dx with
    | none => rw [hs] at h; cases h
    | some ys =>
      rw [hs] at h
      cases h
      obtain ⟨a, ws, rfl, ha, rw⟩ := lst_of s r hs
      exact .inr ⟨a, ws, rfl, SqL.of ha, fun p hp => k _ _ _ (s.frozenEx hp) (s.frozen hp) (.lst upd_same ((cut_rep lo hi rw).mono (Le.base (s.frozenEx hp))))⟩
theorem xe_slc {e : Expr} {lo hi : Option Expr} {f : SE} {fl fh : SO} {p2 : Pos} (hK : X.K = P.K) (he : PE X e (tX P E f)) (hl : PO X lo (tXO P E fl)) (hh : PO X hi (tXO P E fh)) : PE X (.Subscript e (.Slice lo hi none p2) pos) (tX P E (slc f fl fh)) := by
  refine pe_imp (pe_slice sl_all he hl hh) fun σ H Q ⟨F, B, A, ρ, m, s, e, h⟩ => ?_
  refine tX_go s e (wp_bind h) fun dx m1 B1 A1 H1 x h1 l1 s1 rx => ?_
  refine ⟨F, B1, A1, ρ, m1, s1, e.mono l1, Rs.wp_mono (wp_le l1 (wp_bind h1)) (fun l m2 h2 B2 A2 H2 l2 s2 => ?_) fun _ _ x => x⟩
  refine ⟨F, B2, A2, ρ, m2, s2, (e.mono l1).mono l2, Rs.wp_mono (wp_le (l1.trans l2) (wp_bind h2)) (fun u m3 h3 B3 A3 H3 l3 s3 => ?_) fun _ _ x => x⟩
  obtain ⟨z, hz, h4⟩ := lift_wp h3
  rw [hK]
  exact sl_go s3 ((rx.mono l2).mono l3) hz fun B' H' v ex s' rv => h4 B' A3 H' v (((l1.trans l2).trans l3).trans (Le.base ex)) s' rv

/-! ### isinstance -/
def tys : List String := ["NoneType", "bool", "int", "str", "tuple", "list"]
def tysT : List String := ["bool", "int", "str", "tuple", "list"]
theorem kit_all : (tys.all fun t => tysT.all fun T => decide (kitB t T = some (t == T || (t == "bool" && T == "int")))) = true := by decide +kernel
theorem kit_at {t T : String} (h1 : t ∈ tys) (h2 : T ∈ tysT) : kitB t T = some (t == T || (t == "bool" && T == "int")) := by
  have h := kit_all
  rw [List.all_eq_true] at h
  have q := h t h1
  rw [List.all_eq_true] at q
  exact of_decide_eq_true (q T h2)
theorem sym_all : (tysT.all fun T => (["int", "str", "tuple", "list"] : List String).all fun t => (t == T || (t == "bool" && T == "int")) == (T == t)) = true := by decide +kernel
theorem sym_at {t T : String} (h1 : t ∈ (["int", "str", "tuple", "list"] : List String)) (h2 : T ∈ tysT) : (t == T || (t == "bool" && T == "int")) = (T == t) := by
  have h := sym_all
  rw [List.all_eq_true] at h
  have q := h T h2
  rw [List.all_eq_true] at q
  exact eq_of_beq (q t h1)
theorem sym_bl : (tysT.all fun T => ("bool" == T || ("bool" == "bool" && T == "int")) == (T == "bool" || T == "int")) = true := by decide +kernel
theorem sym_non : (tysT.all fun T => ("NoneType" == T || ("NoneType" == "bool" && T == "int")) == false) = true := by decide +kernel
theorem ty_of {F B : Hp} {A : Nat → Addr} {m : Mem} {H : Hp} {v : V} {d : D} {T0 : String} {b0 : Bool} (s : SR P F B A m H) (r : Rep P.K B A m.n v d) (h : isTy m T0 d = some b0) :
    ∃ t : String, TyX P.K H v (.type t) ∧ ∀ T ∈ tysT, ∀ b, isTy m T d = some b → kitB t T = some b := by
  cases r with
  | non =>
    refine ⟨"NoneType", .base .non, fun T hT b h => (kit_at (by decide) hT).trans ?_⟩
    cases h
    have q := sym_non
    rw [List.all_eq_true] at q
    rw [eq_of_beq (q T hT)]
  | bl x =>
    refine ⟨"bool", .base (.bl x), fun T hT b h => (kit_at (by decide) hT).trans ?_⟩
    cases h
    have q := sym_bl
    rw [List.all_eq_true] at q
    rw [eq_of_beq (q T hT)]
  | int x => exact ⟨"int", .base (.int x), fun T hT b h => (kit_at (by decide) hT).trans (by cases h; rw [sym_at (by decide) hT])⟩
  | str x => exact ⟨"str", .base (.str x), fun T hT b h => (kit_at (by decide) hT).trans (by cases h; rw [sym_at (by decide) hT])⟩
  | @tup a vs ds hq rs =>
    have e : ∀ T ∈ tysT, ∀ b, isTy m T (.tup ds) = some b → kitB "tuple" T = some b := fun T hT b h => (kit_at (t := "tuple") (by decide) hT).trans (by cases h; rw [sym_at (t := "tuple") (by decide) hT])
    rcases s.ex.t hq with (q | ⟨o, q⟩) | ⟨o, its, n, hk, hc, _⟩
    · exact ⟨"tuple", .base (.tup q), e⟩
    · exact ⟨"tuple", .fTuple q, e⟩
    · exact ⟨"tuple", .kTuple hk hc, e⟩
  | lst hb rs => exact ⟨"list", .base (.lst (s.ex _ _ hb)), fun T hT b h => (kit_at (by decide) hT).trans (by cases h; rw [sym_at (by decide) hT])⟩
  | loc hj ea =>
    subst ea
    unfold isTy at h
    simp only [if_pos hj] at h
    split at h
    · rename_i xs hg
      obtain ⟨_, ro⟩ := s.at_ _ _ hj hg
      cases ro with
      | lst h1 h2 => exact ⟨"list", .base (.lst h1), fun T hT b h => (kit_at (by decide) hT).trans (by
          unfold isTy at h
          simp only [if_pos hj, hg] at h
          cases h
          rw [sym_at (by decide) hT])⟩
    · cases h
  | ref => cases h
  | scr _ => cases h
variable {e : Expr} {f : SE} {p p1 p2 p3 : Pos}
theorem xe_isi {T : Str} {Tn : String} (hK : X.K = P.K) (hT : Tn ∈ tysT) (hg : Gl X "isinstance") (hm : X.mg "isinstance" = none) (hgT : Gl X T) (hmT : X.mg T = none) (hvT : bootBuiltins T = some (.type Tn)) (he : PE X e (tX P E f))
    (hb1 : bootBuiltins "isinstance" = some (.builtin "isinstance") := by decide +kernel) (hn : T ≠ "__name__" := by decide) (hd : (T == ("__debug__" : Str)) = false := by decide)
    (hs : starEach [e, .Name T p1] X.env = (false, eval e X.env) :: starEach [.Name T p1] X.env := by rfl) (hs2 : starEach [.Name T p1] X.env = (false, eval (.Name T p1) X.env) :: starEach [] X.env := by rfl)
    (hpl : (backTo pos (starEach [.Name T p1] X.env)).any (·.1) = false := by rfl) :
    PE X (.Call (.Name "isinstance" p) [e, .Name T p1] [] pos) (tX P E (op1 (gIsi Tn) f)) := by
  refine pe_imp (pe_callB call_isi hg hm hb1 (pa_cons he (pa_cons (pe_bltn (v := .ty Tn) hgT hmT hvT rfl hn hd) pa_nil hs2) hs) (he := hs) (hpl := hpl)) fun σ H Q h => ?_
  refine op1_imp (r := fun x H Q => rIsi X.K [x, .ty Tn] H Q) ?_ h
  intro F B A m H x dx z Q s rx hz k
  unfold gIsi at hz
  cases hb : isTy m Tn dx with
  | none => rw [hb] at hz; cases hz
  | some b =>
    rw [hb] at hz
    cases hz
    obtain ⟨t, ht, hk⟩ := ty_of s rx hb
    exact ⟨x, .ty Tn, .type t, .type Tn, b, rfl, .ty _, by rw [hK]; exact ht, kit_ty (hk Tn hT b hb), k B H _ (Ex.refl B) s (.bl b)⟩
theorem xe_isi2 {T U : Str} {Tn Un : String} {x1 : Nat} (hK : X.K = P.K) (hT : Tn ∈ tysT) (hU : Un ∈ tysT) (hg : Gl X "isinstance") (hm : X.mg "isinstance" = none) (hgT : Gl X T) (hmT : X.mg T = none) (hvT : bootBuiltins T = some (.type Tn)) (hgU : Gl X U) (hmU : X.mg U = none) (hvU : bootBuiltins U = some (.type Un)) (he : PE X e (tX P E f))
    (hb1 : bootBuiltins "isinstance" = some (.builtin "isinstance") := by decide +kernel) (hn : T ≠ "__name__" := by decide) (hd : (T == ("__debug__" : Str)) = false := by decide) (hnU : U ≠ "__name__" := by decide) (hdU : (U == ("__debug__" : Str)) = false := by decide)
    (hs : starEach [e, .Tuple [.Name T p1, .Name U p2] x1 p3] X.env = (false, eval e X.env) :: starEach [.Tuple [.Name T p1, .Name U p2] x1 p3] X.env := by rfl)
    (hs2 : starEach [.Tuple [.Name T p1, .Name U p2] x1 p3] X.env = (false, eval (.Tuple [.Name T p1, .Name U p2] x1 p3) X.env) :: starEach [] X.env := by rfl)
    (hs3 : starEach [.Name T p1, .Name U p2] X.env = (false, eval (.Name T p1) X.env) :: starEach [.Name U p2] X.env := by rfl)
    (hs4 : starEach [.Name U p2] X.env = (false, eval (.Name U p2) X.env) :: starEach [] X.env := by rfl)
    (hpl : (backTo pos (starEach [.Tuple [.Name T p1, .Name U p2] x1 p3] X.env)).any (·.1) = false := by rfl) :
    PE X (.Call (.Name "isinstance" p) [e, .Tuple [.Name T p1, .Name U p2] x1 p3] [] pos) (tX P E (op1 (gIsi2 Tn Un) f)) := by
  refine pe_imp (pe_callB call_isiT hg hm hb1 (pa_cons he (pa_cons (pe_tup (pa_cons (pe_bltn (v := .ty Tn) hgT hmT hvT rfl hn hd) (pa_cons (pe_bltn (v := .ty Un) hgU hmU hvU rfl hnU hdU) pa_nil hs4) hs3)) pa_nil hs2) hs) (he := hs) (hpl := hpl)) fun σ H Q h => ?_
  refine op1_imp (r := fun x H Q => (2 ≤ sizeLine ∧ ∀ p, H p = none → rIsiT X.K [x, .ref p] (upd H p (.tup [.ty Tn, .ty Un])) Q)) ?_ h
  intro F B A m H x dx z Q s rx hz k
  unfold gIsi2 at hz
  split at hz
  · rename_i a b ha hb
    cases hz
    refine ⟨by decide, fun p hp => ?_⟩
    have s2 := s.frozen (o := .tup [.ty Tn, .ty Un]) hp
    have rx2 := rx.mono (Le.base (A := A) (n := m.n) (s.frozenEx (o := .tup [.ty Tn, .ty Un]) hp))
    obtain ⟨t, ht, hk⟩ := ty_of s2 rx2 ha
    refine ⟨x, p, [.ty Tn, .ty Un], .type t, [.type Tn, .type Un], (a || b), rfl, upd_same, .cons (.ty _) (.cons (.ty _) .nil), by rw [hK]; exact ht, ?_, k _ _ _ (s.frozenEx hp) s2 (.bl _)⟩
    unfold PySem.W.kitAny
    rw [kit_ty (hk Tn hT a ha)]
    cases a with
    | true => rfl
    | false =>
      unfold PySem.W.kitAny
      rw [kit_ty (hk Un hU b hb)]
      cases b <;> rfl
  · cases hz

/-! ### dicts of the store -/
theorem dct_of {F B : Hp} {A : Nat → Addr} {m : Mem} {H : Hp} {v : V} {d : D} {kds : List (KeyS × D)} (s : SR P F B A m H) (r : Rep P.K B A m.n v d) (h : dctOf m d = some kds) :
    ∃ k kvs, d = .loc k ∧ k < m.n ∧ m.get k = some (.dct kds) ∧ v = .ref (A k) ∧ H (A k) = some (.dK kvs) ∧ Paired (fun (p : Key × V) (q : Key × D) => p.1 = q.1 ∧ Rep P.K B A m.n p.2 q.2) kvs kds := by
  cases r with
  | loc hk ea =>
    subst ea
    unfold dctOf at h
    simp only [if_pos hk] at h
    split at h
    · rename_i xs hg
      cases h
      obtain ⟨_, ro⟩ := s.at_ _ _ hk hg
      cases ro with
      | dct h1 h2 => exact ⟨_, _, rfl, hk, hg, rfl, h1, h2⟩
    · cases h
  | _ => cases h
theorem key_of {B : Hp} {A : Nat → Addr} {n : Nat} {v : V} {d : D} {k : KeyS} (r : Rep P.K B A n v d) (h : keyOf d = some k) : v = L2.kV k := by
  cases r with
  | int i => cases h; rfl
  | str x => cases h; rfl
  | _ => cases h
theorem val_rep {B : Hp} {A : Nat → Addr} {n : Nat} {k : KeyS} : ∀ {kvs : List (Key × V)} {kds : List (KeyS × D)}, Paired (fun (p : Key × V) (q : Key × D) => p.1 = q.1 ∧ Rep P.K B A n p.2 q.2) kvs kds →
    (∃ v d, L2.valV kvs k = some v ∧ valK kds k = some d ∧ Rep P.K B A n v d) ∨ (L2.valV kvs k = none ∧ valK kds k = none)
  | _, _, .nil => .inr ⟨rfl, rfl⟩
  | (k1, v) :: kvs, (k2, d) :: kds, .cons r t => by
    have e : k1 = k2 := r.1
    subst e
    by_cases h : k1 = k
    · refine .inl ⟨v, d, ?_, ?_, r.2⟩
      · unfold L2.valV; simp [List.find?_cons, h]
      · unfold valK; simp [List.find?_cons, h]
    · have e1 : L2.valV ((k1, v) :: kvs) k = L2.valV kvs k := by unfold L2.valV; simp [List.find?_cons, h]
      have e2 : valK ((k1, d) :: kds) k = valK kds k := by unfold valK; simp [List.find?_cons, h]
      rw [e1, e2]
      exact val_rep t
theorem put_rep {B : Hp} {A : Nat → Addr} {n : Nat} {k : KeyS} {v : V} {d : D} {kvs : List (Key × V)} {kds : List (KeyS × D)} (h : Paired (fun (p : Key × V) (q : Key × D) => p.1 = q.1 ∧ Rep P.K B A n p.2 q.2) kvs kds) (r : Rep P.K B A n v d) :
    Paired (fun (p : Key × V) (q : Key × D) => p.1 = q.1 ∧ Rep P.K B A n p.2 q.2) (L2.putK kvs k v) (putKD kds k d) := by
  have e : ∀ {kvs : List (Key × V)} {kds : List (KeyS × D)}, Paired (fun (p : Key × V) (q : Key × D) => p.1 = q.1 ∧ Rep P.K B A n p.2 q.2) kvs kds → (kvs.any fun kv => decide (kv.1 = k)) = kds.any fun kv => decide (kv.1 = k) := by
    intro kvs kds h
    induction h with
    | nil => rfl
    | cons r t ih => rw [List.any_cons, List.any_cons, ih, r.1]
  unfold L2.putK putKD
  rw [e h]
  split
  · clear e
    rename_i hx
    clear hx
    induction h with
    | nil => exact .nil
    | @cons p q ps qs r' t ih =>
      rw [List.map_cons, List.map_cons]
      refine .cons ?_ ih
      by_cases hk : p.1 = k
      · rw [if_pos hk, if_pos (by rw [← r'.1]; exact hk)]
        exact ⟨r'.1, r⟩
      · rw [if_neg hk, if_neg (by rw [← r'.1]; exact hk)]
        exact r'
  · have app : ∀ {xs : List (Key × V)} {ys : List (KeyS × D)}, Paired (fun (p : Key × V) (q : Key × D) => p.1 = q.1 ∧ Rep P.K B A n p.2 q.2) xs ys → Paired (fun (p : Key × V) (q : Key × D) => p.1 = q.1 ∧ Rep P.K B A n p.2 q.2) (xs ++ [(k, v)]) (ys ++ [(k, d)]) := by
      intro xs ys h
      induction h with
      | nil => exact .cons ⟨rfl, r⟩ .nil
      | cons r' _ ih => exact .cons r' ih
    exact app h
variable {a b c : Expr} {fa fb fc : SE}
theorem xe_dget {k : Nat} (hr : Room k X.A) (ha : PE X a (tX P E fa)) (hb : PE X b (tX P E fb)) (hs : NoSl b := by intro _ _; rfl) : PE X (.Subscript a b pos) (tX P E (op2 gDget fa fb)) := by
  refine pe_imp (pe_dget (hu_of hr) ha hb hs) fun σ H Q ⟨F, B, A, ρ, m, s, e, h⟩ => ?_
  refine tX_go s e (wp_bind h) fun dx m1 B1 A1 H1 x h1 l1 s1 rx => ?_
  refine tX_go s1 (e.mono l1) (wp_le l1 (wp_bind h1)) fun dy m2 B2 A2 H2 y h2 l2 s2 ry => ?_
  obtain ⟨z, hz, h3⟩ := lift_wp h2
  unfold gDget at hz
  cases hd : dctOf m2 dx with
  | none => rw [hd] at hz; cases hz
  | some kds =>
    cases hk : keyOf dy with
    | none => simp only [hd, hk, Option.bind_some, Option.bind_none] at hz; cases hz
    | some ky =>
      simp only [hd, hk, Option.bind_some] at hz
      obtain ⟨j, kvs, _, _, _, ev, hH, pr⟩ := dct_of s2 (rx.mono l2) hd
      subst ev
      have ey := key_of ry hk
      subst ey
      rcases val_rep (k := ky) pr with ⟨v, d, h4, h5, h6⟩ | ⟨_, h5⟩
      · rw [h5] at hz
        cases hz
        exact ⟨A2 j, v, rfl, by rw [← h4]; exact DGet.k hH, h3 B2 A2 H2 v (l1.trans l2) s2 h6⟩
      · rw [h5] at hz
        cases hz
theorem xe_dget2 {k : Nat} {apos : Pos} (hr : Room k X.A) (ha : PE X a (tX P E fa)) (hb : PE X b (tX P E fb)) (hc : PE X c (tX P E fc)) (m : M2 X a "get" apos b c pos := by exact ⟨rfl, rfl, rfl, rfl⟩) : PE X (.Call (.Attribute a "get" apos) [b, c] [] pos) (tX P E (dget2 fa fb fc)) := by
  refine pe_imp (pe_dget2 (hu_of hr) ha hb hc m) fun σ H Q ⟨F, B, A, ρ, m, s, e, h⟩ => ?_
  refine tX_go s e (wp_bind h) fun dd m1 B1 A1 H1 x h1 l1 s1 rd => ?_
  have h1' := wp_bind h1
  by_cases hi : isDct m1 dd = true
  · simp only [if_pos hi] at h1'
    obtain ⟨kds, hd⟩ := Option.isSome_iff_exists.mp hi
    obtain ⟨j, kvs, ed, hj, hgj, ev, hH, pr⟩ := dct_of s1 rd hd
    subst ev
    refine ⟨A1 j, rfl, .inl ⟨kvs, .inl hH⟩, ?_⟩
    refine tX_go s1 (e.mono l1) (wp_le l1 (wp_bind h1')) fun dk m2 B2 A2 H2 y h2 l2 s2 rk => ?_
    refine tX_go s2 ((e.mono l1).mono l2) (wp_le (l1.trans l2) (wp_bind h2)) fun dx m3 B3 A3 H3 z h3 l3 s3 rx => ?_
    obtain ⟨w, hw, h4⟩ := lift_wp h3
    cases hd3 : dctOf m3 dd with
    | none => rw [hd3] at hw; cases hw
    | some kds3 =>
      cases hk : keyOf dk with
      | none => simp only [hd3, hk, Option.bind_some, Option.map_none] at hw; cases hw
      | some ky =>
        simp only [hd3, hk, Option.bind_some, Option.map_some, Option.some.injEq] at hw
        subst hw
        obtain ⟨j3, kvs3, ed3, _, _, ev3, hH3, pr3⟩ := dct_of s3 ((rd.mono l2).mono l3) hd3
        have ey := key_of (rk.mono l3) hk
        subst ey
        have ea : A3 j3 = A1 j := (V.ref.inj ev3).symm
        rw [ea] at hH3
        refine ⟨L2.valV kvs3 ky, DGet.k hH3, ?_⟩
        have l := (l1.trans l2).trans l3
        rcases val_rep (k := ky) pr3 with ⟨v, d, h5, h6, h7⟩ | ⟨h5, h6⟩
        · rw [h5]
          rw [h6] at h4
          exact h4 B3 A3 H3 v l s3 h7
        · rw [h5]
          rw [h6] at h4
          exact h4 B3 A3 H3 z l s3 rx
  · simp only [if_neg hi] at h1'
    exact h1'.elim
/-! a display -/
theorem SR.newAt {F B : Hp} {A : Nat → Addr} {m : Mem} {H : Hp} {q : Addr} {o u : HO} {mo : MO} (s : SR P (upd F q o) B A m H) (hF : F q = none) (r : RepO P B (cons1 A m.n q) (m.n + 1) (upd H q u) q mo)
    (hc : ∀ c q, o ≠ LamX.CodeO c q := by first | (intro c q e; unfold LamX.CodeO at e; cases e; done) | exact fun c q e => codeO_dct e.symm) (hx : ∀ fs, o ≠ .xd fs := by intro fs e; cases e) : SR P F B (cons1 A m.n q) (m.new mo) (upd H q u) := by
  obtain ⟨h1, hb, live⟩ := s.fr q _ upd_same
  have h2 : ∀ ps, H q ≠ some (.tbl ps) := fun ps e => s.nf q ps (by rw [upd_same, ← h1]; exact e)
  have get : ∀ i, i ≠ m.n → (m.new mo).get i = m.get i := fun i hi => by
    show (if i = m.n then some mo else m.get i) = m.get i
    rw [if_neg hi]
  have get0 : (m.new mo).get m.n = some mo := by
    show (if m.n = m.n then some mo else m.get m.n) = _
    rw [if_pos rfl]
  have lt : ∀ i, i < (m.new mo).n → i ≠ m.n → i < m.n := fun i hi h => by
    have : i < m.n + 1 := hi
    omega
  refine ⟨s.ex.mut hb, fun a w e => ?_, fun k w hk hw => ?_, fun j k w x hj hk hw hx e => ?_, tabs_upd s.tb h2 (fun c z e => hc c z (Option.some.inj (h1.symm.trans e))), s.nb, fun a ps e => s.nf a ps (by rw [upd_ne (ne_of_none e hF)]; exact e), xd_upd s.xd (fun fs e => hx fs (Option.some.inj (h1.symm.trans e)))⟩
  · have ne : a ≠ q := ne_of_none e hF
    obtain ⟨k1, k2, k3⟩ := s.fr a w (by rw [upd_ne ne]; exact e)
    refine ⟨by rw [upd_ne ne]; exact k1, k2, fun k x hk hx => ?_⟩
    by_cases ek : k = m.n
    · rw [ek, cons1_at]
      exact Ne.symm ne
    · rw [cons1_ne (lt k hk ek)]
      exact k3 k x (lt k hk ek) (by rw [← get k ek]; exact hx)
  · by_cases ek : k = m.n
    · rw [ek, get0] at hw
      cases hw
      rw [ek, cons1_at]
      exact ⟨hb, r⟩
    · rw [get k ek] at hw
      rw [cons1_ne (lt k hk ek)]
      obtain ⟨k1, k2⟩ := s.at_ k w (lt k hk ek) hw
      exact ⟨k1, k2.mono (s.leNew q mo) fun x hx => by rw [upd_ne (live k w (lt k hk ek) hw)]; exact hx⟩
  · by_cases ej : j = m.n
    · by_cases ek : k = m.n
      · rw [ej, ek]
      · rw [get k ek] at hx
        rw [ej, cons1_at, cons1_ne (lt k hk ek)] at e
        exact absurd e.symm (live k x (lt k hk ek) hx)
    · rw [get j ej] at hw
      by_cases ek : k = m.n
      · rw [ek, cons1_at, cons1_ne (lt j hj ej)] at e
        exact absurd e (live j w (lt j hj ej) hw)
      · rw [get k ek] at hx
        rw [cons1_ne (lt j hj ej), cons1_ne (lt k hk ek)] at e
        exact s.inj j k w x (lt j hj ej) (lt k hk ek) hw hx e
def rdP (P : Pm) (E : XK) (ps : List (SE × SE)) : List (TE × TE) := ps.map fun p => (tX P E p.1, tX P E p.2)
def RepP (K : PySem.W.Frag) (B : Hp) (A : Nat → Addr) (n : Nat) : List (V × V) → List (D × D) → Prop := Paired fun (p : V × V) (q : D × D) => Rep K B A n p.1 q.1 ∧ Rep K B A n p.2 q.2
theorem pairs_go : ∀ {ps : List (SE × SE)} {σ : L2.St} {H : Hp} {Q : List (V × V) → Hp → Prop} {F B : Hp} {A : Nat → Addr} {ρ : Ev} {m : Mem} {q : List (D × D) → Mem → Prop}, SR P F B A m H → EnvR P.K B A m.n σ ρ → (prE ps ρ m).wp q (exV P E F B A m.n) →
    (∀ ds m1 B1 A1 H1 vs, q ds m1 → Le B A m.n B1 A1 m1.n → SR P F B1 A1 m1 H1 → RepP P.K B1 A1 m1.n vs ds → Q vs H1) → tPairs (rdP P E ps) σ H Q
  | [], σ, H, Q, F, B, A, ρ, m, q, s, e, h, k => k [] m B A H [] h Le.refl s .nil
  | (fk, fv) :: ps, σ, H, Q, F, B, A, ρ, m, q, s, e, h, k => by
    unfold prE at h
    refine tX_go s e (wp_bind h) fun dk m1 B1 A1 H1 x h1 l1 s1 rk => ?_
    refine tX_go s1 (e.mono l1) (wp_le l1 (wp_bind h1)) fun dv m2 B2 A2 H2 y h2 l2 s2 rv => ?_
    refine pairs_go s2 ((e.mono l1).mono l2) (wp_le (l1.trans l2) (wp_bind h2)) fun ds m3 B3 A3 H3 vs h3 l3 s3 rs => ?_
    exact k _ m3 B3 A3 H3 _ h3 ((l1.trans l2).trans l3) s3 (.cons ⟨(rk.mono l2).mono l3, rv.mono l3⟩ rs)
theorem keys_of {B : Hp} {A : Nat → Addr} {n : Nat} : ∀ {vs : List (V × V)} {ds : List (D × D)} {kds : List (KeyS × D)}, RepP P.K B A n vs ds → keysOf ds = some kds →
    ∃ kvs : List (Key × V), vs = kvs.map (fun kv => (L2.kV kv.1, kv.2)) ∧ Paired (fun (p : Key × V) (q : Key × D) => p.1 = q.1 ∧ Rep P.K B A n p.2 q.2) kvs kds
  | _, _, kds, .nil, h => by
    cases h
    exact ⟨[], rfl, .nil⟩
  | (x, y) :: vs, (dk, dv) :: ds, kds, .cons r t, h => by
    unfold keysOf at h
    split at h
    · rename_i ky kr h1 h2
      cases h
      obtain ⟨kvs, e, pr⟩ := keys_of t h2
      have e1 : x = L2.kV ky := key_of r.1 h1
      refine ⟨(ky, y) :: kvs, by rw [List.map_cons, e, e1], .cons ⟨rfl, r.2⟩ pr⟩
    · cases h
theorem merge_rep {B : Hp} {A : Nat → Addr} {n : Nat} : ∀ {more : List (Key × V)} {mds : List (KeyS × D)} {kvs : List (Key × V)} {kds : List (KeyS × D)}, Paired (fun (p : Key × V) (q : Key × D) => p.1 = q.1 ∧ Rep P.K B A n p.2 q.2) more mds →
    Paired (fun (p : Key × V) (q : Key × D) => p.1 = q.1 ∧ Rep P.K B A n p.2 q.2) kvs kds → Paired (fun (p : Key × V) (q : Key × D) => p.1 = q.1 ∧ Rep P.K B A n p.2 q.2) (mergeK kvs more) (mergeD kds mds)
  | _, _, kvs, kds, .nil, h => h
  | p :: more, q :: mds, kvs, kds, .cons r t, h => by
    show Paired _ (mergeK (L2.putK kvs p.1 p.2) more) (mergeD (putKD kds q.1 q.2) mds)
    rw [r.1]
    exact merge_rep t (put_rep h r.2)
theorem xe_dsp {keys : List (Option Expr)} {values : List Expr} {ps : List (SE × SE)} (h : PPs X pos keys values (rdP P E ps)) (hall : keys.all (·.isSome) = true := by rfl) (hl : keys.length = values.length := by rfl) (h0 : keys ≠ [] := by exact fun z => nomatch z)
    (h15 : keys.length ≤ 15 := by decide) : PE X (.Dict keys values pos) (tX P E (dspE ps)) := by
  refine pe_imp (pe_disp h hall hl h0 h15) fun σ H Q ⟨F, B, A, ρ, m, s, e, h⟩ => ?_
  intro q hq
  have hF : F q = none := by
    cases hf : F q with
    | none => rfl
    | some o =>
      have := (s.fr q o hf).1
      rw [hq] at this
      cases this
  have sF : SR P (upd F q (.dK [])) B A m (upd H q (.dK [])) := s.frame hq
  have h0 : (prE ps ρ m).wp (fun xs m1 => (dspK xs m1).wp (okD P F B A m.n Q) (exV P E F B A m.n)) (exV P E (upd F q (.dK [])) B A m.n) := by
    refine Rs.wp_mono (wp_bind h) (fun _ _ x => x) fun e m' x B' A' H' c dd l s' rx => x B' A' H' c dd l (s'.unframe hF) rx
  refine pairs_go sF e h0 fun ds m1 B1 A1 H1 vs h1 l1 s1 rs => ?_
  unfold dspK at h1
  split at h1
  · rename_i kds hk
    obtain ⟨kvs, ev, pr⟩ := keys_of rs hk
    split at h1
    · rename_i hlen
      refine ⟨(s1.fr q _ upd_same).1, kvs, ev, by rw [Paired.length pr]; exact hlen, ?_⟩
      have l2 : Le B1 A1 m1.n B1 (cons1 A1 m1.n q) (m1.n + 1) := s1.leNew q (.dct (mergeD [] kds))
      have r : RepO P B1 (cons1 A1 m1.n q) (m1.n + 1) (upd H1 q (.dK (mergeK [] kvs))) q (.dct (mergeD [] kds)) := .dct upd_same (L2.Paired.mapP (merge_rep pr .nil) fun _ _ z => ⟨z.1, z.2.mono l2⟩)
      exact h1 B1 _ _ (.ref q) (l1.trans l2) (s1.newAt hF r) (.loc (Nat.lt_succ_self _) cons1_at)
    · exact h1.elim
  · exact h1.elim
theorem xp_nil : PPs X pos [] [] (rdP P E []) := pps_nil
theorem xp_cons {k v : Expr} {ks : List (Option Expr)} {vs : List Expr} {fk fv : SE} {ps : List (SE × SE)} (hk : PE X k (tX P E fk)) (hv : PE X v (tX P E fv)) (hr : PPs X pos ks vs (rdP P E ps)) : PPs X pos (some k :: ks) (v :: vs) (rdP P E ((fk, fv) :: ps)) := pps_cons hk hv hr
theorem xs_dput {k : Nat} {pos' : Pos} {o i value : Expr} {fo fi fv : SE} (hr : Room k X.A) (ho : PE X o (tX P E fo)) (hi : PE X i (tX P E fi)) (hv : PE X value (tX P E fv)) (hs : swapsWith value (some (.Subscript o i pos')) pos.line X.env = pure false := by rfl) :
    PS X (.Assign [.Subscript o i pos'] value pos) (tXS P E (sDput fo fi fv)) := by
  refine ps_imp (ps_dput (hu_of hr) ho hi hv hs) fun D σ H ⟨F, B, A, ρ, m, s, e, h⟩ => ?_
  refine tX_go s e (wp_bind h) fun dv m1 B1 A1 H1 v h1 l1 s1 rv => ?_
  refine tX_go s1 (e.mono l1) (wp_le l1 (wp_bind h1)) fun dd m2 B2 A2 H2 x h2 l2 s2 rd => ?_
  refine tX_go s2 ((e.mono l1).mono l2) (wp_le (l1.trans l2) (wp_bind h2)) fun dk m3 B3 A3 H3 y h3 l3 s3 rk => ?_
  split at h3
  · rename_i j ky hk
    split at h3
    · rename_i hj
      split at h3
      · rename_i kds hg
        split at h3
        · rename_i hl
          have rd3 := rd.mono l3
          cases rd3 with
          | loc _ ea =>
            subst ea
            obtain ⟨_, ro⟩ := s3.at_ _ _ hj hg
            cases ro with
            | @dct kvs _ hH pr =>
              have ey := key_of rk hk
              subst ey
              refine ⟨A3 j, _, rfl, DPut.k hH (by rw [Paired.length pr]; exact hl), ?_⟩
              have rv3 := (rv.mono l2).mono l3
              have s4 := s3.put (o' := .dct (putKD kds ky dv)) hj hg (.dct upd_same (put_rep pr rv3))
              exact h3 B3 A3 _ σ ((l1.trans l2).trans l3) s4 (((e.mono l1).mono l2).mono l3)
        · exact h3.elim
      · exact h3.elim
    · exact h3.elim
  · exact h3.elim

/-! ### lists of the store -/
theorem updL_wp {d : D} {f : List D → Option (List D)} {m : Mem} {q : Unit → Mem → Prop} {e : Er → Mem → Prop} (h : (updL d f m).wp q e) : ∃ j xs ys, d = .loc j ∧ j < m.n ∧ m.get j = some (.lst xs) ∧ f xs = some ys ∧ q () (m.put j (.lst ys)) := by
  unfold updL at h
  split at h
  · rename_i j
    split at h
    · rename_i hj
      split at h
      · rename_i xs hg
        split at h
        · rename_i ys hf
          exact ⟨j, xs, ys, rfl, hj, hg, hf, h⟩
        · exact h.elim
      · exact h.elim
    · exact h.elim
  · exact h.elim
theorem cell_lst {F B : Hp} {A : Nat → Addr} {m : Mem} {H : Hp} {j : Nat} {xs : List D} (s : SR P F B A m H) (hj : j < m.n) (hg : m.get j = some (.lst xs)) : ∃ vs, H (A j) = some (.lst vs) ∧ Reps P.K B A m.n vs xs := by
  obtain ⟨_, ro⟩ := s.at_ _ _ hj hg
  cases ro with
  | lst h1 h2 => exact ⟨_, h1, h2⟩
theorem chk_ty {F B : Hp} {A : Nat → Addr} {m : Mem} {H : Hp} {x : V} {d : D} {q : Unit → Mem → Prop} {e : Er → Mem → Prop} (s : SR P F B A m H) (r : Rep P.K B A m.n x d) (h : (chkL d m).wp q e) : tyV P.K "list" x H ∧ q () m := by
  unfold chkL at h
  split at h
  · rename_i hl
    obtain ⟨xs, hx⟩ := Option.isSome_iff_exists.mp hl
    obtain ⟨a, vs, rfl, ha, _⟩ := lst_of s r hx
    exact ⟨.inl ⟨rfl, vs, SqL.of ha⟩, h⟩
  · exact h.elim
theorem xe_app {o : Expr} {fo fe : SE} {ee : Expr} {apos : Pos} (ho : PE X o (tX P E fo)) (he : PE X ee (tX P E fe)) (hK : X.K = P.K)
    (hbase : attributeBase o "append" X.env (eval o X.env) = eval o X.env := by rfl)
    (hfew : ((backTo pos (starEach (ee :: []) X.env)).all (fun x => !x.1) && (backToKw pos (keywordEach [] X.env)).all (fun x => x.1.isSome) && decide ((ee :: []).length + ([] : List Keyword).length + (if ([] : List Keyword).isEmpty then 0 else 1) < 30)) = true := by rfl)
    (hline : (apos.endLine == pos.line) = true := by rfl) (hs : starEach (ee :: []) X.env = (false, eval ee X.env) :: starEach [] X.env := by rfl) (hplain : (backTo pos (starEach [] X.env)).any (·.1) = false := by rfl) :
    PE X (.Call (.Attribute o "append" apos) [ee] [] pos) (tX P E (appE fo fe)) := by
  refine pe_imp (pe_bm PySem.F.plainAttrs_list PySem.F.slot_list_append PySem.F.type_list_append mt_append ho (pa_cons he pa_nil hs) hbase hfew hline hs hplain) fun σ H Q ⟨F, B, A, ρ, m, s, e, h⟩ => ?_
  refine tX_go s e (wp_bind h) fun ld m1 B1 A1 H1 x h1 l1 s1 rl => ?_
  obtain ⟨ht, h1⟩ := chk_ty s1 rl (wp_bind h1)
  refine ⟨by rw [hK]; exact ht, ?_⟩
  refine tX_go s1 (e.mono l1) (wp_le l1 (wp_bind h1)) fun ed m2 B2 A2 H2 y h2 l2 s2 re => ?_
  obtain ⟨j, xs, ys, ej, hj, hg, hf, h3⟩ := updL_wp (wp_bind h2)
  subst ej
  split at hf
  · rename_i hl
    cases hf
    obtain ⟨vs, hv, rs⟩ := cell_lst s2 hj hg
    have rl2 := rl.mono l2
    cases rl2 with
    | loc _ ea =>
      subst ea
      refine ⟨A2 j, vs, y, rfl, rfl, hv, by rw [rs.length]; exact hl, ?_⟩
      have s3 := s2.put (o' := .lst (xs ++ [ed])) hj hg (.lst upd_same (rs.append (.cons re .nil)))
      exact h3 B2 A2 _ .non (l1.trans l2) s3 .non
  · cases hf
theorem xs_lput {o i value : Expr} {fo fi fv : SE} {p2 : Pos} (ho : PE X o (tX P E fo)) (hi : PE X i (tX P E fi)) (hv : PE X value (tX P E fv))
    (ha : ∀ v, assign (.Subscript o i p2) X.env v = (do
      let ov ← holding [v] (eval o X.env)
      let iv ← holding [v, ov] (eval i X.env)
      standAt p2
      holding [v, ov, iv] (setItem ov iv v)
      release [v, ov, iv] []) := by intro _; rfl)
    (hs : swapsWithSole [.Subscript o i p2] value pos.line X.env = pure false := by rfl) (hw : swappedStores [.Subscript o i p2] value X.env = pure none := by rfl) (h1 : (assignEach [.Subscript o i p2] X.env).map (·.2) = [assign (.Subscript o i p2) X.env] := by rfl) :
    PS X (.Assign [.Subscript o i p2] value pos) (tXS P E (sLput fo fi fv)) := by
  refine ps_imp (ps_asg hv (pg_sub ho hi set_list ha) hs hw h1) fun D σ H ⟨F, B, A, ρ, m, s, e, h⟩ => ?_
  refine tX_go s e (wp_bind h) fun ed m1 B1 A1 H1 x h1 l1 s1 re => ?_
  refine tX_go s1 (e.mono l1) (wp_le l1 (wp_bind h1)) fun ld m2 B2 A2 H2 y h2 l2 s2 rl => ?_
  refine tX_go s2 ((e.mono l1).mono l2) (wp_le (l1.trans l2) (wp_bind h2)) fun id m3 B3 A3 H3 z h3 l3 s3 ri => ?_
  replace h3 := wp_bind h3
  unfold lputK at h3
  split at h3
  · rename_i i
    cases ri
    obtain ⟨j, xs, ys, ej, hj, hg, hf, h4⟩ := updL_wp h3
    subst ej
    cases hix : ixD xs.length i with
    | none => rw [hix] at hf; cases hf
    | some n =>
      rw [hix] at hf
      cases hf
      obtain ⟨vs, hv, rs⟩ := cell_lst s3 hj hg
      have rl3 := rl.mono l3
      cases rl3 with
      | loc _ ea =>
        subst ea
        refine ⟨A3 j, vs, i, n, rfl, rfl, hv, by rw [rs.length, ← ix_eq]; exact hix, ?_⟩
        have s4 := s3.put (o' := .lst (xs.set n ed)) hj hg (.lst upd_same (rs.set ((re.mono l2).mono l3) n))
        exact h4 B3 A3 _ σ ((l1.trans l2).trans l3) s4 (((e.mono l1).mono l2).mono l3)
  · exact h3.elim
/-! constants of the module -/
theorem xe_glob {x : Str} {v : V} {u : Value} {d : D} (hg : Gl X x) (hm : X.mg x = some u) (r : RelV v u) (h : ∀ B A n, Rep P.K B A n v d) (hd : (x == ("__debug__" : Str)) = false := by decide) : PE X (.Name x pos) (tX P E (cn d)) := xe_c (pe_glob hg hm r hd) h
end
end LB

set_option Elab.async false
set_option linter.all false
set_option autoImplicit false
set_option maxRecDepth 100000
set_option maxHeartbeats 2000000
/-! What is walked: lists, tuples, ranges, enumerate, zip of any. -/
namespace LB
open PySem PySem.Spec PyProof.Rows L2

section
variable {X : Cx} {P : Pm} {E : XK} {pos : Pos} {tg : Expr}
def isL : D → Bool
  | .tup _ => false
  | _ => true
theorem sq_ofL {F B : Hp} {A : Nat → Addr} {m : Mem} {H : Hp} {v : V} {d : D} {ds : List D} (s : SR P F B A m H) (r : Rep P.K B A m.n v d) (hL : isL d = true) (h : sqOf m d = some ds) : ∃ a vs, v = .ref a ∧ SqL P.K H a vs ∧ Reps P.K B A m.n vs ds := by
  cases r with
  | tup _ _ => cases hL
  | lst hb rs =>
    obtain ⟨a, vs, e, h1, h2⟩ := lst_of s (.lst hb rs) h
    exact ⟨a, vs, e, SqL.of h1, h2⟩
  | loc hk ea =>
    obtain ⟨a, vs, e, h1, h2⟩ := lst_of s (.loc hk ea) h
    exact ⟨a, vs, e, SqL.of h1, h2⟩
  | @scr a ns hq =>
    cases h
    exact ⟨a, _, rfl, s.ex.l hq, reps_ints ns⟩
  | _ => cases h
theorem sq_ofT {F B : Hp} {A : Nat → Addr} {m : Mem} {H : Hp} {v : V} {ds : List D} (s : SR P F B A m H) (r : Rep P.K B A m.n v (.tup ds)) : ∃ a vs, v = .ref a ∧ SqT P.K H a vs ∧ Reps P.K B A m.n vs ds := by
  cases r with
  | tup hq rs => exact ⟨_, _, rfl, s.ex.t hq, rs⟩
theorem jok_lst {F B : Hp} {A : Nat → Addr} {n : Nat} {a : Addr} {d : D} (hL : isL d = true) (r : Rep P.K B A n (.ref a) d) : JOk P F B A n (Itl P.K a) (wkSeq d) := by
  intro i F' B' A' m' H' _ l s
  have r' := r.mono l
  unfold wkSeq
  cases hs : sqOf m' d with
  | none => exact ⟨fun h => (by cases h), fun x h => (by cases h)⟩
  | some ys =>
    obtain ⟨a', vs, ea, hq, rs⟩ := sq_ofL s r' hL hs
    cases ea
    refine ⟨fun h => ?_, fun x h => ?_⟩
    · simp only [Option.map_some, Option.some.injEq] at h
      refine ⟨vs, hq, ?_⟩
      rw [rs.length]
      exact List.getElem?_eq_none_iff.mp h
    · simp only [Option.map_some, Option.some.injEq] at h
      obtain ⟨v, hv, rv⟩ := rs.get h
      refine ⟨⟨vs, v, hq, hv⟩, fun y H2 hy => ?_⟩
      obtain ⟨e1, e2⟩ := hy
      subst e1
      have := e2 vs hq
      rw [hv] at this
      cases this
      exact ⟨B', Ex.refl B', s, rv⟩
theorem jok_tup {F B : Hp} {A : Nat → Addr} {n : Nat} {a : Addr} {ds : List D} (r : Rep P.K B A n (.ref a) (.tup ds)) : JOk P F B A n (Itt P.K a) (wkSeq (.tup ds)) := by
  intro i F' B' A' m' H' _ l s
  have r' := r.mono l
  obtain ⟨a', vs, ea, hq, rs⟩ := sq_ofT s r'
  cases ea
  refine ⟨fun h => ?_, fun x h => ?_⟩
  · have h' : ds[i]? = none := by
      have h2 : some ds[i]? = some none := h
      exact Option.some.inj h2
    refine ⟨vs, hq, ?_⟩
    rw [rs.length]
    exact List.getElem?_eq_none_iff.mp h'
  · have h' : ds[i]? = some x := by
      have h2 : some ds[i]? = some (some x) := h
      exact Option.some.inj h2
    obtain ⟨v, hv, rv⟩ := rs.get h'
    refine ⟨⟨vs, v, hq, hv⟩, fun y H2 hy => ?_⟩
    obtain ⟨e1, e2⟩ := hy
    subst e1
    have := e2 vs hq
    rw [hv] at this
    cases this
    exact ⟨B', Ex.refl B', s, rv⟩
/-- for x in xs, xs a list or a tuple -/
theorem xi_seq {l : Expr} {f : SE} (hK : X.K = P.K) (hl : PE X l (tX P E f)) : PI X tg l (tXI P E (itSeq f)) := by
  refine ⟨fun pins s σ H R I ⟨F, B, A, ρ, m, sr, e, h⟩ => ?_⟩
  have h1 := wp_bind h
  have both : (∃ ds m', f ρ m = .ok (.tup ds) m') ∨ ∀ d m', f ρ m = .ok d m' → isL d = true := by
    generalize f ρ m = r
    cases r with
    | bad => exact .inr fun _ _ e => nomatch e
    | ex _ _ => exact .inr fun _ _ e => nomatch e
    | ok d m' =>
      cases d with
      | tup ds => exact .inl ⟨ds, m', rfl⟩
      | _ => exact .inr fun d m2 e => by cases e; rfl
  rcases both with ⟨ds, m', hf⟩ | hL
  · refine (pi_tup hl).run pins s σ H R I ?_
    rw [hf] at h1
    refine tX_go (q := fun d m2 => d = .tup ds ∧ m2 = m') sr e (by rw [hf]; exact ⟨rfl, rfl⟩) fun d m1 B1 A1 H1 x h2 l1 s1 rx => ?_
    obtain ⟨rfl, rfl⟩ := h2
    obtain ⟨a, vs, ea, hq, rs⟩ := sq_ofT s1 rx
    subst ea
    refine ⟨a, rfl, ⟨vs, by rw [hK]; exact hq⟩, ?_⟩
    rw [hK]
    exact h1 B1 A1 H1 _ l1 s1 (jok_tup rx)
  · refine (pi_list hl).run pins s σ H R I ?_
    have h2 : (f ρ m).wp (fun d m' => isL d = true ∧ Rs.wp (match sqOf m' d with
      | some xs => Rs.ok (wkSeq d, xs.length) m'
      | none => Rs.bad) (fun w m' => ∀ B' A' H' J, Le B A m.n B' A' m'.n → SR P F B' A' m' H' → JOk P F B' A' m'.n J w.1 → R J H') (exV P E F B A m.n)) (exV P E F B A m.n) := by
      generalize hr : f ρ m = r at h1 hL ⊢
      cases r with
      | bad => exact h1
      | ok d m' => exact ⟨hL d m' rfl, h1⟩
      | ex x m' => exact h1
    refine tX_go sr e h2 fun d m1 B1 A1 H1 x h3 l1 s1 rx => ?_
    obtain ⟨hL1, h3⟩ := h3
    cases hs : sqOf m1 d with
    | none => rw [hs] at h3; exact h3.elim
    | some ys =>
      rw [hs] at h3
      obtain ⟨a, vs, ea, hq, rs⟩ := sq_ofL s1 rx hL1 hs
      subst ea
      refine ⟨a, rfl, ⟨vs, by rw [hK]; exact hq⟩, ?_⟩
      rw [hK]
      exact h3 B1 A1 H1 _ l1 s1 (jok_lst hL1 rx)
/-! ranges -/
theorem s62 {i : Int} (h : small62 i = true) : -(2 ^ 62) ≤ i ∧ i < 2 ^ 62 := by
  unfold small62 at h
  rw [Bool.and_eq_true, decide_eq_true_eq, decide_eq_true_eq] at h
  exact h
theorem jok_rng {F B : Hp} {A : Nat → Addr} {n k : Nat} {lo : Int} : JOk P F B A n (Itr lo k) (wkRng lo k) := by
  intro i F' B' A' m' H' _ l s
  unfold wkRng
  refine ⟨fun h => ?_, fun x h => ?_⟩
  · simp only [Option.some.injEq] at h
    split at h
    · cases h
    · rename_i hi
      exact Nat.le_of_not_lt hi
  · simp only [Option.some.injEq] at h
    split at h
    · rename_i hi
      cases h
      refine ⟨hi, fun y H2 hy => ?_⟩
      obtain ⟨e1, e2⟩ := hy
      subst e1
      subst e2
      exact ⟨B', Ex.refl B', s, .int _⟩
    · cases h
theorem xi_rng1 {a : Expr} {fas : SA} {p : Pos} (hg : Gl X "range") (hm : X.mg "range" = none) (ha : PA X [a] (tXA P E fas)) (hs : starEach [a] X.env = [(false, eval a X.env)] := by rfl) : PI X tg (.Call (.Name "range" p) [a] [] pos) (tXI P E (itRng1 fas)) := by
  refine pi_imp (pi_range1 hg hm ha hs) fun σ H R ⟨F, B, A, ρ, m, s, e, h⟩ => ?_
  refine tXA_go s e (wp_bind h) fun ds m1 B1 A1 H1 vs h1 l1 s1 rs => ?_
  split at h1
  · obtain ⟨v, rfl, r⟩ := rs.one
    cases r
    split at h1
    · rename_i hh
      exact ⟨_, rfl, (s62 hh).1, (s62 hh).2, h1 B1 A1 H1 _ l1 s1 jok_rng⟩
    · exact h1.elim
  · exact h1.elim
end
end LB

set_option Elab.async false
set_option linter.all false
set_option autoImplicit false
set_option maxRecDepth 100000
set_option maxHeartbeats 2000000
/-! zip and enumerate over lists, tuples, texts in any mix. -/
namespace LB
open PySem PySem.Spec PyProof.Rows L2

/-- what an iterator is made of -/
inductive Src where
  | lst (a : Addr)
  | tup (a : Addr)
  | txt (x : Str) (t : Tok)
namespace Src
def val : Src → Value
  | .lst a => .ref a
  | .tup a => .ref a
  | .txt x t => .str x t
def obj : Src → Obj
  | .lst a => { cls := .type "list_iterator", data := .fields #[.ref a, .int 0 0] }
  | .tup a => { cls := .type "tuple_iterator", data := .fields #[.ref a, .int 0 0] }
  | .txt x t => { cls := .type (strIterType x), data := .fields #[.str x t, .int 0 0] }
def fp : Src → List Addr
  | .lst a => [a]
  | .tup a => [a]
  | .txt _ _ => []
def signs (x : Str) : List V := x.cps.toList.map fun c => .str ⟨#[c]⟩
def has (K : PySem.W.Frag) (H : Hp) : Src → List V → Prop
  | .lst a, xs => SqL K H a xs
  | .tup a, xs => SqT K H a xs
  | .txt x _, xs => xs = signs x
def it (e : Addr) (i : Nat) (h : Heap) : Src → Prop
  | .lst a => h.IsListIter e a i
  | .tup a => h.IsTupleIter e a i
  | .txt x t => h.IsStrIter e (strIterType x) x t i
def live (h : Heap) (its : Array Value) : Src → Prop
  | .lst a => h.IsList a its
  | .tup a => h.IsTuple a its
  | .txt _ _ => True
def len (its : Array Value) : Src → Nat
  | .lst _ => its.size
  | .tup _ => its.size
  | .txt x _ => x.cps.size
def gives (its : Array Value) : Src → Nat → Value → Prop
  | .lst _, i, v => its[i]? = some v
  | .tup _, i, v => its[i]? = some v
  | .txt x _, i, v => ∃ c u, x.cps[i]? = some c ∧ v = .str ⟨#[c]⟩ u
theorem begins (its : Array Value) : ∀ k : Src, Begins k.val k.obj fun h => k.live h its
  | .lst a => begins_list a its
  | .tup a => begins_tuple a its
  | .txt x t => begins_text x t
theorem draws {prog : Program} {w : World} {A : Around} (hh : A.handled = none) (its : Array Value) (e : Addr) : ∀ k : Src, e ∉ k.fp → Draws prog w A e (e :: k.fp) (k.len its) (k.gives its) fun i h => k.it e i h ∧ k.live h its
  | .lst a, hn => Draws.list hh e a (fun q => hn (by rw [q]; exact List.mem_singleton.mpr rfl)) its
  | .tup a, hn => Draws.tuple hh e a (fun q => hn (by rw [q]; exact List.mem_singleton.mpr rfl)) its
  | .txt x t, _ => by
    have D := Draws.text (prog := prog) (w := w) hh e x t
    exact ⟨fun i h st => D.live i h st.1, fun i h h' st hk => ⟨D.frame i h h' st.1 hk, trivial⟩, fun i s Q E hi st hQ => D.item i s Q E hi st.1 fun x' h' tk hP st' hb => hQ x' h' tk hP ⟨st', trivial⟩ hb, fun s Q E st hE => D.done s Q E st.1 hE⟩
theorem it_new (h : Heap) (e : Addr) : ∀ k : Src, h.get? e = some k.obj → k.it e 0 h
  | .lst _, q => ⟨_, q, rfl, rfl⟩
  | .tup _, q => ⟨_, q, rfl, rfl⟩
  | .txt _ _, q => ⟨_, q, rfl, rfl⟩
theorem it_obj {h : Heap} {e : Addr} {i : Nat} : ∀ {k : Src}, k.it e i h → ∃ o, h.get? e = some o ∧ ∀ v, o.data ≠ .cell v
  | .lst _, ⟨o, q, _, d⟩ => ⟨o, q, fun v z => by rw [d] at z; cases z⟩
  | .tup _, ⟨o, q, _, d⟩ => ⟨o, q, fun v z => by rw [d] at z; cases z⟩
  | .txt _ _, ⟨o, q, _, d⟩ => ⟨o, q, fun v z => by rw [d] at z; cases z⟩
theorem it_at {h h' : Heap} {e : Addr} {i : Nat} (hk : ∀ o, h.get? e = some o → h'.get? e = some o) : ∀ {k : Src}, k.it e i h → k.it e i h'
  | .lst _, ⟨o, q, r⟩ => ⟨o, hk o q, r⟩
  | .tup _, ⟨o, q, r⟩ => ⟨o, hk o q, r⟩
  | .txt _ _, ⟨o, q, r⟩ => ⟨o, hk o q, r⟩
section
variable {X : Cx} {pins : List (Addr × Obj)} {σ : L2.St} {H : Hp} {s : Shared}
/-- what the heap says of it -/
theorem seen (I : Inv X pins σ H s) : ∀ {k : Src} {xs : List V}, k.has X.K H xs → ∃ its : Array Value, k.live s.heap its ∧ k.len its = xs.length ∧ (∀ i v, k.gives its i v → ∃ x, xs[i]? = some x ∧ RelV x v) ∧ ∀ b ∈ k.fp, b < s.heap.objs.size
  | .lst a, xs, h => by
    obtain ⟨its, rv, p, _⟩ := I.list h
    obtain ⟨o, n, ho, hc, hd, hs⟩ := id p
    refine ⟨its.toArray, p.isList, by show its.toArray.size = _; rw [List.size_toArray]; exact rv.length.symm, fun i v hv => ?_, fun b hb => ?_⟩
    · have hv' : its[i]? = some v := by simpa using (show its.toArray[i]? = some v from hv)
      cases hx : xs[i]? with
      | none => rw [Vals.none_of rv hx] at hv'; cases hv'
      | some x =>
        obtain ⟨u, hu, ru⟩ := rv.get hx
        rw [hu] at hv'
        cases hv'
        exact ⟨x, rfl, ru⟩
    · rw [List.mem_singleton.mp hb]
      exact p.lt
  | .tup a, xs, h => by
    obtain ⟨its, rv, p, _⟩ := I.tuple h
    obtain ⟨o, ho, _⟩ := id p
    refine ⟨its.toArray, p, by show its.toArray.size = _; rw [List.size_toArray]; exact rv.length.symm, fun i v hv => ?_, fun b hb => ?_⟩
    · have hv' : its[i]? = some v := by simpa using (show its.toArray[i]? = some v from hv)
      cases hx : xs[i]? with
      | none => rw [Vals.none_of rv hx] at hv'; cases hv'
      | some x =>
        obtain ⟨u, hu, ru⟩ := rv.get hx
        rw [hu] at hv'
        cases hv'
        exact ⟨x, rfl, ru⟩
    · rw [List.mem_singleton.mp hb]
      exact Heap.lt_size ho
  | .txt x t, xs, h => by
    have h' : xs = signs x := h
    subst h'
    refine ⟨#[], trivial, by show x.cps.size = _; simp [signs], fun i v hv => ?_, fun b hb => nomatch hb⟩
    obtain ⟨c, u, hc, rfl⟩ := hv
    refine ⟨.str ⟨#[c]⟩, ?_, ⟨u, rfl⟩⟩
    unfold signs
    rw [List.getElem?_map]
    have : x.cps.toList[i]? = some c := by simpa using hc
    rw [this]
    rfl
theorem has_inj (I : Inv X pins σ H s) : ∀ {k : Src} {xs ys : List V}, k.has X.K H xs → k.has X.K H ys → xs = ys
  | .lst _, _, _, h, h' => I.list_inj h h'
  | .tup _, _, _, h, h' => I.tuple_inj h h'
  | .txt _ _, _, _, h, h' => (show _ = _ from h).trans (show _ = _ from h').symm
end
end Src

/-! ### zip -/
def ItZ (K : PySem.W.Frag) (k1 k2 : Src) : It :=
  ⟨fun i H => ∃ xs ys : List V, k1.has K H xs ∧ k2.has K H ys ∧ i < min xs.length ys.length,
   fun i H v H' => ∃ T x y, v = .ref T ∧ H T = none ∧ H' = upd H T (.tup [x, y]) ∧ (∀ xs, k1.has K H xs → xs[i]? = some x) ∧ ∀ ys, k2.has K H ys → ys[i]? = some y,
   fun i H => ∃ xs ys : List V, k1.has K H xs ∧ k2.has K H ys ∧ i = min xs.length ys.length⟩
theorem turn_zipK {Pg : Program} {w : World} {K : PySem.W.Frag} {elts : List Expr} {kk : Nat} {tpos : Pos} {k1 k2 : Src} {z TI TO e1 e2 : Addr} (S : ZipSep2 z TI TO e1 e2 (e1 :: k1.fp) (e2 :: k2.fp)) (n1 : e1 ∉ k1.fp) (n2 : e2 ∉ k2.fp) :
    Turn Pg w K (.Tuple elts kk tpos) (ItZ K k1 k2) [z, TI, TO, e1, e2] z (fun i h => IsZip h z TI TO .none ∧ IsTupOf2 h TI (.ref e1) (.ref e2) ∧ (∃ x y, IsTupOf2 h TO x y) ∧ k1.it e1 i h ∧ k2.it e2 i h) where
  mem := List.mem_cons_self
  obj := fun i h ⟨hz, hTI, ⟨x, y, hTO⟩, h1, h2⟩ c hc => by
    simp only [List.mem_cons, List.not_mem_nil, or_false] at hc
    rcases hc with q | q | q | q | q
    · exact ⟨_, q ▸ hz, fun v r => by cases r⟩
    · exact ⟨_, q ▸ hTI, fun v r => by cases r⟩
    · exact ⟨_, q ▸ hTO, fun v r => by cases r⟩
    · rw [q]; exact Src.it_obj h1
    · rw [q]; exact Src.it_obj h2
  keep := fun i h h' ⟨hz, hTI, ⟨x, y, hTO⟩, h1, h2⟩ k =>
    ⟨k z (by simp) _ hz, k TI (by simp) _ hTI, ⟨x, y, k TO (by simp) _ hTO⟩, Src.it_at (fun o q => k e1 (by simp) o q) h1, Src.it_at (fun o q => k e2 (by simp) o q) h2⟩
  item := by
    intro X hP hw hK hc i pins s σ H E I hf st hg
    subst hP hw hK
    obtain ⟨xs, ys, hx, hy, hi⟩ := hg
    obtain ⟨hz, hTI, ⟨x0, y0, hTO⟩, h1, h2⟩ := st
    obtain ⟨its1, lv1, ln1, gv1, lt1⟩ := Src.seen I hx
    obtain ⟨its2, lv2, ln2, gv2, lt2⟩ := Src.seen I hy
    have hh : X.A.in1.handled = none := I.ok.hd hc
    have W := GoesN.zip2 (prog := X.prog) (w := X.w) (A := X.A) (elts := elts) (x1 := kk) (pos := tpos) S (Src.draws hh its1 e1 k1 n1) (Src.draws hh its2 e2 k2 n2)
    refine W.goes i s _ E (by rw [ln1, ln2]; exact hi) ⟨hz, hTI, ⟨x0, y0, hTO⟩, ⟨h1, lv1⟩, ⟨h2, lv2⟩⟩ fun v h' tk hY st' hk htk => ?_
    obtain ⟨T, u1, u2, rfl, hT, p1, p2, hTup⟩ := hY
    obtain ⟨x, hx1, r1⟩ := gv1 i u1 p1
    obtain ⟨y, hy1, r2⟩ := gv2 i u2 p2
    have new : ObjOk X.prog X.w (upd H T (.tup [x, y])) h' T (.tup [x, y]) := ⟨by show 2 ≤ sizeLine; decide, [u1, u2], .cons r1 (.cons r2 .nil), hTup⟩
    have I1 := I.turnedNew (t' := tk) (ch := [z, TI, TO, e1, e2]) (fun c o hb q => hk c o (fun hm => hb (by
      simp only [List.mem_cons, List.not_mem_nil, or_false] at hm ⊢
      rcases hm with r | r | r | r
      · exact .inl r
      · exact .inr (.inr (.inl r))
      · exact .inr (.inr (.inr (.inl r)))
      · exact .inr (.inr (.inr (.inr r))))) q) hf hT new
    refine ⟨.ref T, _, I1, rfl, ⟨T, x, y, rfl, I.hok.fresh hT, rfl, fun l hl => by rw [Src.has_inj I hl hx]; exact hx1, fun l hl => by rw [Src.has_inj I hl hy]; exact hy1⟩, ⟨st'.1, st'.2.1, st'.2.2.1, st'.2.2.2.1.1, st'.2.2.2.2.1⟩, fun c hcm => ?_⟩
    have hlt : c < s.heap.objs.size := by
      simp only [List.mem_cons, List.not_mem_nil, or_false] at hcm
      rcases hcm with q | q | q | q | q
      · rw [q]; exact Heap.lt_size hz
      · rw [q]; exact Heap.lt_size hTI
      · rw [q]; exact Heap.lt_size hTO
      · rw [q]; obtain ⟨o, ho, _⟩ := Src.it_obj h1; exact Heap.lt_size ho
      · rw [q]; obtain ⟨o, ho, _⟩ := Src.it_obj h2; exact Heap.lt_size ho
    rw [upd_ne (Nat.ne_of_lt (Nat.lt_of_lt_of_le hlt hT))]
    exact (hf c hcm).1
  done := by
    intro X hP hw hK hc i pins s σ H E I hf st hg
    subst hP hw hK
    obtain ⟨xs, ys, hx, hy, hi⟩ := hg
    obtain ⟨hz, hTI, ⟨x0, y0, hTO⟩, h1, h2⟩ := st
    obtain ⟨its1, lv1, ln1, gv1, lt1⟩ := Src.seen I hx
    obtain ⟨its2, lv2, ln2, gv2, lt2⟩ := Src.seen I hy
    have hh : X.A.in1.handled = none := I.ok.hd hc
    have W := GoesN.zip2 (prog := X.prog) (w := X.w) (A := X.A) (elts := elts) (x1 := kk) (pos := tpos) S (Src.draws hh its1 e1 k1 n1) (Src.draws hh its2 e2 k2 n2)
    have hn : i = min (k1.len its1) (k2.len its2) := by rw [ln1, ln2]; exact hi
    subst hn
    refine W.stops s _ E ⟨hz, hTI, ⟨x0, y0, hTO⟩, ⟨h1, lv1⟩, ⟨h2, lv2⟩⟩ fun h' tk hk htk => ?_
    exact I.turnedL (t' := tk) (ch := [z, TI, TO, e1, e2]) (fun c o hb q => hk c o (fun hm => hb (by
      simp only [List.mem_cons, List.not_mem_nil, or_false] at hm ⊢
      rcases hm with r | r | r | r
      · exact .inl r
      · exact .inr (.inr (.inl r))
      · exact .inr (.inr (.inr (.inl r)))
      · exact .inr (.inr (.inr (.inr r))))) q) hf
  self := fun A i s Q E st h => wpAny_pyIter_zip st.1 h

/-! ### what a value is a source of -/
/-- a source that stands for data -/
def srcOf (K : PySem.W.Frag) (B : Hp) (A : Nat → Addr) (n : Nat) (k : Src) (x : V) (d : D) : Prop := match k with
  | .lst a => x = .ref a ∧ Rep K B A n x d ∧ isL d = true ∧ ∀ z, d ≠ .str z
  | .tup a => x = .ref a ∧ Rep K B A n x d ∧ isL d = false
  | .txt z _ => x = .str z ∧ d = .str z
theorem srcOf.mono {K : PySem.W.Frag} {B B' : Hp} {A A' : Nat → Addr} {n n' : Nat} {k : Src} {x : V} {d : D} (l : Le B A n B' A' n') (h : srcOf K B A n k x d) : srcOf K B' A' n' k x d := by
  cases k with
  | lst a => exact ⟨h.1, h.2.1.mono l, h.2.2⟩
  | tup a => exact ⟨h.1, h.2.1.mono l, h.2.2⟩
  | txt z t => exact h
theorem reps_signs {K : PySem.W.Frag} {B : Hp} {A : Nat → Addr} {n : Nat} (z : Str) : Reps K B A n (Src.signs z) (strOf z) := by
  unfold Src.signs strOf
  generalize z.cps.toList = l
  induction l with
  | nil => exact .nil
  | cons c r ih => exact .cons (.str _) ih
theorem src_has {P : Pm} {F B : Hp} {A : Nat → Addr} {m : Mem} {H : Hp} {k : Src} {x : V} {d : D} {ds : List D} (s : SR P F B A m H) (h : srcOf P.K B A m.n k x d) (hw : wlkOf m d = some ds) : ∃ xs, k.has P.K H xs ∧ Reps P.K B A m.n xs ds := by
  cases k with
  | lst a =>
    obtain ⟨rfl, r, hL, hS⟩ := h
    have hw' : sqOf m d = some ds := by
      cases d with
      | str z => exact absurd rfl (hS z)
      | _ => exact hw
    obtain ⟨a', vs, ea, hq, rs⟩ := sq_ofL s r hL hw'
    cases ea
    exact ⟨vs, hq, rs⟩
  | tup a =>
    obtain ⟨rfl, r, hL⟩ := h
    cases d with
    | tup xs =>
      cases hw
      obtain ⟨a', vs, ea, hq, rs⟩ := sq_ofT s r
      cases ea
      exact ⟨vs, hq, rs⟩
    | _ => cases hL
  | txt z t =>
    obtain ⟨rfl, rfl⟩ := h
    cases hw
    exact ⟨_, rfl, reps_signs z⟩
/-- what stands there is a source -/
theorem src_at {P : Pm} {F B : Hp} {A : Nat → Addr} {m : Mem} {H : Hp} {x : V} {u : Value} {d : D} {ds : List D} (s : SR P F B A m H) (r : Rep P.K B A m.n x d) (ru : RelV x u) (hw : wlkOf m d = some ds) : ∃ k : Src, k.val = u ∧ srcOf P.K B A m.n k x d := by
  cases d with
  | str z =>
    cases r
    obtain ⟨t, rfl⟩ := ru
    exact ⟨.txt z t, rfl, rfl, rfl⟩
  | tup xs =>
    obtain ⟨a, vs, rfl, _, _⟩ := sq_ofT s r
    cases ru
    exact ⟨.tup a, rfl, rfl, r, rfl⟩
  | lst xs =>
    obtain ⟨a, vs, rfl, _, _⟩ := sq_ofL s r rfl hw
    cases ru
    exact ⟨.lst a, rfl, rfl, r, rfl, fun z q => by cases q⟩
  | loc j =>
    obtain ⟨a, vs, rfl, _, _⟩ := sq_ofL s r rfl hw
    cases ru
    exact ⟨.lst a, rfl, rfl, r, rfl, fun z q => by cases q⟩
  | scr ns =>
    obtain ⟨a, vs, rfl, _, _⟩ := sq_ofL s r rfl hw
    cases ru
    exact ⟨.lst a, rfl, rfl, r, rfl, fun z q => by cases q⟩
  | _ => cases hw
theorem jok_zip {P : Pm} {F B : Hp} {A : Nat → Addr} {n : Nat} {k1 k2 : Src} {x y : V} {d e : D} (h1 : srcOf P.K B A n k1 x d) (h2 : srcOf P.K B A n k2 y e) : JOk P F B A n (ItZ P.K k1 k2) (wkZp d e) := by
  intro i F' B' A' m' H' _ l s
  have h1' := h1.mono l
  have h2' := h2.mono l
  unfold wkZp
  cases hd : wlkOf m' d with
  | none => exact ⟨fun h => (by cases h), fun x h => (by cases h)⟩
  | some ds =>
    cases he : wlkOf m' e with
    | none => exact ⟨fun h => (by cases h), fun x h => (by cases h)⟩
    | some es =>
      obtain ⟨xs, hx, rx⟩ := src_has s h1' hd
      obtain ⟨ys, hy, ry⟩ := src_has s h2' he
      simp only [Option.bind_some]
      unfold upTo
      refine ⟨fun h => ?_, fun w h => ?_⟩
      · split at h
        · rename_i hi
          exfalso
          have a1 : i < ds.length := by omega
          have a2 : i < es.length := by omega
          rw [List.getElem?_eq_getElem a1, List.getElem?_eq_getElem a2] at h
          cases h
        · split at h
          · rename_i hi
            exact ⟨xs, ys, hx, hy, by rw [rx.length, ry.length]; exact hi⟩
          · cases h
      · split at h
        · rename_i hi
          have a1 : i < ds.length := by omega
          have a2 : i < es.length := by omega
          obtain ⟨v1, hv1, r1⟩ := rx.get (List.getElem?_eq_getElem a1)
          obtain ⟨v2, hv2, r2⟩ := ry.get (List.getElem?_eq_getElem a2)
          rw [List.getElem?_eq_getElem a1, List.getElem?_eq_getElem a2] at h
          simp only [Option.bind_some, Option.map_some, Option.some.injEq] at h
          subst h
          refine ⟨⟨xs, ys, hx, hy, by rw [rx.length, ry.length]; exact hi⟩, fun u H2 hu => ?_⟩
          obtain ⟨T, x', y', rfl, hT, rfl, e1, e2⟩ := hu
          have q1 := e1 xs hx
          have q2 := e2 ys hy
          rw [hv1] at q1
          rw [hv2] at q2
          cases q1
          cases q2
          have ex := s.frozenEx (o := .tup [v1, v2]) hT
          exact ⟨_, ex, s.frozen hT, .tup (SqT.of upd_same) (.cons (r1.mono (Le.base ex)) (.cons (r2.mono (Le.base ex)) .nil))⟩
        · split at h <;> cases h
section
variable {X : Cx} {P : Pm} {E : XK} {pos : Pos}
theorem xi_zp {a b : Expr} {fa fb : SE} {p tpos : Pos} {elts : List Expr} {kk : Nat} (hK : X.K = P.K) (hg : Gl X "zip") (hm : X.mg "zip" = none) (ha : PE X a (tX P E fa)) (hb : PE X b (tX P E fb))
    (hs : starEach [a, b] X.env = (false, eval a X.env) :: starEach [b] X.env := by rfl) (hs2 : starEach [b] X.env = (false, eval b X.env) :: starEach [] X.env := by rfl) (hpl : (backTo pos (starEach [b] X.env)).any (·.1) = false := by rfl) :
    PI X (.Tuple elts kk tpos) (.Call (.Name "zip" p) [a, b] [] pos) (tXI P E (itZp fa fb)) := by
  refine ⟨fun pins s σ H R I ⟨F, B, A, ρ, m, sr, e, h⟩ => ?_⟩
  have args : PA X [a, b] (tCons (tX P E fa) (tCons (tX P E fb) tNil)) := pa_cons ha (pa_cons hb pa_nil hs2) hs
  have rd : tCons (tX P E fa) (tCons (tX P E fb) tNil) σ H fun vs H1 => ∃ x y, vs = [x, y] ∧ ∃ B1 A1 m1 d e, SR P F B1 A1 m1 H1 ∧ Rep P.K B1 A1 m1.n x d ∧ Rep P.K B1 A1 m1.n y e ∧ ∃ ds es, wlkOf m1 d = some ds ∧ wlkOf m1 e = some es ∧ ∀ J, JOk P F B1 A1 m1.n J (wkZp d e) → R J H1 := by
    refine tX_go sr e (wp_bind h) fun dx m1 B1 A1 H1 x h1 l1 s1 rx => ?_
    refine tX_go s1 (e.mono l1) (wp_le l1 (wp_bind h1)) fun dy m2 B2 A2 H2 y h2 l2 s2 ry => ?_
    refine ⟨x, y, rfl, B2, A2, m2, dx, dy, s2, rx.mono l2, ry, ?_⟩
    split at h2
    · rename_i ds es hd he
      exact ⟨ds, es, hd, he, fun J j => h2 B2 A2 H2 J (l1.trans l2) s2 j⟩
    · exact h2.elim
  refine Call_ (ld_blt I hg hm PyProof.Rows.boot_zip (PyProof.Rows.callWith_type1 (thn (args.run pos pins s σ H _ I rd) fun us s1 hq => ?_) hs hpl))
  obtain ⟨vs, H1, I1, rv, x, y, rfl, B1, A1, m1, d, e, s1', rx, ry, ds, es, hd, he, hJ⟩ := hq
  obtain ⟨u1, u2, rfl, ru1, ru2⟩ : ∃ u1 u2, us = [u1, u2] ∧ RelV x u1 ∧ RelV y u2 := by
    cases rv with
    | cons r t =>
      cases t with
      | cons q t =>
        cases t
        exact ⟨_, _, rfl, r, q⟩
  obtain ⟨k1, e1, h1⟩ := src_at s1' rx ru1 hd
  obtain ⟨k2, e2, h2⟩ := src_at s1' ry ru2 he
  subst e1 e2
  obtain ⟨xs, hx, _⟩ := src_has s1' h1 hd
  obtain ⟨ys, hy, _⟩ := src_has s1' h2 he
  have hx' : k1.has X.K H1 xs := by rw [hK]; exact hx
  have hy' : k2.has X.K H1 ys := by rw [hK]; exact hy
  obtain ⟨its1, lv1, _, _, lt1⟩ := Src.seen I1 hx'
  obtain ⟨its2, lv2, _, _, lt2⟩ := Src.seen I1 hy'
  refine zip_begins2 (Src.begins its1 k1) (Src.begins its2 k2) lv1 lv2 fun h' hz hTI hTO ho1 ho2 hsz hk => wpAny_pyIter_zip hz ?_
  have I2 : Inv X pins σ H1 { s1 with heap := h' } := I1.kept (t' := s1.toks) hk
  have nw : ∀ {k : Src} {j : Nat}, (∀ b ∈ k.fp, b < s1.heap.objs.size) → s1.heap.objs.size + j ∉ k.fp := fun {k j} hlt hm => absurd (hlt _ hm) (Nat.not_lt.mpr (Nat.le_add_right _ _))
  refine ⟨s1.heap.objs.size + 4, [s1.heap.objs.size + 4, s1.heap.objs.size + 2, s1.heap.objs.size + 3, s1.heap.objs.size, s1.heap.objs.size + 1], _, ItZ X.K k1 k2, H1, rfl, I2,
    turn_zipK (zip_sep2 lt1 lt2) (nw (j := 0) lt1) (nw (j := 1) lt2), ⟨hz, hTI, ⟨_, _, hTO⟩, Src.it_new _ _ k1 ho1, Src.it_new _ _ k2 ho2⟩, fun c hcm => ?_, by rw [hK]; exact hJ _ (jok_zip h1 h2)⟩
  have hle : s1.heap.objs.size ≤ c := by
    simp only [List.mem_cons, List.not_mem_nil, or_false] at hcm
    rcases hcm with q | q | q | q | q <;> (rw [q]; first | exact Nat.le_add_right _ _ | exact Nat.le_refl _)
  exact I1.fpOk hle (I1.hok.fresh hle)
end
/-! ### enumerate -/
set_option maxHeartbeats 1000000 in
section
variable {X : Cx} {P : Pm} {E : XK} {pos : Pos}
end
end LB

set_option Elab.async false
set_option linter.all false
set_option autoImplicit false
set_option maxRecDepth 100000
set_option maxHeartbeats 2000000
/-! Slices of texts, unpacking of lists, constants of the module. -/
namespace LB
open PySem PySem.Spec PyProof.Rows L2
section
variable {X : Cx} {P : Pm} {E : XK} {pos : Pos}
theorem cut_eq (z : Str) (lo hi : Option Int) : cutZ z lo hi = cutS z lo hi := by
  unfold cutZ cutS cutD
  simp [sIx_eq]
  rfl
theorem xe_slcS {e : Expr} {lo hi : Option Expr} {f : SE} {fl fh : SO} {p2 : Pos} (he : PE X e (tX P E f)) (hl : PO X lo (tXO P E fl)) (hh : PO X hi (tXO P E fh)) : PE X (.Subscript e (.Slice lo hi none p2) pos) (tX P E (slcS f fl fh)) := by
  refine pe_imp (pe_slice sl_str he hl hh) fun σ H Q ⟨F, B, A, ρ, m, s, e, h⟩ => ?_
  refine tX_go s e (wp_bind h) fun dx m1 B1 A1 H1 x h1 l1 s1 rx => ?_
  refine ⟨F, B1, A1, ρ, m1, s1, e.mono l1, Rs.wp_mono (wp_le l1 (wp_bind h1)) (fun l m2 h2 B2 A2 H2 l2 s2 => ?_) fun _ _ x => x⟩
  refine ⟨F, B2, A2, ρ, m2, s2, (e.mono l1).mono l2, Rs.wp_mono (wp_le (l1.trans l2) (wp_bind h2)) (fun u m3 h3 B3 A3 H3 l3 s3 => ?_) fun _ _ x => x⟩
  obtain ⟨z, hz, h4⟩ := lift_wp h3
  unfold gSlS at hz
  split at hz
  · rename_i w
    split at hz
    · rename_i hlen
      cases hz
      cases rx
      refine ⟨w, rfl, hlen, ?_⟩
      rw [← cut_eq]
      exact h4 B3 A3 H3 _ ((l1.trans l2).trans l3) s3 (.str _)
    · cases hz
  · cases hz
theorem xs_asgU {es : List Expr} {e : Expr} {f : SE} {is : List Nat} {kk : Nat} {p2 : Pos} (hK : X.K = P.K) (hc : X.calm = true) (he : PE X e (tX P E f)) (hg : PGs X es (tXGs P is)) (hn : (assignEach es X.env).length = is.length := by rfl) (hst : (assignEach es X.env).findIdx? (·.1) = none := by rfl)
    (hs : swapsWithSole [.Tuple es kk p2] e pos.line X.env = pure false := by rfl) (hw : swappedStores [.Tuple es kk p2] e X.env = pure none := by rfl) (h1 : (assignEach [.Tuple es kk p2] X.env).map (·.2) = [assign (.Tuple es kk p2) X.env] := by rfl) :
    PS X (.Assign [.Tuple es kk p2] e pos) (tXS P E (sAsgU f is)) := by
  refine ps_imp (ps_asg he (pg_unl hc hg hn hst) hs hw h1) fun D σ H ⟨F, B, A, ρ, m, s, e, h⟩ => ?_
  refine tX_go s e (wp_bind h) fun dx m1 B1 A1 H1 x h1 l1 s1 rx => ?_
  unfold gUl at h1
  cases hd : lstOf m1 dx with
  | none => rw [hd] at h1; exact h1.elim
  | some ds =>
    cases hg' : gNms is ds ρ with
    | none => simp only [hd, hg', Option.bind_some] at h1; exact h1.elim
    | some ρ1 =>
      simp only [hd, hg', Option.bind_some] at h1
      obtain ⟨a, vs, rfl, ha, rs⟩ := lst_of s1 rx hd
      exact ⟨a, vs, rfl, SqL.of ha, by rw [rs.length, gNms_len hg'], B1, A1, m1.n, ρ, ds, ρ1, e.mono l1, s1.ex, rs, hg', fun σ1 e1 _ => h1 B1 A1 H1 σ1 l1 s1 e1⟩
end
end LB

set_option Elab.async false
set_option linter.all false
set_option autoImplicit false
set_option maxRecDepth 100000
set_option maxHeartbeats 2000000
/-! The text's defs by their names: what the top has written, promises by names. -/
namespace LB
open PySem PySem.Spec PyProof.Rows L2

structure Ctx (fa : List He.Fa) (fn : List He.DefD) (ts : List He.Tab) (ex : PySem.W.Frag → Bool) (w : World) (K : PySem.W.Frag) (mg : Str → Option Value) : Prop where
  at_ : ∃ (h : Heap) (tf : List He.Defn), K.In h ∧ h.Ns mainGlobals mg ∧ He.SaysX fa fn ts tf ex w h K
section
variable {fa : List He.Fa} {fn : List He.DefD} {ts : List He.Tab} {ex : PySem.W.Frag → Bool} {w : World} {K : PySem.W.Frag} {mg : Str → Option Value}
theorem Ctx.glo (c : Ctx fa fn ts ex w K mg) (i : Nat) {x : Str} (h : fa[i]? = some (.glo x) := by rfl) : mg x = some (.ref (He.ga K x)) := let ⟨_, _, X, G, S⟩ := c.at_; He.glo_ok X G (S.t.d.fact i h)
theorem Ctx.free (c : Ctx fa fn ts ex w K mg) (i : Nat) {x : Str} (h : fa[i]? = some (.free x) := by rfl) : mg x = none := let ⟨_, _, X, G, S⟩ := c.at_; He.free_ok X G (S.t.d.fact i h)
theorem Ctx.int (c : Ctx fa fn ts ex w K mg) (i : Nat) {x : Str} {n : Int} (h : fa[i]? = some (.int x n) := by rfl) : ∃ t, mg x = some (.int n t) := let ⟨_, _, X, G, S⟩ := c.at_; He.int_ok X G (S.t.d.fact i h)
theorem Ctx.cls (c : Ctx fa fn ts ex w K mg) (i : Nat) {x : Str} (h : fa[i]? = some (.cls x) := by rfl) : Cls K (He.ga K x) := let ⟨_, _, _, _, S⟩ := c.at_; He.cls_ok (S.t.d.fact i h)
theorem Ctx.meth (c : Ctx fa fn ts ex w K mg) (i : Nat) {x f : Str} (h : fa[i]? = some (.meth x f) := by rfl) : Meth K (He.ga K x) f (He.ma K (He.ga K x) f) := let ⟨_, _, _, _, S⟩ := c.at_; He.meth_ok (S.t.d.fact i h)
theorem Ctx.mkr (c : Ctx fa fn ts ex w K mg) (i : Nat) {x : Str} (h : fa[i]? = some (.mkr x) := by rfl) : Mk K (He.ga K x) (He.ma K (He.ga K x) "__init__") := let ⟨_, _, _, _, S⟩ := c.at_; He.mkr_ok (S.t.d.fact i h)
theorem Ctx.more (c : Ctx fa fn ts ex w K mg) : ex K = true := let ⟨_, _, _, _, S⟩ := c.at_; S.more
theorem Ctx.def_ (c : Ctx fa fn ts ex w K mg) (i : Nat) {d : He.DefD} (h : fn[i]? = some d := by rfl) : ∃ fd, FunD K d.name d.qual d.params d.body d.scope (d.dvs K) (d.kws K) (He.fAd K d.at_) fd := let ⟨_, _, _, _, S⟩ := c.at_; S.t.d.def_ i h
theorem Ctx.tab (c : Ctx fa fn ts ex w K mg) (i : Nat) {t : He.Tab} (h : ts[i]? = some t := by rfl) : ∃ es n, KDict K w (t.1 K) es n := let ⟨_, _, _, _, S⟩ := c.at_; S.t.tab i h
end

/-- a def that is called by its name -/
structure Cal (Pg : Program) (w : World) (K : PySem.W.Frag) (mg : Str → Option Value) (base : Heap) (P : Pm) (x : Str) (k np : Nat) (mf : Fn) : Prop where
  ex : ∃ (f : Addr) (fd : FuncData) (ps : List Str), FnOk Pg w K mg base (L2.CX Pg w) k f fd ps (spF P mf np) ∧ mg x = some (.ref f) ∧ PySem.W.keepIn K (.ref f) = true ∧ Binds K fd ps []
section
variable {X : Cx} {P : Pm} {E : XK} {pos : Pos} {k np : Nat} {mf : Fn} {x : Str} {fas : SA}
theorem xe_callC {e : Expr} {es : List Expr} {p : Pos} (C : Cal X.prog X.w X.K X.mg X.base P x k np mf) (hr : Room k X.A) (hx : Passes (L2.CX X.prog X.w) X E) (ha : PA X (e :: es) (tXA P E fas)) (hg : Gl X x := by rfl) (hdb : (x == ("__debug__" : Str)) = false := by decide)
    (he : starEach (e :: es) X.env = (false, eval e X.env) :: starEach es X.env := by rfl) (hpl : (backTo pos (starEach es X.env)).any (·.1) = false := by rfl) : PE X (.Call (.Name x p) (e :: es) [] pos) (tX P E (callN np mf fas)) := by
  obtain ⟨f, fd, ps, G, hm, hk, hb⟩ := C.ex
  exact xe_call G hr hg hm hk hb hx ha hdb he hpl
theorem xe_gint {i : Int} (h : ∃ t, X.mg x = some (.int i t)) (hg : Gl X x := by rfl) (hd : (x == ("__debug__" : Str)) = false := by decide) : PE X (.Name x pos) (tX P E (cn (.int i))) := by
  obtain ⟨t, ht⟩ := h
  exact xe_glob (v := .int i) hg ht ⟨t, rfl⟩ (fun _ _ _ => .int i) hd
/-- a dict of texts that the module holds -/
structure Tb (K : PySem.W.Frag) (w : World) (mg : Str → Option Value) (x : Str) (tbl : List (Str × D)) : Prop where
  ex : ∃ (d : Addr) (es : Array DictEntry) (n : Nat), mg x = some (.ref d) ∧ KDict K w d es n ∧ ∀ z, match tbl.lookup z with
    | some y => ∃ u v, PySem.W.nsIn K d z = some (some u) ∧ RelV v u ∧ ∀ B A n, Rep K B A n v y
    | none => PySem.W.nsIn K d z = some none
variable {tbl : List (Str × D)} {a : Expr} {fa : SE} {p : Pos}
theorem tb_case (tbl : List (Str × D)) (z : Str) {K : PySem.W.Frag} {d : Addr} (h : match tbl.lookup z with
    | some y => ∃ u v, PySem.W.nsIn K d z = some (some u) ∧ RelV v u ∧ ∀ B A n, Rep K B A n v y
    | none => PySem.W.nsIn K d z = some none) : ∃ r, PySem.W.nsIn K d z = some r ∧ r.isSome = (tbl.lookup z).isSome := by
  cases e : tbl.lookup z with
  | none =>
    rw [e] at h
    exact ⟨none, h, rfl⟩
  | some y =>
    rw [e] at h
    obtain ⟨u, v, h1, _⟩ := h
    exact ⟨some u, h1, rfl⟩
theorem xe_notInK (hK : X.K = P.K) (t : Tb X.K X.w X.mg x tbl) (ha : PE X a (tX P E fa)) (hg : Gl X x := by rfl) (hd : (x == ("__debug__" : Str)) = false := by decide) (hm : behindInMarks .NotIn (.Name x p) = false := by rfl) : PT X (.Compare a [.NotIn] [.Name x p] pos) (tXT P E (tV (op1 (gNotInK tbl) fa))) := by
  obtain ⟨d, es, n, hmg, D, hz⟩ := t.ex
  refine pt_imp (pt_cmpR (op_notIn_kd D) ha (pe_glob (v := .ref d) hg hmg rfl hd) hm) fun σ H Q h => ?_
  refine op1_imp (r := fun x H Q => ∃ (z : Str) (r : Option Value), x = .str z ∧ V.ref d = .ref d ∧ PySem.W.nsIn X.K d z = some r ∧ Q (.bl (!r.isSome)) H) ?_ (tV_imp h)
  intro F B A m H x dx z Q s rx hz' k
  unfold gNotInK at hz'
  split at hz'
  · rename_i w
    cases rx
    cases hz'
    obtain ⟨r, h1, h2⟩ := tb_case tbl w (hz w)
    exact ⟨w, r, rfl, rfl, h1, by rw [h2]; exact k B H _ (Ex.refl B) s (.bl _)⟩
  · cases hz'
theorem xe_getK (hK : X.K = P.K) (t : Tb X.K X.w X.mg x tbl) (ha : PE X a (tX P E fa)) (hg : Gl X x := by rfl) (hd : (x == ("__debug__" : Str)) = false := by decide) (hs : PlainIx a := by exact fun _ _ => rfl) : PE X (.Subscript (.Name x p) a pos) (tX P E (op1 (gGetK tbl) fa)) := by
  obtain ⟨d, es, n, hmg, D, hz⟩ := t.ex
  refine pe_imp (pe_ix ix_kdict (pe_glob (v := .ref d) hg hmg rfl hd) ha hs) fun σ H Q h => ?_
  refine op1_imp (r := fun x H Q => rIxD X.K X.w (.ref d) x H Q) ?_ h
  intro F B A m H x dx z Q s rx hz' k
  unfold gGetK at hz'
  split at hz'
  · rename_i w
    cases rx
    have q := hz w
    rw [hz'] at q
    obtain ⟨u, v, h1, h2, h3⟩ := q
    exact ⟨d, w, v, rfl, rfl, ⟨es, n, u, D.at_, D.lit, h1, h2⟩, k B H v (Ex.refl B) s (by rw [← hK]; exact h3 B A m.n)⟩
  · cases hz'
end
section
variable {fa : List He.Fa} {fn : List He.DefD} {ts : List He.Tab} {ex : PySem.W.Frag → Bool} {Pg : Program} {w : World} {K : PySem.W.Frag} {mg : Str → Option Value} {base : Heap} {P : Pm}
theorem cal_of (c : Ctx fa fn ts ex w K mg) {st : Stmt} {x : Str} {N ps : List Str} {k : Nat} {mf : Fn} {fb : SS} (i j : Nat) (S : FnScope N ps (defScope st))
    (hbd : ∀ (kV doc pm : Value) (an : Option Addr) (cdv ct : Value) (us : List Value), us.length = ps.length → bindArgs (PySem.W.fnOf x x (defArgs st) (defBody st) (defScope st) .none kV doc pm an cdv ct) ⟨us, []⟩ = pure (ps.zip us))
    (hm : ∀ ds m, ds.length = ps.length → LeR m (mf ds m) (run N.length fb ds m))
    (hb : ∀ (f : Addr) (cdv : Value) (A : Around) (outer : List Env) (s : Shared) (H : Hp) (E : XK), Room k (A.deeper (envOfC x (defScope st) s.heap.objs.size f cdv)) →
      Passes (L2.CX Pg w) (cxOf (L2.CX Pg w) Pg w K mg base N x (defScope st) f cdv A outer s H E) E → PassesOwn (model Pg w) (A.deeper (envOfC x (defScope st) s.heap.objs.size f cdv)) (envOfC x (defScope st) s.heap.objs.size f cdv) (cxOf (L2.CX Pg w) Pg w K mg base N x (defScope st) f cdv A outer s H E).xe →
      PSs (cxOf (L2.CX Pg w) Pg w K mg base N x (defScope st) f cdv A outer s H E) (defBody st) (tXS P E fb))
    (hi : fa[i]? = some (.glo x) := by rfl) (hj : fn[j]? = some ⟨(x, none), x, x, defArgs st, defBody st, defScope st, [], []⟩ := by rfl) : Cal Pg w K mg base P x (k + 1) ps.length mf := by
  obtain ⟨fd, F⟩ := c.def_ j hj
  have F2 : FunD K x x (defArgs st) (defBody st) (defScope st) [] [] (He.ga K x) fd := F
  refine ⟨He.ga K x, fd, ps, ok_fn (He5.fun_of F2) S hm fun cdv A outer s H E hr => ?_, c.glo i hi, F2.kp, F2.bindsN hbd⟩
  refine hb _ cdv A outer s H E hr ?_ ?_
  · exact passes_call (takes_of rfl rfl rfl rfl) fun _ _ _ _ h => h
  · exact passes_of rfl
end
end LB

set_option Elab.async false
set_option linter.all false
set_option autoImplicit false
set_option maxRecDepth 100000
set_option maxHeartbeats 2000000
/-! A name given a comprehension, two names at once, signs, list * int. -/
namespace LB
open PySem PySem.Spec PyProof.Rows L2
section
variable {X : Cx} {P : Pm} {E : XK} {pos : Pos}
theorem xs_setLc {i : Nat} {y : Str} {py : Pos} {elt tg iter : Expr} {ifs : List Expr} {scope : Scope} {own : List (Str × Nat)} {spos : Pos} {it : SI} {g : SG} {is : List Nat} {ft : SB} {fe : SE} (hc : X.calm = true) (hN : X.N.Nodup)
    (hi : PI X tg iter (tXI P E it)) (ok : BlkOk X.N X.env.scope scope own)
    (hg : ∀ (s : Shared) (H : Hp) (C : Addr) (cl : List (Str × Addr)) (fp : List Addr), PG (X.blk s H scope (compEnvC scope cl C X.env) fp) tg (tXG P g is)) (ht : ∀ (s : Shared) (H : Hp) (C : Addr) (cl : List (Str × Addr)) (fp : List Addr), PTs (X.blk s H scope (compEnvC scope cl C X.env) fp) ifs (tXT P E0 ft))
    (he : ∀ (s : Shared) (H : Hp) (C : Addr) (cl : List (Str × Addr)) (fp : List Addr), PE (X.blk s H scope (compEnvC scope cl C X.env) fp) elt (tX P E0 fe)) (hown : ∀ i ∈ is, i ∈ own.map (·.2))
    (hy : X.N[i]? = some y := by rfl) (hyl : X.env.scope.names.lookup y = some .local := by rfl) (hsw : swapsWith (.ListComp elt [⟨tg, iter, ifs, 0⟩] scope pos) (some (.Name y py)) spos.line X.env = pure true := by exact sw_true rfl rfl rfl (by decide +kernel)) (hs : ∀ x, foldedSetIterable iter X.env x = pure x := by intro _; rfl) :
    PS X (.Assign [.Name y py] (.ListComp elt [⟨tg, iter, ifs, 0⟩] scope pos) spos) (tXS P E (sAsg (comp it g ft fe (own.map (·.2))) (gNm i))) := by
  refine ps_imp (ps_setLc hc hN hy hyl hsw hi ok hg ht he hs) fun D σ H ⟨F, B, A, ρ, m, s, e, h⟩ => ?_
  refine comp_core hown s e (wp_bind (wp_bind h)) fun ds m1 B1 A1 H1 p vs h1 l1 hF s1 rs => ?_
  obtain ⟨s2, ex⟩ := s1.toBase hF
  have l2 := l1.trans (Le.base (A := A1) (n := m1.n) ex)
  exact h1 _ A1 H1 _ l2 s2 ((e.mono l2).set (.lst upd_same (rs.mono (Le.base ex))) i)
end
/-! list * int -/
section
variable {X : Cx} {P : Pm} {E : XK} {pos : Pos} {a b : Expr} {fa fb : SE}
theorem Reps.rep {K : PySem.W.Frag} {B : Hp} {A : Nat → Addr} {n : Nat} {vs : List V} {ds : List D} (r : Reps K B A n vs ds) : ∀ k : Nat, Reps K B A n (List.replicate k vs).flatten (List.replicate k ds).flatten
  | 0 => .nil
  | k + 1 => by
    rw [List.replicate_succ, List.replicate_succ, List.flatten_cons, List.flatten_cons]
    exact r.append (Reps.rep r k)
theorem xe_rep (ha : PE X a (tX P E fa)) (hb : PE X b (tX P E fb)) : PE X (.BinOp a .Mult b pos) (tX P E (op2 gRep fa fb)) := by
  refine xe_op op_rep ?_ ha hb
  intro F B A m H x y dx dy z Q s rx ry hz k
  unfold gRep at hz
  split at hz
  · rename_i j
    cases ry
    cases hs : lstOf m dx with
    | none => rw [hs] at hz; cases hz
    | some xs =>
      simp only [hs, Option.bind_some] at hz
      split at hz
      · rename_i hc
        cases hz
        obtain ⟨p, vs, rfl, hp, rs⟩ := lst_of s rx hs
        exact ⟨p, j, vs, rfl, rfl, hp, hc.1, hc.2.1, by rw [rs.length]; exact hc.2.2, fun q hq => k _ _ _ (s.frozenEx hq) (s.frozen hq) (.lst upd_same ((rs.rep _).mono (Le.base (s.frozenEx hq))))⟩
      · cases hz
  · cases hz
end
end LB

set_option Elab.async false
set_option linter.all false
set_option autoImplicit false
set_option maxRecDepth 100000
set_option maxHeartbeats 2000000
/-! Constants of the module by a Boolean look; the law's own def. -/
namespace LB
open PySem PySem.Spec PyProof.Rows L2
/-- a value without a place -/
def relD : D → Value → Bool
  | .non, .none => true
  | .bl b, .bool c => b == c
  | .int i, .int j _ => decide (i = j)
  | .str x, .str y _ => decide (x = y)
  | _, _ => false
def vOfD : D → V
  | .bl b => .bl b
  | .int i => .int i
  | .str x => .str x
  | _ => .non
theorem relD_ok {d : D} {u : Value} (h : relD d u = true) : RelV (vOfD d) u ∧ ∀ K B A n, Rep K B A n (vOfD d) d := by
  unfold relD at h
  split at h
  · exact ⟨rfl, fun _ _ _ _ => .non⟩
  · rename_i b c
    cases beq_iff_eq.mp h
    exact ⟨rfl, fun _ _ _ _ => .bl _⟩
  · rename_i i j t
    cases of_decide_eq_true h
    exact ⟨⟨t, rfl⟩, fun _ _ _ _ => .int _⟩
  · rename_i i j t
    cases of_decide_eq_true h
    exact ⟨⟨t, rfl⟩, fun _ _ _ _ => .str _⟩
  · cases h
/-- a dict of texts -/
def entB : List (Str × D) → List DictEntry → Bool
  | [], [] => true
  | p :: t, e :: l => (match e.key with
    | .str x _ => decide (x = p.1)
    | _ => false) && (relD p.2 e.val && entB t l)
  | _, _ => false
theorem entB_ok (z : Str) : ∀ {tbl : List (Str × D)} {l : List DictEntry}, entB tbl l = true → l.any (·.refKey) = false ∧ match tbl.lookup z with
    | some y => ∃ e, l.find? (·.key.isStr z) = some e ∧ relD y e.val = true
    | none => l.find? (·.key.isStr z) = none
  | [], [], _ => ⟨rfl, rfl⟩
  | (k, d) :: t, e :: l, h => by
    obtain ⟨h1, h2⟩ := Bool.and_eq_true_iff.mp (show ((match e.key with
      | .str x _ => decide (x = k)
      | _ => false) && (relD d e.val && entB t l)) = true from h)
    obtain ⟨h3, h4⟩ := Bool.and_eq_true_iff.mp h2
    obtain ⟨i1, i2⟩ := entB_ok z h4
    split at h1
    · rename_i x q hk
      have hx := of_decide_eq_true h1
      subst hx
      have er : e.refKey = false := by unfold DictEntry.refKey; rw [hk]
      have es : e.key.isStr z = (x == z) := by rw [hk]; rfl
      refine ⟨by rw [List.any_cons, er, i1]; rfl, ?_⟩
      by_cases hz : z = x
      · subst hz
        rw [List.lookup_cons_self]
        exact ⟨e, by rw [List.find?_cons, es, beq_self_eq_true], h3⟩
      · have n1 : (z == x) = false := by simpa using hz
        have n2 : (x == z) = false := by simpa using fun h => hz h.symm
        rw [List.lookup_cons, n1, List.find?_cons, es, n2]
        exact i2
    · cases h1
  | [], _ :: _, h => by cases h
  | _ :: _, [], h => by cases h
def tabB (K : PySem.W.Frag) (a : Addr) (tbl : List (Str × D)) : Bool := match K.lookup a with
  | some ⟨_, _, .dict es _, _⟩ => entB tbl es.toList
  | _ => false
theorem tb_of {K : PySem.W.Frag} {w : World} {mg : Str → Option Value} {x : Str} {tbl : List (Str × D)} (hm : mg x = some (.ref (He.ga K x))) (hd : ∃ es n, KDict K w (He.ga K x) es n) (h : tabB K (He.ga K x) tbl = true) : Tb K w mg x tbl := by
  obtain ⟨es, n, D⟩ := hd
  refine ⟨He.ga K x, es, n, hm, D, fun z => ?_⟩
  unfold tabB at h
  rw [D.at_] at h
  obtain ⟨h1, h2⟩ := entB_ok z (show entB tbl es.toList = true from h)
  have hn : PySem.W.nsIn K (He.ga K x) z = (match es.toList.find? (·.key.isStr z) with
      | some e => some (some e.val)
      | none => if es.toList.any (·.refKey) then none else some none) := by
    unfold PySem.W.nsIn
    rw [D.at_]
    rfl
  cases e : tbl.lookup z with
  | none =>
    rw [e] at h2
    have h3 : es.toList.find? (·.key.isStr z) = none := h2
    rw [h3, h1] at hn
    exact hn
  | some y =>
    rw [e] at h2
    obtain ⟨q, h3, h4⟩ := h2
    rw [h3] at hn
    exact ⟨q.val, vOfD y, hn, (relD_ok h4).1, (relD_ok h4).2 K⟩
section
variable {fa : List He.Fa} {fn : List He.DefD} {ts : List He.Tab} {ex : PySem.W.Frag → Bool} {Pg : Program} {w : World} {K : PySem.W.Frag} {mg : Str → Option Value} {P : Pm}
/-- all but the tables -/
def noTb (H : Hp) : Hp := fun a => match H a with
  | some (.tbl _) => none
  | o => o
theorem noTb_at {H : Hp} {a : Addr} {o : HO} (h : noTb H a = some o) : H a = some o := by
  unfold noTb at h
  split at h
  · cases h
  · exact h
theorem noTb_of {H : Hp} {a : Addr} {o : HO} (h : H a = some o) (ho : NoT o) : noTb H a = some o := by
  unfold noTb
  split
  · rename_i ps e
    exact (ho ps (Option.some.inj (h.symm.trans e))).elim
  · exact h
theorem noTb_sq {K : PySem.W.Frag} {H : Hp} {a : Addr} {xs : List V} (h : SqL K H a xs) : SqL K (noTb H) a xs := by
  rcases h with (h | ⟨o, h⟩) | h
  · exact .inl (.inl (noTb_of h fun ps e => by cases e))
  · exact .inl (.inr ⟨o, noTb_of h fun ps e => by cases e⟩)
  · exact .inr h
theorem noTb_no {H : Hp} (a : Addr) (ps : Array Value) : noTb H a ≠ some (.tbl ps) := fun h => by
  have h2 := noTb_at h
  unfold noTb at h
  rw [h2] at h
  cases h
theorem sr0 {P : Pm} {H : Hp} (t : LamX.Tabs P.T H) (hx : P.XD = none) : SR P (fun _ => none) (noTb H) (fun _ => 0) ⟨fun _ => none, 0⟩ H :=
  ⟨fun a o h => noTb_at h, fun _ _ h => by (cases h), fun k _ h => absurd h (Nat.not_lt_zero k), fun j _ _ _ h => absurd h (Nat.not_lt_zero j), t, noTb_no, fun _ _ h => (by cases h), fun p h => (by rw [hx] at h; cases h)⟩
end
end LB

set_option Elab.async false
set_option linter.all false
set_option autoImplicit false
set_option maxRecDepth 100000
set_option maxHeartbeats 2000000
/-! len(set(xs)), list(range(n)). -/
namespace LB
open PySem PySem.Spec PyProof.Rows L2
section
variable {X : Cx} {P : Pm} {E : XK}
end
end LB

set_option Elab.async false
set_option linter.all false
set_option autoImplicit false
set_option maxRecDepth 100000
set_option maxHeartbeats 2000000
/-! Objects: fields, methods, making. -/
namespace LB
open PySem PySem.Spec PyProof.Rows L2
section
variable {P : Pm} {F B : Hp} {A : Nat → Addr} {m : Mem} {H : Hp}
end
section
variable {X : Cx} {P : Pm} {E : XK} {pos : Pos} {k np : Nat} {mf : Fn} {fo fe : SE} {fas : SA} {o e : Expr} {f : Str} {c : Nat}
end
/-! from the head's facts -/
section
variable {fa : List He.Fa} {fn : List He.DefD} {ts : List He.Tab} {ex : PySem.W.Frag → Bool} {Pg : Program} {w : World} {K : PySem.W.Frag} {mg : Str → Option Value} {base : Heap} {P : Pm}
end
end LB

set_option Elab.async false
set_option linter.all false
set_option autoImplicit false
set_option maxRecDepth 100000
set_option maxHeartbeats 2000000
/-! Methods of lists that want no argument. -/
namespace LB
open PySem PySem.Spec PyProof.Rows L2
section
variable {X : Cx} {P : Pm} {E : XK} {pos : Pos} {fo : SE} {o : Expr} {name : Str} {id : String} {apos : Pos} {r : V → List V → Hp → VK → Prop} {g : List D → Option (List D × D)}
end
end LB

set_option Elab.async false
set_option linter.all false
set_option autoImplicit false
set_option maxRecDepth 100000
set_option maxHeartbeats 2000000
/-! Methods of built-in kinds with one argument that change nothing. -/
namespace LB
open PySem PySem.Spec PyProof.Rows L2
/-- which kind a method's owner must be of -/
def chkD (chk : D → Mem → Bool) (d : D) : M Unit := fun m => if chk d m = true then .ok () m else .bad
def mt1E (chk : D → Mem → Bool) (g : O2) (o e : SE) : SE := fun ρ => M.bind (o ρ) fun d => M.bind (chkD chk d) fun _ => M.bind (e ρ) fun y => fun m => lift (g d y m) m
def isLst (d : D) (m : Mem) : Bool := (lstOf m d).isSome
def isStr (d : D) (_ : Mem) : Bool := match d with
  | .str _ => true
  | _ => false
/-- where it stands first -/
def gIndex : O2 := fun x y m => (lstOf m x).bind fun xs => if y.isFlat = true ∧ xs.all D.isFlat = true then (xs.findIdx? fun z => z.eqv y).map fun j => D.int (j : Nat) else none
section
variable {X : Cx} {P : Pm} {E : XK} {pos : Pos} {fo fe : SE} {o ee : Expr} {name : Str} {T id : String} {apos : Pos} {r : V → List V → Hp → VK → Prop} {g : O2} {chk : D → Mem → Bool}
theorem xe_mt1 (pa : PlainAttrs T) (slot : Slot T name id) (hty : typeOf (.builtin id) = pure (.type "method_descriptor")) (hm : MtR X id r)
    (hc : ∀ (F B : Hp) (A : Nat → Addr) (m : Mem) (H : Hp) (x : V) (d : D), SR P F B A m H → Rep P.K B A m.n x d → chk d m = true → tyV P.K T x H) (hg : Op2 P g fun x y H Q => r x [y] H Q) (hK : X.K = P.K) (ho : PE X o (tX P E fo)) (he : PE X ee (tX P E fe))
    (hbase : attributeBase o name X.env (eval o X.env) = eval o X.env := by rfl)
    (hfew : ((backTo pos (starEach (ee :: []) X.env)).all (fun x => !x.1) && (backToKw pos (keywordEach [] X.env)).all (fun x => x.1.isSome) && decide ((ee :: []).length + ([] : List Keyword).length + (if ([] : List Keyword).isEmpty then 0 else 1) < 30)) = true := by rfl)
    (hline : (apos.endLine == pos.line) = true := by rfl) (hs : starEach (ee :: []) X.env = (false, eval ee X.env) :: starEach [] X.env := by rfl) (hplain : (backTo pos (starEach [] X.env)).any (·.1) = false := by rfl) :
    PE X (.Call (.Attribute o name apos) [ee] [] pos) (tX P E (mt1E chk g fo fe)) := by
  refine pe_imp (pe_bm pa slot hty hm ho (pa_cons he pa_nil hs) hbase hfew hline hs hplain) fun σ H Q ⟨F, B, A, ρ, m, s, e, h⟩ => ?_
  show tX P E fo σ H fun x H1 => tyV X.K T x H1 ∧ tX P E fe σ H1 fun y H2 => r x [y] H2 Q
  refine tX_go s e (wp_bind h) fun ld m1 B1 A1 H1 x h1 l1 s1 rl => ?_
  have h2 := wp_bind h1
  by_cases hk : chk ld m1 = true
  · have h3 : Rs.wp (chkD chk ld m1) _ _ := h2
    unfold chkD at h3
    rw [if_pos hk] at h3
    refine ⟨by rw [hK]; exact hc F B1 A1 m1 H1 x ld s1 rl hk, ?_⟩
    refine tX_go s1 (e.mono l1) (wp_le l1 (wp_bind h3)) fun ed m2 B2 A2 H2 y h4 l2 s2 re => ?_
    obtain ⟨z, hz, h5⟩ := lift_wp h4
    exact hg F B2 A2 m2 H2 x y ld ed z Q s2 (rl.mono l2) re hz fun B' H' v ex s' rv => h5 B' A2 H' v ((l1.trans l2).trans (Le.base ex)) s' rv
  · have h3 : Rs.wp (chkD chk ld m1) _ _ := h2
    unfold chkD at h3
    rw [if_neg hk] at h3
    exact h3.elim
theorem chk_lst (F B : Hp) (A : Nat → Addr) (m : Mem) (H : Hp) (x : V) (d : D) (s : SR P F B A m H) (rx : Rep P.K B A m.n x d) (h : isLst d m = true) : tyV P.K "list" x H := by
  obtain ⟨xs, hx⟩ := Option.isSome_iff_exists.mp h
  obtain ⟨a, vs, rfl, ha, _⟩ := lst_of s rx hx
  exact .inl ⟨rfl, vs, SqL.of ha⟩
theorem chk_str (F B : Hp) (A : Nat → Addr) (m : Mem) (H : Hp) (x : V) (d : D) (s : SR P F B A m H) (rx : Rep P.K B A m.n x d) (h : isStr d m = true) : tyV P.K "str" x H := by
  cases d with
  | str z =>
    cases rx
    rfl
  | _ => cases h
theorem flat_rep {K : PySem.W.Frag} {B : Hp} {A : Nat → Addr} {n : Nat} {v : V} {d : D} (r : Rep K B A n v d) (h : d.isFlat = true) : flatV v = true := by
  cases r <;> first
    | rfl
    | cases h
theorem flat_reps {K : PySem.W.Frag} {B : Hp} {A : Nat → Addr} {n : Nat} : ∀ {vs : List V} {ds : List D}, Reps K B A n vs ds → ds.all D.isFlat = true → vs.all flatV = true
  | _, _, .nil, _ => rfl
  | _, _, .cons r t, h => by
    rw [List.all_cons, Bool.and_eq_true] at h ⊢
    exact ⟨flat_rep r h.1, flat_reps t h.2⟩
theorem eqv_rep {K : PySem.W.Frag} {B : Hp} {A : Nat → Addr} {n : Nat} {v u : V} {d e : D} (r : Rep K B A n v d) (q : Rep K B A n u e) (h : d.isFlat = true) (h2 : e.isFlat = true) : eqV v u = d.eqv e := by
  cases r <;> first
    | (cases h; done)
    | (cases q <;> first
        | (cases h2; done)
        | rfl
        | (simp [eqV, D.eqv]))
theorem op2_index (hK : X.K = P.K) : Op2 P gIndex fun x y H Q => rIndex X.K x [y] H Q := by
  intro F B A m H x y dx dy z Q s rx ry hz k
  unfold gIndex at hz
  cases hl : lstOf m dx with
  | none => rw [hl] at hz; cases hz
  | some xs =>
    rw [hl] at hz
    have hz2 : (if dy.isFlat = true ∧ xs.all D.isFlat = true then (xs.findIdx? fun z => z.eqv dy).map fun j => D.int (j : Nat) else none) = some z := hz
    by_cases hf : dy.isFlat = true ∧ xs.all D.isFlat = true
    · rw [if_pos hf] at hz2
      cases hj : xs.findIdx? fun z => z.eqv dy with
      | none => rw [hj] at hz2; cases hz2
      | some j =>
        rw [hj] at hz2
        cases hz2
        obtain ⟨a, vs, rfl, ha, rs⟩ := lst_of s rx hl
        rw [List.findIdx?_eq_some_iff_getElem] at hj
        obtain ⟨hjl, h1, h2⟩ := hj
        obtain ⟨v, hv, rv⟩ := rs.get (List.getElem?_eq_getElem hjl)
        have fl : ∀ (i : Nat) (h : i < xs.length), (xs[i]).isFlat = true := fun i h => List.all_eq_true.mp hf.2 _ (List.getElem_mem h)
        refine ⟨a, vs, y, j, v, rfl, rfl, by rw [hK]; exact SqL.of ha, flat_rep ry hf.1, flat_reps rs hf.2, hv, by rw [eqv_rep rv ry (fl j hjl) hf.1]; exact h1, fun i z' hi hz' => ?_, k B H _ (Ex.refl B) s (.int _)⟩
        have hil : i < xs.length := by omega
        obtain ⟨d, hd, rd⟩ := rs.getV hz'
        rw [List.getElem?_eq_getElem hil] at hd
        cases hd
        rw [eqv_rep rd ry (fl i hil) hf.1]
        have h3 := h2 i hi
        simpa using h3
    · rw [if_neg hf] at hz2
      cases hz2
theorem xe_index (hK : X.K = P.K) (ho : PE X o (tX P E fo)) (he : PE X ee (tX P E fe))
    (hbase : attributeBase o "index" X.env (eval o X.env) = eval o X.env := by rfl)
    (hfew : ((backTo pos (starEach (ee :: []) X.env)).all (fun x => !x.1) && (backToKw pos (keywordEach [] X.env)).all (fun x => x.1.isSome) && decide ((ee :: []).length + ([] : List Keyword).length + (if ([] : List Keyword).isEmpty then 0 else 1) < 30)) = true := by rfl)
    (hline : (apos.endLine == pos.line) = true := by rfl) (hs : starEach (ee :: []) X.env = (false, eval ee X.env) :: starEach [] X.env := by rfl) (hplain : (backTo pos (starEach [] X.env)).any (·.1) = false := by rfl) :
    PE X (.Call (.Attribute o "index" apos) [ee] [] pos) (tX P E (mt1E isLst gIndex fo fe)) :=
  xe_mt1 PySem.F.plainAttrs_list PySem.F.slot_list_index PySem.F.type_list_index mt_index chk_lst (op2_index hK) hK ho he hbase hfew hline hs hplain
end
end LB

set_option Elab.async false
set_option linter.all false
set_option autoImplicit false
set_option maxRecDepth 100000
set_option maxHeartbeats 2000000
/-! list(zip(a, b)) of two lists; sorted of a dict's keys, of a set of a list. -/
namespace LB
open PySem PySem.Spec PyProof.Rows L2
abbrev prObj (x y : Value) : Obj := { cls := .type "tuple", data := .seq #[x, y] }
/-- where a walk over two lists stands while S is filled -/
structure ZSt (h : Heap) (z TI TO i1 i2 l1 l2 S : Addr) (xs ys : Array Value) (i : Nat) : Prop where
  ti : IsPair h TI (.ref i1) (.ref i2)
  ia : h.IsListIter i1 l1 i
  ib : h.IsListIter i2 l2 i
  la : h.IsList l1 xs
  lb : h.IsList l2 ys
  zz : (IsZip h z TI TO .none ∧ ∃ a b, IsPair h TO a b) ∨ ∃ T f oT, PySem.IsZipHeld h z TI TO T f ∧ h.get? T = some oT ∧ T ≠ z ∧ T ≠ i1 ∧ T ≠ i2 ∧ T ≠ S
/-- the pairs that were made so far -/
structure ZMd (xs ys : Array Value) (lo : Addr) (h : Heap) (as : List Addr) : Prop where
  rise : as.Pairwise (· < ·)
  above : ∀ a ∈ as, lo ≤ a
  at_ : ∀ (j : Nat) (a : Addr), as[j]? = some a → ∃ x y, xs[j]? = some x ∧ ys[j]? = some y ∧ h.get? a = some (prObj x y)
theorem ZMd.low {xs ys : Array Value} {lo : Addr} {h : Heap} {as : List Addr} (g : ZMd xs ys lo h as) {a : Addr} (ha : a ∈ as) : a < h.objs.size := by
  obtain ⟨j, hj⟩ := List.mem_iff_getElem?.mp ha
  obtain ⟨_, _, _, _, e⟩ := g.at_ j a hj
  exact Heap.lt_size e
section
variable {prog : Program} {w : World} {A : Around} {s : Shared} {z TI TO i1 i2 l1 l2 S : Addr} {xs ys : Array Value}
theorem ZSt.keep {h h' : Heap} {i : Nat} (t : ZSt h z TI TO i1 i2 l1 l2 S xs ys i) (n : ∀ c ∈ [z, TI, TO, i1, i2, l1, l2], c ≠ S) (k : ∀ b o, b ≠ S → h.get? b = some o → h'.get? b = some o) : ZSt h' z TI TO i1 i2 l1 l2 S xs ys i := by
  obtain ⟨t1, t2, t3, t4, t5, t6⟩ := t
  simp only [List.mem_cons, List.not_mem_nil, or_false, forall_eq_or_imp, forall_eq] at n
  obtain ⟨n1, n2, n3, n4, n5, n6, n7⟩ := n
  refine ⟨k _ _ n2 t1, t2.at fun o e => k _ o n4 e, t3.at fun o e => k _ o n5 e, t4.at fun o e => k _ o n6 e, t5.at fun o e => k _ o n7 e, ?_⟩
  rcases t6 with ⟨hz, a, b, hTO⟩ | ⟨T, f, oT, hz, hT, r1, r2, r3, r4⟩
  · exact .inl ⟨k _ _ n1 hz, a, b, k _ _ n3 hTO⟩
  · exact .inr ⟨T, f, oT, k _ _ n1 hz, k _ _ r4 hT, r1, r2, r3, r4⟩
variable {R : Result → Shared → Prop}
end
section
variable {X : Cx} {pins : List (Addr × Obj)} {σ : L2.St} {H : Hp} {s : Shared}
end
end LB

set_option Elab.async false
set_option linter.all false
set_option autoImplicit false
set_option maxRecDepth 100000
set_option maxHeartbeats 3200000
/-! sorted of a set of a list of ints, of a dict's keys. -/
namespace LB
open PySem PySem.Spec PyProof.Rows L2
section
variable {P : Program} {w : World} {A : Around} {E : Value → Shared → Prop} {s : Shared}
end
end LB

set_option Elab.async false
set_option linter.all false
set_option autoImplicit false
set_option maxRecDepth 100000
set_option maxHeartbeats 2000000
/-! The rules: list(zip(a, b)), sorted(d), sorted(set(xs)). -/
namespace LB
open PySem PySem.Spec PyProof.Rows L2
section
variable {P : Pm} {A : Nat → Addr} {m : Mem}
end
section
variable {X : Cx} {P : Pm} {E : XK}
end
end LB

set_option Elab.async false
set_option linter.all false
set_option autoImplicit false
set_option maxRecDepth 100000
set_option maxHeartbeats 2000000
/-! Texts: split, join, str(i), int(z), walks over texts. -/
namespace LB
open PySem PySem.Spec PyProof.Rows L2
theorem Ctx.str {fa : List He.Fa} {fn : List He.DefD} {ts : List He.Tab} {ex : PySem.W.Frag → Bool} {w : World} {K : PySem.W.Frag} {mg : Str → Option Value} (c : Ctx fa fn ts ex w K mg) (i : Nat) {x z : Str} (h : fa[i]? = some (.str x z) := by rfl) : ∃ t, mg x = some (.str z t) :=
  let ⟨_, _, X, G, S⟩ := c.at_
  He.str_ok X G (S.t.d.fact i h)
/-- a comprehension within another one that takes no name of it -/
theorem blkOk_in {N : List Str} {sc scope : Scope} {own : List (Str × Nat)} (h : blkC N { kind := .function, names := [], isGenerator := false, isCoroutine := false } scope own = true) : BlkOk N sc scope own :=
  let ⟨a, b, c, d, e⟩ := blkOk_by h
  ⟨a, b, c, fun y hy q => absurd (d y hy q) (by simp), e⟩
def strsOf : List D → Option (List Str)
  | [] => some []
  | .str z :: r => (strsOf r).map (z :: ·)
  | _ :: _ => none
def gSplit : O2 := fun x y _ => match x, y with
  | .str a, .str b => if (b.length == 0) = false ∧ a.length + 2 ≤ sizeLine then some (.lst ((Txt.split a b).map .str)) else none
  | _, _ => none
def gJoin : O2 := fun x y m => match x with
  | .str a => (lstOf m y).bind fun ds => (strsOf ds).bind fun ys => if (ys.map (·.length)).sum + ys.length * a.length ≤ 16777216 then some (.str (Txt.join a ys)) else none
  | _ => none
def gStr : ON := fun ds _ => match ds with
  | [.int i] => if i.natAbs.log2 < 1920 then some (.str (toString i)) else none
  | _ => none
def gIntS : ON := fun ds _ => match ds with
  | [.str a] => if a.length ≤ 640 then (PySem.intText? a).map .int else none
  | _ => none
def gNotInS : O2 := fun x y _ => match x, y with
  | .str a, .str b => (match a.cps.toList with
    | [c] => some (.bl (!decide (c ∈ b.cps.toList)))
    | _ => none)
  | _, _ => none
def wkStr (z : Str) : Wk := fun i _ => some ((strOf z)[i]?)
def itStr (a : SE) : SI := fun ρ => M.bind (a ρ) fun d m => match d with
  | .str z => .ok (wkStr z, (strOf z).length) m
  | _ => .bad
theorem strs_rep {K : PySem.W.Frag} {B : Hp} {A : Nat → Addr} {n : Nat} : ∀ ys : List Str, Reps K B A n (ys.map V.str) (ys.map D.str)
  | [] => .nil
  | y :: r => .cons (.str y) (strs_rep r)
theorem strs_of {K : PySem.W.Frag} {B : Hp} {A : Nat → Addr} {n : Nat} : ∀ {vs : List V} {ds : List D} {ys : List Str}, Reps K B A n vs ds → strsOf ds = some ys → vs = ys.map V.str
  | _, _, _, .nil, h => by
    cases h
    rfl
  | _, .str z :: ds, ys, .cons r t, h => by
    have h' : (strsOf ds).map (z :: ·) = some ys := h
    cases hr : strsOf ds with
    | none => rw [hr] at h'; cases h'
    | some zs =>
      rw [hr] at h'
      cases h'
      cases r
      rw [strs_of t hr]
      rfl
  | _, .non :: _, _, .cons _ _, h => by cases h
  | _, .bl _ :: _, _, .cons _ _, h => by cases h
  | _, .int _ :: _, _, .cons _ _, h => by cases h
  | _, .tup _ :: _, _, .cons _ _, h => by cases h
  | _, .lst _ :: _, _, .cons _ _, h => by cases h
  | _, .loc _ :: _, _, .cons _ _, h => by cases h
  | _, .ref _ :: _, _, .cons _ _, h => by cases h
  | _, .scr _ :: _, _, .cons _ _, h => by cases h
section
variable {X : Cx} {P : Pm} {E : XK} {pos apos : Pos} {fo fe : SE} {o ee : Expr}
theorem op2_split : Op2 P gSplit fun x y H Q => ∃ a b, x = V.str a ∧ [y] = [V.str b] ∧ (b.length == 0) = false ∧ a.length + 2 ≤ sizeLine ∧ rNewStrs (Txt.split a b) H Q := by
  intro F B A m H x y dx dy z Q s rx ry hz k
  unfold gSplit at hz
  split at hz
  · rename_i a b
    by_cases c : (b.length == 0) = false ∧ a.length + 2 ≤ sizeLine
    · rw [if_pos c] at hz
      cases hz
      cases rx
      cases ry
      exact ⟨a, b, rfl, rfl, c.1, c.2, fun p hp => k _ _ _ (s.frozenEx hp) (s.frozen hp) (.lst upd_same (strs_rep _))⟩
    · rw [if_neg c] at hz
      cases hz
  · cases hz
theorem op2_join : Op2 P gJoin fun x y H Q => ∃ a p, ∃ ys : List Str, x = V.str a ∧ [y] = [V.ref p] ∧ (SqL P.K H p (ys.map V.str) ∨ SqT P.K H p (ys.map V.str)) ∧ (ys.map (·.length)).sum + ys.length * a.length ≤ 16777216 ∧ Q (.str (Txt.join a ys)) H := by
  intro F B A m H x y dx dy z Q s rx ry hz k
  unfold gJoin at hz
  split at hz
  · rename_i a
    cases hs : lstOf m dy with
    | none => rw [hs] at hz; cases hz
    | some ds =>
      rw [hs] at hz
      cases hi : strsOf ds with
      | none => simp only [Option.bind_some, hi] at hz; cases hz
      | some ys =>
        simp only [Option.bind_some, hi] at hz
        by_cases c : (ys.map (·.length)).sum + ys.length * a.length ≤ 16777216
        · rw [if_pos c] at hz
          cases hz
          cases rx
          obtain ⟨p, ws, rfl, hp, rw⟩ := lst_of s ry hs
          have e := strs_of rw hi
          subst e
          exact ⟨a, p, ys, rfl, rfl, .inl (SqL.of hp), c, k B H _ (Ex.refl B) s (.str _)⟩
        · rw [if_neg c] at hz
          cases hz
  · cases hz
theorem xe_split (hK : X.K = P.K) (ho : PE X o (tX P E fo)) (he : PE X ee (tX P E fe))
    (hbase : attributeBase o "split" X.env (eval o X.env) = eval o X.env := by rfl)
    (hfew : ((backTo pos (starEach (ee :: []) X.env)).all (fun x => !x.1) && (backToKw pos (keywordEach [] X.env)).all (fun x => x.1.isSome) && decide ((ee :: []).length + ([] : List Keyword).length + (if ([] : List Keyword).isEmpty then 0 else 1) < 30)) = true := by rfl)
    (hline : (apos.endLine == pos.line) = true := by rfl) (hs : starEach (ee :: []) X.env = (false, eval ee X.env) :: starEach [] X.env := by rfl) (hplain : (backTo pos (starEach [] X.env)).any (·.1) = false := by rfl) :
    PE X (.Call (.Attribute o "split" apos) [ee] [] pos) (tX P E (mt1E isStr gSplit fo fe)) :=
  xe_mt1 PySem.F.plainAttrs_str PySem.F.slot_str_split PySem.F.type_str_split mt_split chk_str op2_split hK ho he hbase hfew hline hs hplain
theorem xe_join (hK : X.K = P.K) (ho : PE X o (tX P E fo)) (he : PE X ee (tX P E fe))
    (hbase : attributeBase o "join" X.env (eval o X.env) = eval o X.env := by rfl)
    (hfew : ((backTo pos (starEach (ee :: []) X.env)).all (fun x => !x.1) && (backToKw pos (keywordEach [] X.env)).all (fun x => x.1.isSome) && decide ((ee :: []).length + ([] : List Keyword).length + (if ([] : List Keyword).isEmpty then 0 else 1) < 30)) = true := by rfl)
    (hline : (apos.endLine == pos.line) = true := by rfl) (hs : starEach (ee :: []) X.env = (false, eval ee X.env) :: starEach [] X.env := by rfl) (hplain : (backTo pos (starEach [] X.env)).any (·.1) = false := by rfl) :
    PE X (.Call (.Attribute o "join" apos) [ee] [] pos) (tX P E (mt1E isStr gJoin fo fe)) :=
  xe_mt1 PySem.F.plainAttrs_str PySem.F.slot_str_join PySem.F.type_str_join mt_join chk_str (by rw [hK]; exact op2_join) hK ho he hbase hfew hline hs hplain
theorem opN_str : OpN P gStr fun xs H Q => ∃ i, xs = [V.int i] ∧ i.natAbs.log2 < 1920 ∧ Q (.str (toString i)) H := by
  intro F B A m H vs ds z Q s rs hz k
  unfold gStr at hz
  split at hz
  · rename_i i
    obtain ⟨v, rfl, r⟩ := rs.one
    by_cases c : i.natAbs.log2 < 1920
    · rw [if_pos c] at hz
      cases hz
      cases r
      exact ⟨i, rfl, c, k B H _ (Ex.refl B) s (.str _)⟩
    · rw [if_neg c] at hz
      cases hz
  · cases hz
theorem opN_intS : OpN P gIntS fun xs H Q => ∃ a n, xs = [V.str a] ∧ PySem.intText? a = some n ∧ a.length ≤ 640 ∧ Q (.int n) H := by
  intro F B A m H vs ds z Q s rs hz k
  unfold gIntS at hz
  split at hz
  · rename_i a
    obtain ⟨v, rfl, r⟩ := rs.one
    by_cases c : a.length ≤ 640
    · rw [if_pos c] at hz
      cases hn : PySem.intText? a with
      | none => rw [hn] at hz; cases hz
      | some n =>
        rw [hn] at hz
        cases hz
        cases r
        exact ⟨a, n, rfl, hn, c, k B H _ (Ex.refl B) s (.int _)⟩
    · rw [if_neg c] at hz
      cases hz
  · cases hz
theorem jok_str {F B : Hp} {A : Nat → Addr} {n : Nat} {z : Str} : JOk P F B A n (Its z) (wkStr z) := by
  intro i F' B' A' m' H' _ l s
  have e : (strOf z)[i]? = (z.cps[i]?).map fun c => D.str ⟨#[c]⟩ := by
    unfold strOf
    rw [List.getElem?_map, Array.getElem?_toList]
  refine ⟨fun h => ?_, fun x h => ?_⟩
  · have h2 : (strOf z)[i]? = none := Option.some.inj h
    rw [e] at h2
    cases hc : z.cps[i]? with
    | some c => rw [hc] at h2; cases h2
    | none => exact Array.getElem?_eq_none_iff.mp hc
  · have h2 : (strOf z)[i]? = some x := Option.some.inj h
    rw [e] at h2
    cases hc : z.cps[i]? with
    | none => rw [hc] at h2; cases h2
    | some c =>
      rw [hc] at h2
      cases h2
      refine ⟨(Array.getElem?_eq_some_iff.mp hc).1, fun y H2 hy => ?_⟩
      obtain ⟨e1, c2, hc2, e2⟩ := hy
      rw [hc] at hc2
      cases hc2
      subst e1
      subst e2
      exact ⟨B', Ex.refl B', s, .str _⟩
theorem xi_str {tg l : Expr} {f : SE} (hl : PE X l (tX P E f)) : PI X tg l (tXI P E (itStr f)) := by
  refine pi_imp (pi_str hl) fun σ H R ⟨F, B, A, ρ, m, s, e, h⟩ => ?_
  refine tX_go s e (wp_bind h) fun d m1 B1 A1 H1 x h1 l1 s1 r => ?_
  split at h1
  · cases r
    exact ⟨_, rfl, h1 B1 A1 H1 _ l1 s1 jok_str⟩
  · exact h1.elim
theorem op2_notInS : Op2 P gNotInS rNotInS := by
  intro F B A m H x y dx dy z Q s rx ry hz k
  unfold gNotInS at hz
  split at hz
  · rename_i a b
    split at hz
    · rename_i c hc
      cases hz
      cases rx
      cases ry
      refine ⟨c, b, ?_, rfl, k B H _ (Ex.refl B) s (.bl _)⟩
      obtain ⟨l⟩ := a
      obtain ⟨l⟩ := l
      have e : l = [c] := hc
      subst e
      rfl
    · cases hz
  · cases hz
theorem xe_gstr {x : Str} {p : Pos} {z : Str} (h : ∃ t, X.mg x = some (.str z t)) (hg : Gl X x := by rfl) (hd : (x == ("__debug__" : Str)) = false := by decide) : PE X (.Name x p) (tX P E (cn (.str z))) := by
  obtain ⟨t, ht⟩ := h
  exact xe_glob (v := .str z) hg ht ⟨t, rfl⟩ (fun _ _ _ => .str z) hd
end
end LB

set_option Elab.async false
set_option linter.all false
set_option autoImplicit false
set_option maxRecDepth 100000
set_option maxHeartbeats 2000000
/-! Dicts whose keys are tuples of any depth. -/
namespace LB
open PySem PySem.Spec PyProof.Rows L2

/-! ### data -/
mutual
def nkOf : D → Option NestedKey
  | .non => some .none
  | .int i => some (.num i)
  | .str x => some (.text x)
  | .tup xs => (nksOf xs).map .tup
  | .bl _ => none
  | .lst _ => none
  | .loc _ => none
  | .ref _ => none
  | .scr _ => none
def nksOf : List D → Option (List NestedKey)
  | [] => some []
  | x :: xs => match nkOf x, nksOf xs with
    | some k, some ks => some (k :: ks)
    | _, _ => none
end
/-- a tuple that is a key -/
def tkOf (d : D) : Option NestedKey := match d with
  | .tup xs => match nksOf xs with
    | some ks => if (NestedKey.tup ks).depth ≤ 8 then some (.tup ks) else none
    | none => none
  | _ => none
def valN {α : Type} (kvs : List (NestedKey × α)) (k : NestedKey) : Option α := (kvs.find? fun kv => decide (kv.1 = k)).map (·.2)
def putN (kvs : List (NestedKey × D)) (k : NestedKey) (v : D) : List (NestedKey × D) :=
  if (valN kvs k).isSome = true then kvs.map (fun kv => if kv.1 = k then (kv.1, v) else kv) else kvs ++ [(k, v)]
def dcnOf (m : Mem) : D → Option (List (NestedKey × D))
  | .loc k => if k < m.n then (match m.get k with
    | some (.dcn kvs) => some kvs
    | _ => none) else none
  | _ => none
def gNin : O2 := fun k d m => (dcnOf m d).bind fun kvs => (tkOf k).map fun k => .bl (valN kvs k).isSome
def gNnotin : O2 := fun k d m => (dcnOf m d).bind fun kvs => (tkOf k).map fun k => .bl (!(valN kvs k).isSome)
def isDcn (m : Mem) (d : D) : Bool := (dcnOf m d).isSome
def nget2 (d k x : SE) : SE := fun ρ => M.bind (d ρ) fun dd => M.bind (fun m => if isDcn m dd = true then .ok () m else .bad) fun _ => M.bind (k ρ) fun kk => M.bind (x ρ) fun xx => fun m => lift ((dcnOf m dd).bind fun kvs => (tkOf kk).map fun k => (valN kvs k).getD xx) m
def sNput (d k v : SE) : SS := fun ρ => M.bind (v ρ) fun vd => M.bind (d ρ) fun dd => M.bind (k ρ) fun kd => fun m => match dd, tkOf kd with
  | .loc j, some k => if j < m.n then (match m.get j with
    | some (.dcn kvs) => if kvs.length < sizeLine then .ok (.nx, ρ) (m.put j (.dcn (putN kvs k vd))) else .bad
    | _ => .bad) else .bad
  | _, _ => .bad
def mergeN (kvs more : List (NestedKey × D)) : List (NestedKey × D) := more.foldl (fun acc kv => putN acc kv.1 kv.2) kvs
/-- a display of one pair -/
def nk1 (k v : D) : M D := fun m => match tkOf k with
  | some k => alloc (.dcn [(k, v)]) m
  | none => .bad
def ndsp1 (k v : SE) : SE := fun ρ => M.bind (k ρ) fun kd => M.bind (v ρ) fun vd => nk1 kd vd
/-- pairs in a list: (key, value) each -/
def prsOf : List D → Option (List (NestedKey × D))
  | [] => some []
  | .tup [k, v] :: r => match tkOf k, prsOf r with
    | some k, some r => some ((k, v) :: r)
    | _, _ => none
  | _ :: _ => none
def ndctK (d : D) : M D := fun m => match (lstOf m d).bind prsOf with
  | some kvs => alloc (.dcn (mergeN [] kvs)) m
  | none => .bad
def ndctE (a : SE) : SE := fun ρ => M.bind (a ρ) ndctK

/-! ### what they say -/
theorem NDct.stay {hash : NestedKey → Int} {a : Addr} {xs : NEs} {h1 h2 : Heap} (x : NDct hash a xs h1) (k : ∀ o, h1.get? a = some o → h2.get? a = some o) : NDct hash a xs h2 := by
  obtain ⟨z, y, dp, nd, o, es, ep, ho, q⟩ := x
  exact ⟨z, y, dp, nd, o, es, ep, k o ho, q⟩
theorem NDct.ok {Pg : Program} {w : World} {H : Hp} {h : Heap} {hash : NestedKey → Int} {a : Addr} {xs : NEs} (x : NDct hash a xs h) : ObjOk Pg w H h a (.ext (NDct hash a xs)) := by
  obtain ⟨_, _, _, _, o, _, _, ho, _⟩ := id x
  exact ⟨x, ⟨o, ho⟩, fun h1 h2 p k => p.stay k⟩
section
variable {X : Cx} {pins : List (Addr × Obj)} {σ : L2.St} {H : Hp} {s : Shared}
mutual
theorem NRep.is (I : Inv X pins σ H s) : ∀ {v : V} {k : NestedKey} {u : Value}, NRep X.K H v k → RelV v u → NestedIs s.heap k u
  | _, _, u, .none, r => by
    obtain rfl : u = Value.none := r
    exact .none
  | _, _, u, .num i, r => by
    obtain ⟨t, rfl⟩ := (show ∃ t, u = Value.int i t from r)
    exact .int i t
  | _, _, u, .text x, r => by
    obtain ⟨t, rfl⟩ := (show ∃ t, u = Value.str x t from r)
    exact .text x t
  | _, _, u, .tup (a := a) h q, r => by
    obtain rfl : u = Value.ref a := r
    obtain ⟨its, rv, ⟨o, ho, hc, n, hd⟩, _⟩ := I.tuple h
    exact .tup ho hc hd (by simpa using NReps.are I q rv)
theorem NReps.are (I : Inv X pins σ H s) : ∀ {vs : List V} {ks : List NestedKey} {us : List Value}, NReps X.K H vs ks → Vals vs us → NestedAll s.heap ks us
  | _, _, _, .nil, r => by
    cases r
    exact .nil
  | _, _, _, .cons q t, r => by
    cases r with
    | cons h1 h2 => exact .cons (NRep.is I q h1) (NReps.are I t h2)
end
end
section
variable {P : Pm}
mutual
theorem nk_rep {B : Hp} {A : Nat → Addr} {n : Nat} : ∀ {v : V} {d : D} {k : NestedKey}, Rep P.K B A n v d → nkOf d = some k → NRep P.K B v k
  | _, _, _, .non, h => by
    cases h
    exact .none
  | _, _, _, .int i, h => by
    cases h
    exact .num i
  | _, _, _, .str x, h => by
    cases h
    exact .text x
  | _, _, _, .tup (ds := ds) hq rs, h => by
    unfold nkOf at h
    cases hk : nksOf ds with
    | none => rw [hk] at h; cases h
    | some ks =>
      rw [hk] at h
      cases h
      exact .tup hq (nks_rep rs hk)
  | _, _, _, .bl _, h => by cases h
  | _, _, _, .lst _ _, h => by cases h
  | _, _, _, .loc _ _, h => by cases h
  | _, _, _, .ref, h => by cases h
  | _, _, _, .scr _, h => by cases h
theorem nks_rep {B : Hp} {A : Nat → Addr} {n : Nat} : ∀ {vs : List V} {ds : List D} {ks : List NestedKey}, Reps P.K B A n vs ds → nksOf ds = some ks → NReps P.K B vs ks
  | _, _, _, .nil, h => by
    cases h
    exact .nil
  | _, _, _, .cons (d := d) (ds := ds) r t, h => by
    unfold nksOf at h
    cases h1 : nkOf d with
    | none => simp only [h1] at h; cases h
    | some k =>
      cases h2 : nksOf ds with
      | none => simp only [h1, h2] at h; cases h
      | some ks =>
        simp only [h1, h2] at h
        cases h
        exact .cons (nk_rep r h1) (nks_rep t h2)
end
end
/-! ### rules -/
section
variable {X : Cx} {P : Pm} {o i e value : Expr} {pos pos' : Pos} {td ty tv tx : TE} {apos cpos : Pos} {f : Expr}
end
section
variable {X : Cx} {P : Pm} {E : XK} {pos : Pos} {a b c : Expr} {fa fb fc : SE}
/-! len -/
def gNlenN : ON := fun ds m => match ds with
  | [d] => (dcnOf m d).map fun kvs => .int kvs.length
  | _ => none
end
end LB

set_option Elab.async false
set_option linter.all false
set_option autoImplicit false
set_option maxRecDepth 100000
set_option maxHeartbeats 2000000
/-! Such dicts made: a display of one pair, dict(pairs), d.update(pairs). -/
namespace LB
open PySem PySem.Spec PyProof.Rows L2

/-! ### a display -/
section
variable {X : Cx} {P : Pm} {E : XK} {pos : Pos} {k v : Expr} {tk tv : TE} {fk fv : SE}
end

/-! ### pairs -/
section
variable {X : Cx} {P : Pm}
end
section
variable {X : Cx} {P : Pm} {E : XK} {pos : Pos}
end
end LB

set_option Elab.async false
set_option linter.all false
set_option autoImplicit false
set_option maxRecDepth 100000
set_option maxHeartbeats 2000000
/-! xs[::-1] of lists and tuples; is, is not of truth values. -/
namespace LB
open PySem PySem.Spec PyProof.Rows L2
/-- backwards -/
def gRev : O1 := fun d m => match d with
  | .tup xs => some (.tup xs.reverse)
  | d => (lstOf m d).map fun xs => .lst xs.reverse
def gIsB : O2 := fun x y _ => match x, y with
  | .bl a, .bl b => some (.bl (decide (a = b)))
  | _, _ => none
def gNotB : O2 := fun x y _ => match x, y with
  | .bl a, .bl b => some (.bl (!decide (a = b)))
  | _, _ => none
section
variable {P : Pm}
end
section
variable {prog : Program} {w : World} {A : Around} {E : Value → Shared → Prop} {s : Shared}
end
section
variable {X : Cx} {P : Pm} {E : XK} {pos : Pos}
end
end LB

set_option Elab.async false
set_option linter.all false
set_option autoImplicit false
set_option maxRecDepth 100000
set_option maxHeartbeats 2000000
/-! Tuples of tuples that the module names. -/
namespace LB
open PySem PySem.Spec PyProof.Rows L2
mutual
def relK (K : PySem.W.Frag) : D → Value → Bool
  | .tup ds, u => (match u with
    | .ref a => (match K.lookup a with
      | some ⟨.type c, _, .seq its _, _⟩ => decide (c = "tuple") && (decide (its.size ≤ sizeLine) && relKs K ds its.toList)
      | _ => false)
    | _ => false)
  | .non, u => relD .non u
  | .bl b, u => relD (.bl b) u
  | .int i, u => relD (.int i) u
  | .str x, u => relD (.str x) u
  | .lst _, _ => false
  | .loc _, _ => false
  | .ref _, _ => false
  | .scr _, _ => false
def relKs (K : PySem.W.Frag) : List D → List Value → Bool
  | [], [] => true
  | d :: ds, u :: us => relK K d u && relKs K ds us
  | [], _ :: _ => false
  | _ :: _, [] => false
end
mutual
theorem relK_ok {K : PySem.W.Frag} : ∀ {d : D} {u : Value}, relK K d u = true → ∃ v, RelV v u ∧ ∀ B A n, Rep K B A n v d
  | .tup ds, u, h => by
    unfold relK at h
    split at h
    · rename_i a
      split at h
      · rename_i c od its n sl hl
        obtain ⟨h1, h2⟩ := Bool.and_eq_true_iff.mp h
        obtain ⟨h3, h4⟩ := Bool.and_eq_true_iff.mp h2
        have hc := of_decide_eq_true h1
        subst hc
        obtain ⟨vs, hv, hr⟩ := relKs_ok h4
        exact ⟨.ref a, rfl, fun B A m => .tup (.inr ⟨_, its, n, hl, rfl, rfl, of_decide_eq_true h3, hv⟩) (hr B A m)⟩
      · cases h
    · cases h
  | .non, u, h => by
    unfold relK at h
    exact ⟨_, (relD_ok h).1, (relD_ok h).2 K⟩
  | .bl b, u, h => by
    unfold relK at h
    exact ⟨_, (relD_ok h).1, (relD_ok h).2 K⟩
  | .int i, u, h => by
    unfold relK at h
    exact ⟨_, (relD_ok h).1, (relD_ok h).2 K⟩
  | .str x, u, h => by
    unfold relK at h
    exact ⟨_, (relD_ok h).1, (relD_ok h).2 K⟩
  | .lst _, _, h => by simp [relK] at h
  | .loc _, _, h => by simp [relK] at h
  | .ref _, _, h => by simp [relK] at h
  | .scr _, _, h => by simp [relK] at h
theorem relKs_ok {K : PySem.W.Frag} : ∀ {ds : List D} {us : List Value}, relKs K ds us = true → ∃ vs, Vals vs us ∧ ∀ B A n, Reps K B A n vs ds
  | [], [], _ => ⟨[], .nil, fun _ _ _ => .nil⟩
  | d :: ds, u :: us, h => by
    obtain ⟨h1, h2⟩ := Bool.and_eq_true_iff.mp (show (relK K d u && relKs K ds us) = true from h)
    obtain ⟨v, a, b⟩ := relK_ok h1
    obtain ⟨vs, x, y⟩ := relKs_ok h2
    exact ⟨v :: vs, .cons a x, fun B A n => .cons (b B A n) (y B A n)⟩
  | [], _ :: _, h => by simp [relKs] at h
  | _ :: _, [], h => by simp [relKs] at h
end
/-! xs + ys as a list that may change -/
def gAddL : O2 := fun x y m => match lstOf m x, lstOf m y with
  | some xs, some ys => if xs.length + ys.length ≤ sizeLine then some (.lst (xs ++ ys)) else none
  | _, _ => none
section
variable {X : Cx} {P : Pm} {E : XK} {fa fb : SE} {a b : Expr} {pos : Pos}
theorem xe_addM (ha : PE X a (tX P E fa)) (hb : PE X b (tX P E fb)) : PE X (.BinOp a .Add b pos) (tX P E (op2M gAddL fa fb)) := by
  refine pe_imp (pe_op op_addA ha hb) fun σ H Q ⟨F, B, A, ρ, m, s, e, h⟩ => ?_
  refine tX_go s e (wp_bind h) fun dx m1 B1 A1 H1 x h1 l1 s1 rx => ?_
  refine tX_go s1 (e.mono l1) (wp_le l1 (wp_bind h1)) fun dy m2 B2 A2 H2 y h2 l2 s2 ry => ?_
  obtain ⟨z, hz, h3⟩ := lift_wp (wp_bind h2)
  unfold gAddL at hz
  split at hz
  · rename_i xs ys hx hy
    split at hz
    · rename_i hl
      cases hz
      obtain ⟨p, vs, rfl, hp, rs⟩ := lst_of s2 (rx.mono l2) hx
      obtain ⟨q, ws, rfl, hq, rt⟩ := lst_of s2 ry hy
      exact .inr (.inr (.inr ⟨p, q, vs, ws, rfl, rfl, hp, hq, by rw [rs.length, rt.length]; exact hl, fun q hq => alloc_lst (l1.trans l2) s2 (rs.append rt) h3 hq⟩))
    · cases hz
  · cases hz
end
end LB

set_option Elab.async false
set_option linter.all false
set_option autoImplicit false
set_option maxRecDepth 100000
set_option maxHeartbeats 2000000
/-! Dicts keyed by tuples: list(d), d.update(pairs), {}. -/
namespace LB
open PySem PySem.Spec PyProof.Rows L2
/-! ### list(d) -/
mutual
def keyD : NestedKey → D
  | .none => .non
  | .num i => .int i
  | .text x => .str x
  | .tup ks => .tup (keyDs ks)
def keyDs : List NestedKey → List D
  | [] => []
  | k :: ks => keyD k :: keyDs ks
end
mutual
theorem keyD_rep {K : PySem.W.Frag} {B : Hp} {A : Nat → Addr} {n : Nat} : ∀ {v : V} {k : NestedKey}, NRep K B v k → Rep K B A n v (keyD k)
  | _, _, .none => by simp only [keyD]; exact .non
  | _, _, .num i => by simp only [keyD]; exact .int i
  | _, _, .text x => by simp only [keyD]; exact .str x
  | _, _, .tup h r => by simp only [keyD]; exact .tup h (keyDs_rep r)
theorem keyDs_rep {K : PySem.W.Frag} {B : Hp} {A : Nat → Addr} {n : Nat} : ∀ {vs : List V} {ks : List NestedKey}, NReps K B vs ks → Reps K B A n vs (keyDs ks)
  | _, _, .nil => by simp only [keyDs]; exact .nil
  | _, _, .cons r t => by simp only [keyDs]; exact .cons (keyD_rep r) (keyDs_rep t)
end
section
variable {X : Cx} {P : Pm}
/-! ### d.update(pairs) -/
end
section
variable {X : Cx} {P : Pm} {E : XK} {pos : Pos} {o e : Expr} {td te : TE} {fo fe : SE}
/-! {} of keys that are tuples -/
end
end LB

set_option Elab.async false
set_option linter.all false
set_option autoImplicit false
set_option maxRecDepth 100000
set_option maxHeartbeats 2000000
/-! Errors raised: own classes without and with their own __init__. -/
namespace LB
open PySem PySem.Spec PyProof.Rows L2
/-! ### raise X('..') -/
section
variable {X : Cx} {P : Pm} {E : XK} {C : Addr} {c : Nat}
/-! ### raise X(e), X's __init__: Base.__init__(self, f); self.f = f -/
/-- the written part's words on a class of errors over ValueError -/
def oexB (K : PySem.W.Frag) (C : Addr) : Bool := (match K.lookup C with
  | some ⟨.type "type", _, .cls cd, sl⟩ => (match cd.mro, sl.toList with
    | .ref C' :: bm, [_, _, _, _, some (.builtin n), _] => C' == C && (n == "ValueError.__new__" && (!cd.hasDel && (cd.hasDict && PySem.HandSPX.refsVE bm)))
    | _, _ => false)
  | _ => false) && (decide (PySem.W.findIn K (.ref C) "__setattr__" = some (some (.builtin "object.__setattr__"))) && (decide (PySem.W.subIn K (.ref C) (.type "BaseException") = some true) && (decide (PySem.W.typeIn K (.ref C) = some (.type "type")) && PySem.W.keepIn K (.ref C))))
theorem oexB_ok {K : PySem.W.Frag} (h : oexB K C = true) : OexC K C := by
  unfold oexB at h
  obtain ⟨h1, h⟩ := Bool.and_eq_true_iff.mp h
  obtain ⟨h2, h⟩ := Bool.and_eq_true_iff.mp h
  obtain ⟨h3, h⟩ := Bool.and_eq_true_iff.mp h
  obtain ⟨h4, h5⟩ := Bool.and_eq_true_iff.mp h
  refine ⟨?_, of_decide_eq_true h2, of_decide_eq_true h3, of_decide_eq_true h4, h5⟩
  split at h1
  · rename_i dd cd sl ho
    split at h1
    · rename_i C' bm k0 k1 k2 k3 n k5 hm hs
      simp only [Bool.and_eq_true, beq_iff_eq, Bool.not_eq_true'] at h1
      obtain ⟨rfl, rfl, hdel, hdct, hv⟩ := h1
      obtain ⟨nm, bs, mro, ns, qn, hd, sn, sub, ab, col, del⟩ := cd
      dsimp only at hm hdel hdct
      subst hm hdel hdct
      have hsl : sl = #[k0, k1, k2, k3, some (.builtin "ValueError.__new__"), k5] := by
        obtain ⟨l⟩ := sl
        simp only at hs
        rw [hs]
      subst hsl
      exact ⟨nm, qn, ns, bs, bm, sn, sub, ab, col, dd, k0, k1, k2, k3, k5, ho, hv⟩
    · cases h1
  · cases h1
theorem pe_baseinit {L : Addr} {x : Str} {e : Expr} {es : List Expr} {ta : TA} {p1 p2 pos : Pos} {pl : Sem Bool} (hg : Gl X x) (hm : X.mg x = some (.ref L))
    (hs : PySem.W.specialIn X.K (.ref L) "__getattribute__" = some (some (.builtin "type.__getattribute__"))) (hr : PySem.W.readsIn X.K L (.type "type") = true)
    (hv : PySem.W.findCls X.K (.ref L) (.type "type") "__init__" = some (.val (.builtin "ValueError.__init__"))) (ha : PA X (e :: es) ta) (hdb : (x == ("__debug__" : Str)) = false := by decide)
    (hc : eval (.Call (.Attribute (.Name x p1) "__init__" p2) (e :: es) [] pos) X.env = (do
      let ov ← eval (.Name x p1) X.env
      standAt p2.atName
      let (f, first) ← holding [ov] (getMethod ov "__init__" pl)
      callWith pos f first (backTo pos (starEach (e :: es) X.env)) (backToKw pos (keywordEach [] X.env))) := by rfl)
    (he : starEach (e :: es) X.env = (false, eval e X.env) :: starEach es X.env := by rfl) (hpl : (backTo pos (starEach es X.env)).any (·.1) = false := by rfl) :
    PE X (.Call (.Attribute (.Name x p1) "__init__" p2) (e :: es) [] pos) (tVeI X.K ta) := by
  refine ⟨fun pins s σ H Q I h => ?_⟩
  refine PySem.W.methodCall_KW (ld_glob I hg hm ?_ hdb) hc
  refine PySem.W.method_cls I.kIn hs (PySem.W.cls_value I.kIn hr hv (by decide +kernel) ?_)
  show wpAny _ _ (callWith pos (Value.builtin "ValueError.__init__") [] (backTo pos (starEach (e :: es) X.env)) []) _ _ _
  refine PyProof.Rows.callWith_method1 (thn (ha.run pos pins _ σ H _ (I.tok _) h) fun us s1 ⟨vs, H1, I1, r1, a, C, ws, ev, hl, T, ea, q⟩ => ?_) he hpl
  subst ev
  cases r1 with
  | @cons _ u0 _ ur ra rw' =>
    obtain rfl : u0 = Value.ref a := ra
    have hlen : ur.length ≤ sizeLine := by
      rw [← Paired.length rw', sizeLine_eq]
      omega
    exact oinit_ok T I1 ea hlen fun s' J => ⟨.non, H1, J, rfl, q⟩
/-- the promise of such an __init__ -/
def spInit (K : PySem.W.Frag) (C : Addr) (f : Str) : Sp := fun vs H Q _ => ∃ (a : Addr) (x : V), vs = [.ref a, x] ∧ H a = some (exo a C none) ∧ ∀ dx, H dx = none → dx ≠ a → Q .non (upd (upd H dx (exd dx [(f, x)])) a (exo a C (some dx)))
end
end LB

set_option Elab.async false
set_option linter.all false
set_option autoImplicit false
set_option maxRecDepth 100000
set_option maxHeartbeats 2000000
/-! Errors with a field: raise X(e). -/
namespace LB
open PySem PySem.Spec PyProof.Rows L2
abbrev CXn : CXT := fun _ _ _ _ _ _ => False
theorem passn {X : Cx} {E : XK} : Passes CXn X E := fun _ _ _ _ _ _ _ h => h.elim
section
variable {Pg : Program} {w : World} {K : PySem.W.Frag} {mg : Str → Option Value} {base : Heap}
/-- such an __init__ keeps its promise -/
theorem ok_init {q f p1 p2 : Str} {params : Arguments} {body : List Stmt} {scope : Scope} {fI C : Addr} {fd : FuncData} (F : FunD K "__init__" q params body scope [] [] fI fd) (S : FnScope [p1, p2] [p1, p2] scope) (T : OexC K C) (hno : PySem.W.findIn K (.ref C) f = some none)
    (hb : ∀ (cdv : Value) (A : Around) (outer : List Env) (s : Shared) (H : Hp) (E : XK), PSs (cxOf CXn Pg w K mg base [p1, p2] q scope fI cdv A outer s H E) body (tSeq (tDrop (tVeI K (tCons (tVar 0) (tCons (tVar 1) tNil)))) (tOst K f (tVar 0) (tVar 1)))) :
    FnOk Pg w K mg base CXn 1 fI fd [p1, p2] (spInit K C f) := by
  refine F.ok S (fun vs H Q E ⟨a, x, e, _⟩ => by rw [e]; rfl) fun cdv A outer s H vs Q E hr ⟨a, x, e, ha, h⟩ => ⟨_, hb cdv A outer s H E, ?_⟩
  subst e
  refine ⟨.ref a, rfl, x, rfl, a, C, [x], rfl, (by show 1 ≤ 1000; decide), T, ha, ?_⟩
  refine ⟨x, rfl, .ref a, rfl, a, C, rfl, T, hno, .inl ⟨ha, fun dx hd hne => ?_⟩⟩
  exact h dx hd hne
end
section
variable {X : Cx} {P : Pm} {E : XK} {C : Addr} {c : Nat}
theorem xs_raiseF {x f : Str} {e : Expr} {fe : SE} {p pos pos2 : Pos} {k : Nat} {fI : Addr} {fd : FuncData} {ps : List Str} (hc : X.calm = true) (tk : Takes X (fun cls d _ H => E cls d H)) (T : OexC X.K C) (iC : PySem.W.findIn X.K (.ref C) "__init__" = some (some (.ref fI)))
    (tI : PySem.W.typeIn X.K (.ref fI) = some (.type "function")) (F1 : FnOk X.prog X.w X.K X.mg X.base CXn k fI fd ps (spInit X.K C f)) (hr : Room (k + 1) X.A) (hb : Binds X.K fd ps []) (hg : Gl X x) (hm : X.mg x = some (.ref C)) (hC : P.CA c = C) (hf : P.XN c = f) (ha : PE X e (tX P E fe))
    (hdb : (x == ("__debug__" : Str)) = false := by decide) (he : starEach (e :: []) X.env = (false, eval e X.env) :: starEach [] X.env := by rfl) (hpl : (backTo pos (starEach [] X.env)).any (·.1) = false := by rfl) :
    PS X (.Raise (some (.Call (.Name x p) [e] [] pos)) none pos2) (tXS P E (sRaiseF c fe)) := by
  refine ps_imp (ps_raise hc tk (pmk_oex T iC tI F1 hr hb .nil passn hg hm (pa_cons ha pa_nil he) hdb he hpl)) fun D σ H ⟨F, B, A, ρ, m, s, e, h⟩ => ?_
  refine tX_go s e (wp_bind h) fun d m1 B1 A1 H1 v h1 l1 s1 rv => ?_
  refine ⟨by show 1 ≤ 1000; decide, fun a ha => ⟨a, v, rfl, upd_same, fun dx hdx ne => ?_⟩⟩
  have hd1 : H1 dx = none := by rw [upd_ne ne] at hdx; exact hdx
  refine ⟨rfl, dx, [(f, v)], upd_same, by rw [upd_ne ne, upd_same], hd1, ?_⟩
  have h2 : exV P E F B A m.n ⟨c, some d⟩ m1 := h1
  have ex : Ex H1 (upd (del (upd (upd (upd H1 a (exo a C none)) dx (exd dx [(f, v)])) a (exo a C (some dx))) a) dx (.xd [(f, v)])) := fun b o hb => by
    have n1 : b ≠ dx := ne_of_none hb hd1
    have n2 : b ≠ a := ne_of_none hb ha
    rw [upd_ne n1, del_ne n2, upd_ne n2, upd_ne n1, upd_ne n2]
    exact hb
  exact h2 B1 A1 _ _ _ l1 (s1.grow ex) ⟨by rw [hC], dx, v, rfl, by rw [hf]; exact upd_same, rv⟩
end
end LB

set_option Elab.async false
set_option linter.all false
set_option autoImplicit false
set_option maxRecDepth 100000
set_option maxHeartbeats 2000000
/-! In an except suite: isinstance of the error, its field; list.count. -/
namespace LB
open PySem PySem.Spec PyProof.Rows L2
/-! ### the error at hand -/
/-- what is asked of a class of errors -/
def xkB (K : PySem.W.Frag) (D : Addr) : Bool := (PySem.W.clsIn K D).isSome && (decide (PySem.W.findIn K (.ref D) "__getattribute__" = some (some (.builtin "BaseException.__getattribute__"))) && (decide (PySem.W.findIn K (.ref D) "__getattr__" = some none) &&
  (decide (PySem.W.subIn K (.ref D) (.type "BaseException") = some true) && (decide (PySem.W.findIn K (.ref D) "__class__" = some (some (.builtin "object.__class__"))) && (decide (PySem.W.specialIn K (.builtin "object.__class__") "__get__" = some (some (.builtin "getset_descriptor.__get__"))) &&
  (decide (PySem.W.takesIn K (.builtin "object.__class__") = some true) && (decide (PySem.W.mroIn K D (.type "object") = some true) && PySem.W.hasDictIn K D)))))))
structure XkC (K : PySem.W.Frag) (D : Addr) : Prop where
  cl : (PySem.W.clsIn K D).isSome = true
  hg : PySem.W.findIn K (.ref D) "__getattribute__" = some (some (.builtin "BaseException.__getattribute__"))
  hk : PySem.W.findIn K (.ref D) "__getattr__" = some none
  hs : PySem.W.subIn K (.ref D) (.type "BaseException") = some true
  ha : PySem.W.findIn K (.ref D) "__class__" = some (some (.builtin "object.__class__"))
  hn : PySem.W.specialIn K (.builtin "object.__class__") "__get__" = some (some (.builtin "getset_descriptor.__get__"))
  ht : PySem.W.takesIn K (.builtin "object.__class__") = some true
  hm : PySem.W.mroIn K D (.type "object") = some true
  hd : PySem.W.hasDictIn K D = true
theorem xkB_ok {K : PySem.W.Frag} {D : Addr} (h : xkB K D = true) : XkC K D := by
  unfold xkB at h
  simp only [Bool.and_eq_true, decide_eq_true_eq] at h
  obtain ⟨h1, h2, h3, h4, h5, h6, h7, h8, h9⟩ := h
  exact ⟨h1, h2, h3, h4, h5, h6, h7, h8, h9⟩
section
variable {X : Cx} {P : Pm} {E : XK}
/-- isinstance(e, c), e the error that the suite holds, with its dict or without -/
def rIsX (K : PySem.W.Frag) (D a : Addr) (d : Option Addr) : List V → Hp → VK → Prop := fun xs H Q => ∃ (c : V) (cv : Value) (b : Bool), xs = [.ref a, c] ∧ (∀ u, RelV c u → u = cv) ∧ PySem.W.kitOne K (.ref D) cv = some b ∧ (∀ dd, d = some dd → ∃ fs, H dd = some (.xd fs)) ∧ Q (.bl b) H
theorem call_isX {a D : Addr} {oe : Obj} {d : Option Addr} {pn : List (Addr × Obj)} (C : XkC X.K D) (hz : Zc (.ref D) d oe) (hf : ∃ vs, oe.data = .fields vs) : CallR (X.suite a ((a, oe) :: pn)) (.builtin "isinstance") (rIsX X.K D a d) := by
  intro pins s σ H xs us Q I r h
  obtain ⟨c, cv, b, rfl, hcv, e, hdd, q⟩ := h
  cases r with
  | cons rx rr =>
    cases rr with
    | cons rt rr =>
      cases rr
      cases rx
      have ec := hcv _ rt
      subst ec
      obtain ⟨hget, _⟩ := I.pin (a, oe) (List.mem_append.mpr (.inl List.mem_cons_self))
      obtain ⟨vs, hv⟩ := hf
      obtain ⟨oc, od, oda, osl⟩ := oe
      obtain ⟨h1, h2⟩ := hz
      dsimp only at h1 h2 hv
      subst h1 h2 hv
      cases od with
      | none =>
        have J : PySem.W.InstAt s.heap a ⟨.ref D, none, .fields vs, osl⟩ D none := ⟨hget, rfl, rfl, trivial⟩
        exact PySem.W.kia_one (PySem.W.kitx_exc C.cl C.hg C.hk C.hs C.ha C.hn C.ht C.hm) I.kIn J e (fun z => nomatch z) fun tk => ⟨.bl b, H, I.kept (t' := tk) fun _ _ z => z, rfl, q⟩
      | some dd =>
        obtain ⟨fs, hfs⟩ := hdd dd rfl
        have hx : ObjOk X.prog X.w H s.heap dd (.xd fs) := I.hok dd _ hfs
        obtain ⟨mA, hns, hr⟩ := hx
        obtain ⟨od, ho, hl⟩ := lookIn_ns hns
        have J : PySem.W.InstAt s.heap a ⟨.ref D, some dd, .fields vs, osl⟩ D (some od) := ⟨hget, rfl, rfl, ho⟩
        exact PySem.W.kia_one (PySem.W.kitx_exc C.cl C.hg C.hk C.hs C.ha C.hn C.ht C.hm) I.kIn J e (fun z => nomatch z) fun tk => ⟨.bl b, H, I.kept (t' := tk) fun _ _ z => z, rfl, q⟩
/-- isinstance(e, ..), e in slot i at a -/
def isX (i a : Nat) (b : Bool) : SE := fun ρ m => match ρ[i]? with
  | some (some (.ref x)) => if x = a then .ok (.bl b) m else .bad
  | _ => .bad
/-- e.f -/
def fldX (i a : Nat) (fl : Option Int) : SE := fun ρ m => match ρ[i]? with
  | some (some (.ref x)) => (if x = a then (match fl with
    | some n => .ok (.int n) m
    | none => .bad) else .bad)
  | _ => .bad
theorem isX_wp {i a : Nat} {b : Bool} {ρ : Ev} {m : Mem} {q : D → Mem → Prop} {e : Er → Mem → Prop} (h : (isX i a b ρ m).wp q e) : ρ[i]? = some (some (.ref a)) ∧ q (.bl b) m := by
  unfold isX at h
  split at h
  · rename_i x hx
    by_cases hxa : x = a
    · rw [if_pos hxa] at h
      rw [hxa] at hx
      exact ⟨hx, h⟩
    · rw [if_neg hxa] at h
      exact h.elim
  · exact h.elim
theorem fldX_wp {i a : Nat} {fl : Option Int} {ρ : Ev} {m : Mem} {q : D → Mem → Prop} {e : Er → Mem → Prop} (h : (fldX i a fl ρ m).wp q e) : ρ[i]? = some (some (.ref a)) ∧ ∃ n, fl = some n ∧ q (.int n) m := by
  unfold fldX at h
  split at h
  · rename_i x hx
    by_cases hxa : x = a
    · rw [if_pos hxa] at h
      rw [hxa] at hx
      cases fl with
      | none => exact h.elim
      | some n => exact ⟨hx, n, rfl, h⟩
    · rw [if_neg hxa] at h
      exact h.elim
  · exact h.elim
theorem xk_isi {i : Nat} {a Dc : Addr} {oe : Obj} {d : Option Addr} {pn : List (Addr × Obj)} {y z : Str} {p p1 p2 pos : Pos} {cV : V} {cval : Value} {b : Bool} (C : XkC X.K Dc) (hz : Zc (.ref Dc) d oe) (hf : ∃ vs, oe.data = .fields vs) (hd : ∀ dd, d = some dd → ∃ q, P.XD = some (dd, q))
    (hg : Gl X "isinstance") (hm : X.mg "isinstance" = none) (hv : bootBuiltins "isinstance" = some (.builtin "isinstance")) (hN : X.N[i]? = some y) (hvis : Vis X.env.scope y) (hc : PE (X.suite a ((a, oe) :: pn)) (.Name z p2) (tC cV)) (hcv : ∀ u, RelV cV u → u = cval) (hk : PySem.W.kitOne X.K (.ref Dc) cval = some b)
    (h1 : (y == ("__debug__" : Str)) = false := by decide) (h2 : (y == ("__classdict__" : Str)) = false := by decide)
    (he : starEach [.Name y p1, .Name z p2] X.env = (false, eval (.Name y p1) X.env) :: starEach [.Name z p2] X.env := by rfl) (hpl : (backTo pos (starEach [.Name z p2] X.env)).any (·.1) = false := by rfl)
    (he2 : starEach [.Name z p2] X.env = (false, eval (.Name z p2) X.env) :: starEach [] X.env := by rfl) :
    PE (X.suite a ((a, oe) :: pn)) (.Call (.Name "isinstance" p) [.Name y p1, .Name z p2] [] pos) (tX P E (isX i (a + 2) b)) := by
  have hy : PE (X.suite a ((a, oe) :: pn)) (.Name y p1) (tVar i) := pe_var (X := X.suite a ((a, oe) :: pn)) hN hvis h1 h2
  refine pe_imp (pe_callB (X := X.suite a ((a, oe) :: pn)) (call_isX C hz hf) hg hm hv (pa_cons (X := X.suite a ((a, oe) :: pn)) hy (pa_cons (X := X.suite a ((a, oe) :: pn)) hc pa_nil he2) he) (by decide) (by decide) he hpl) fun σ H Q ⟨F, B, A, ρ, m, s, e, h⟩ => ?_
  obtain ⟨hr, hq⟩ := isX_wp h
  obtain ⟨v, hs, rv⟩ := e.at_ i _ hr
  cases rv
  refine ⟨.ref a, hs, ?_⟩
  refine ⟨cV, cval, b, rfl, hcv, hk, fun dd hdd => ?_, hq B A H _ Le.refl s (.bl b)⟩
  obtain ⟨q, hx⟩ := hd dd hdd
  exact ⟨_, s.xd _ hx⟩
theorem xk_fld {i : Nat} {a C : Addr} {oe : Obj} {cls : Value} {d : Option Addr} {pn : List (Addr × Obj)} {y f : Str} {p1 pos : Pos} {fl : Option Int} (T : XfC X.K C) (hno : PySem.W.findIn X.K (.ref C) f = some none) (hz : Zc cls d oe) (hf : ∃ vs, oe.data = .fields vs) (hN : X.N[i]? = some y) (hvis : Vis X.env.scope y)
    (hfl : ∀ n, fl = some n → cls = .ref C ∧ ∃ dd, d = some dd ∧ P.XD = some (dd, f, n)) (h1 : (y == ("__debug__" : Str)) = false := by decide) (h2 : (y == ("__classdict__" : Str)) = false := by decide)
    (hb : attributeBase (.Name y p1) f X.env (eval (.Name y p1) X.env) = eval (.Name y p1) X.env := by rfl) :
    PE (X.suite a ((a, oe) :: pn)) (.Attribute (.Name y p1) f pos) (tX P E (fldX i (a + 2) fl)) := by
  have hy : PE (X.suite a ((a, oe) :: pn)) (.Name y p1) (tVar i) := pe_var (X := X.suite a ((a, oe) :: pn)) hN hvis h1 h2
  refine pe_imp (pe_xf T hno hz hf hy hb) fun σ H Q ⟨F, B, A, ρ, m, s, e, h⟩ => ?_
  obtain ⟨hr, n, hn, hq⟩ := fldX_wp h
  obtain ⟨v, hs, rv⟩ := e.at_ i _ hr
  cases rv
  obtain ⟨hc, dd, hd, hx⟩ := hfl n hn
  refine ⟨.ref a, hs, rfl, hc, dd, _, .int n, hd, s.xd _ hx, ?_, hq B A H _ Le.refl s (.int n)⟩
  rw [List.lookup_cons, beq_self_eq_true]
/-- a name of the module that stands for a class; ValueError -/
theorem xk_cls {z : Str} {p2 : Pos} {c : Addr} (hg : Gl X z) (hm : X.mg z = some (.ref c)) (hd : (z == ("__debug__" : Str)) = false := by decide) : PE X (.Name z p2) (tC (.ref c)) := pe_glob hg hm rfl hd
theorem xk_ve {p2 : Pos} (hg : Gl X "ValueError") (hm : X.mg "ValueError" = none) : PE X (.Name "ValueError" p2) (tC (.ty "ValueError")) := pe_bltn hg hm PyProof.Rows.Boot.«ValueError» rfl (by decide) (by decide)
/-! ### list.count, flat items -/
def rCntF (K : PySem.W.Frag) : V → List V → Hp → VK → Prop := fun x xs H Q => ∃ (a : Addr) (ys : List V) (y : V), x = .ref a ∧ xs = [y] ∧ SqL K H a ys ∧ flatV y = true ∧ ys.all flatV = true ∧ Q (.int (ys.countP fun z => eqV z y : Nat)) H
theorem cnt_eqU {y : V} : ∀ {ys : List V} {its : List Value}, Vals ys its → ys.all flatV = true → its.countP (eqU y) = ys.countP fun z => eqV z y
  | _, _, .nil, _ => rfl
  | _, _, .cons r t, h => by
    rw [List.all_cons, Bool.and_eq_true] at h
    rw [List.countP_cons, List.countP_cons, cnt_eqU t h.2, eqU_of r h.1]
theorem mt_countF : MtR X "list.count" (rCntF X.K) := by
  intro pins s σ H x xs v us Q I rx rxs h
  obtain ⟨a, ys, y, rfl, rfl, hs, fy, fys, q⟩ := h
  cases rx
  cases rxs with
  | cons ry rt =>
    rename_i uy ut
    cases rt
    obtain ⟨its, rv, ⟨⟨cls, dd, data, sl⟩, n, ho, hc, hdn, hd⟩, hlen⟩ := I.list hs
    simp only at hc hd
    subst hc hd
    refine call_meets PySem.F.slot_list_count ⟨_, ho, rfl⟩ PySem.F.entry_list_count (PySem.F.args_list_count_2 _ _)
      (SeqAt.list_countAt a its.toArray n dd sl uy (eqU y)) ⟨ho, fun u' hu' => mem_eqAt ry fy rv fys u' (by simpa using hu'), ?_⟩
    refine ⟨.int _, H, I.tok _, ⟨s.toks, ?_⟩, q⟩
    have e := cnt_eqU (y := y) rv fys
    show Value.int ((its.toArray.toList.countP (eqU y) : Nat) : Int) s.toks = Value.int ((ys.countP fun z => eqV z y : Nat) : Int) s.toks
    rw [← e]
def gCount : O2 := fun x y m => (lstOf m x).bind fun xs => if y.isFlat = true ∧ xs.all D.isFlat = true then some (D.int (xs.countP fun z => z.eqv y : Nat)) else none
theorem cnt_rep {K : PySem.W.Frag} {B : Hp} {A : Nat → Addr} {n : Nat} {y : V} {dy : D} (ry : Rep K B A n y dy) (h : dy.isFlat = true) : ∀ {vs : List V} {ds : List D}, Reps K B A n vs ds → ds.all D.isFlat = true → (vs.countP fun z => eqV z y) = ds.countP fun z => z.eqv dy
  | _, _, .nil, _ => rfl
  | _, _, .cons r t, q => by
    rw [List.all_cons, Bool.and_eq_true] at q
    rw [List.countP_cons, List.countP_cons, cnt_rep ry h t q.2, eqv_rep r ry q.1 h]
theorem op2_count (hK : X.K = P.K) : Op2 P gCount fun x y H Q => rCntF X.K x [y] H Q := by
  intro F B A m H x y dx dy z Q s rx ry hz k
  unfold gCount at hz
  cases hl : lstOf m dx with
  | none => rw [hl] at hz; cases hz
  | some xs =>
    rw [hl] at hz
    have hz2 : (if dy.isFlat = true ∧ xs.all D.isFlat = true then some (D.int (xs.countP fun z => z.eqv dy : Nat)) else none) = some z := hz
    by_cases hf : dy.isFlat = true ∧ xs.all D.isFlat = true
    · rw [if_pos hf] at hz2
      cases hz2
      obtain ⟨a, vs, rfl, ha, rs⟩ := lst_of s rx hl
      refine ⟨a, vs, y, rfl, rfl, by rw [hK]; exact SqL.of ha, flat_rep ry hf.1, flat_reps rs hf.2, ?_⟩
      rw [cnt_rep ry hf.1 rs hf.2]
      exact k B H _ (Ex.refl B) s (.int _)
    · rw [if_neg hf] at hz2
      cases hz2
theorem xe_count {pos : Pos} {fo fe : SE} {o ee : Expr} {apos : Pos} (hK : X.K = P.K) (ho : PE X o (tX P E fo)) (he : PE X ee (tX P E fe))
    (hbase : attributeBase o "count" X.env (eval o X.env) = eval o X.env := by rfl)
    (hfew : ((backTo pos (starEach (ee :: []) X.env)).all (fun x => !x.1) && (backToKw pos (keywordEach [] X.env)).all (fun x => x.1.isSome) && decide ((ee :: []).length + ([] : List Keyword).length + (if ([] : List Keyword).isEmpty then 0 else 1) < 30)) = true := by rfl)
    (hline : (apos.endLine == pos.line) = true := by rfl) (hs : starEach (ee :: []) X.env = (false, eval ee X.env) :: starEach [] X.env := by rfl) (hplain : (backTo pos (starEach [] X.env)).any (·.1) = false := by rfl) :
    PE X (.Call (.Attribute o "count" apos) [ee] [] pos) (tX P E (mt1E isLst gCount fo fe)) :=
  xe_mt1 PySem.F.plainAttrs_list PySem.F.slot_list_count PySem.F.type_list_count mt_countF chk_lst (op2_count hK) hK ho he hbase hfew hline hs hplain
theorem op_neU (hu : X.A.units + 200 < cLine) : OpR X (compareOp .NotEq) (rNeA X.K) := op_ne.or (op_neD (by omega))
end
end LB

set_option Elab.async false
set_option linter.all false
set_option autoImplicit false
set_option maxRecDepth 100000
set_option maxHeartbeats 2000000
/-! The word of a refusal: try: work() except .. as e: .., work a lambda. -/
namespace LB
open PySem PySem.Spec PyProof.Rows L2
/-- the word of an error: classes by number 5 to 11 -/
def kindW (er : Er) : Option D := match er.cls, er.fld with
  | 5, some (.int n) => some (.tup [.str (Str.ofString "BadProgram"), .int n])
  | 6, none => some (.str (Str.ofString "BadMill"))
  | 7, none => some (.str (Str.ofString "BadCells"))
  | 8, none => some (.str (Str.ofString "BadFuel"))
  | 9, none => some (.str (Str.ofString "BadPiece"))
  | 10, none => some (.str (Str.ofString "TooMany"))
  | 11, some (.int n) => some (.tup [.str (Str.ofString "BadText"), .int n])
  | _, _ => none
/-- the number that an error carries -/
def erI (er : Er) : Option Int := match er.fld with
  | some (.int n) => some n
  | _ => none
theorem kindW_fld {er : Er} {dd : D} (h : kindW er = some dd) : er.fld = none ∨ ∃ n, er.fld = some (.int n) := by
  unfold kindW at h
  split at h <;> first
    | (cases h; done)
    | (rename_i h2; exact .inl h2)
    | exact .inr ⟨_, by assumption⟩
def kindE (fb : SE) : SE := fun ρ m => match fb ρ m with
  | .bad => .bad
  | .ok _ m1 => .ok (.str (Str.ofString "")) m1
  | .ex er m1 => (match kindW er with
    | some d => .ok d m1
    | none => .bad)
/-! ### the error's dict told of -/
def Pm.xd (P : Pm) (x : Option (Addr × Str × Int)) : Pm := { P with XD := x }
section
variable {P : Pm} {F B : Hp} {A : Nat → Addr} {m : Mem} {H H1 : Hp} {x : Option (Addr × Str × Int)}
theorem RepO.toXd {n : Nat} {a : Addr} {o : MO} (r : RepO P B A n H a o) : RepO (P.xd x) B A n H a o := by
  cases r with
  | lst h r => exact .lst h r
  | dct h r => exact .dct h r
  | dcn h k r => exact .dcn h k r
  | obj h r => exact .obj h r
theorem RepO.ofXd {n : Nat} {a : Addr} {o : MO} (r : RepO (P.xd x) B A n H a o) : RepO P B A n H a o := by
  cases r with
  | lst h r => exact .lst h r
  | dct h r => exact .dct h r
  | dcn h k r => exact .dcn h k r
  | obj h r => exact .obj h r
theorem SR.toXd (s : SR P F B A m H) (h : ∀ p, x = some p → H p.1 = some (.xd [(p.2.1, .int p.2.2)])) : SR (P.xd x) F B A m H := ⟨s.ex, s.fr, fun k o hk ho => ⟨(s.at_ k o hk ho).1, (s.at_ k o hk ho).2.toXd⟩, s.inj, s.tb, s.nb, s.nf, h⟩
theorem SR.ofXd (s : SR (P.xd x) F B A m H) (h0 : P.XD = none) : SR P F B A m H := ⟨s.ex, s.fr, fun k o hk ho => ⟨(s.at_ k o hk ho).1, (s.at_ k o hk ho).2.ofXd⟩, s.inj, s.tb, s.nb, s.nf, fun p h => by rw [h0] at h; cases h⟩
/-- the heap behind the making of a lambda -/
theorem SR.lam (s : SR P F B A m H) (e : LamX.ExtN H H1) (t : LamX.Tabs P.T H1) (h0 : P.XD = none) : SR P F B A m H1 := by
  have keep : ∀ a o, H a = some o → (∀ ps, H a ≠ some (.tbl ps)) → H1 a = some o := fun a o h n => e a o h fun ps z => n ps (by rw [h, z])
  refine ⟨fun a o h => ?_, fun a o h => ?_, fun k o hk ho => ?_, s.inj, t, s.nb, s.nf, fun p h => by rw [h0] at h; cases h⟩
  · exact e a o (s.ex a o h) fun ps z => s.nb a ps (by rw [h, z])
  · obtain ⟨h1, h2⟩ := s.fr a o h
    exact ⟨e a o h1 fun ps z => s.nf a ps (by rw [h, z]), h2⟩
  · obtain ⟨h1, h2⟩ := s.at_ k o hk ho
    exact ⟨h1, h2.mono Le.refl fun u hu => keep _ _ hu h2.noT.1⟩
end
/-! ### what _law_kind makes of the lambda's reading -/
def KW (P : Pm) (Q : VK) : XK := fun cls d H => ∃ (F B : Hp) (A : Nat → Addr) (m : Mem) (er : Er) (dd : D), SR P F B A m H ∧ RepX P B A m.n H er cls d ∧ kindW er = some dd ∧ okD P F B A m.n Q dd m
def TTk (P : Pm) : (XK → Hp → VK → Prop) → Hp → VK → Prop := fun tl H Q => tl (KW P Q) H (fun _ H' => Q (.str (Str.ofString "")) H')
theorem kind_tt {P : Pm} {E : XK} {fb : SE} {σ : L2.St} {H H1 : Hp} {Q : VK} (h0 : P.XD = none) (h : tX P E (kindE fb) σ H Q) (e : LamX.ExtN H H1) (t : LamX.Tabs P.T H1) : TTk P (fun E' H' Q' => tX P E' fb σ H' Q') H1 Q := by
  obtain ⟨F, B, A, ρ, m, s, ev, h⟩ := h
  refine ⟨F, B, A, ρ, m, s.lam e t h0, ev, ?_⟩
  unfold kindE at h
  cases hf : fb ρ m with
  | bad => rw [hf] at h; exact h.elim
  | ok d m1 =>
    rw [hf] at h
    exact fun B' A' H' v l s' _ => h B' A' H' _ l s' (.str _)
  | ex er m1 =>
    rw [hf] at h
    cases hk : kindW er with
    | none =>
      have h2 : Rs.wp (match kindW er with
        | some d => Rs.ok d m1
        | none => Rs.bad) (okD P F B A m.n Q) (exV P E F B A m.n) := h
      rw [hk] at h2
      exact h2.elim
    | some dd =>
      have h2 : Rs.wp (match kindW er with
        | some d => Rs.ok d m1
        | none => Rs.bad) (okD P F B A m.n Q) (exV P E F B A m.n) := h
      rw [hk] at h2
      have h3 : okD P F B A m.n Q dd m1 := h2
      exact fun B' A' H' c d l s' rx => ⟨F, B', A', m1, er, dd, s', rx, hk, fun B2 A2 H2 v l2 s2 rv => h3 B2 A2 H2 v (l.trans l2) s2 rv⟩
/-- which dict the error has -/
def xdOf (P : Pm) (er : Er) (d : Option Addr) : Option (Addr × Str × Int) := match d, erI er with
  | some a, some n => some (a, P.XN er.cls, n)
  | _, _ => none
theorem xdOf_at {P : Pm} {B : Hp} {A : Nat → Addr} {n : Nat} {H : Hp} {er : Er} {cls : Value} {d : Option Addr} (r : RepX P B A n H er cls d) : ∀ p, xdOf P er d = some p → H p.1 = some (.xd [(p.2.1, .int p.2.2)]) := fun p hp => by
  unfold xdOf at hp
  have r2 := r.2
  split at hp
  · rename_i a n he
    cases hp
    unfold erI at he
    split at he
    · rename_i k hk
      cases he
      rw [hk] at r2
      obtain ⟨a', v, e1, e2, rv⟩ := r2
      cases e1
      cases rv
      exact e2
    · cases he
  · cases hp
/-- the error's dict stands just where it has a number -/
def DOk (er : Er) (d : Option Addr) : Prop := (d = none ∧ erI er = none) ∨ ∃ a n, d = some a ∧ erI er = some n
theorem dOk_of {P : Pm} {B : Hp} {A : Nat → Addr} {n : Nat} {H : Hp} {er : Er} {dd : D} {cls : Value} {d : Option Addr} (r : RepX P B A n H er cls d) (h : kindW er = some dd) : DOk er d := by
  have r2 := r.2
  rcases kindW_fld h with hf | ⟨n, hf⟩
  · rw [hf] at r2
    exact .inl ⟨r2, by unfold erI; rw [hf]⟩
  · rw [hf] at r2
    obtain ⟨a, v, e, _⟩ := r2
    exact .inr ⟨a, n, e, by unfold erI; rw [hf]⟩
theorem DOk.at {P : Pm} {er : Er} {d : Option Addr} (h : DOk er d) : ∀ b, d = some b → ∃ q, xdOf P er d = some (b, q) := fun b hb => by
  rcases h with ⟨h, _⟩ | ⟨a, n, h1, h2⟩
  · rw [h] at hb
    cases hb
  · rw [h1] at hb
    cases hb
    exact ⟨(P.XN er.cls, n), by unfold xdOf; rw [h1, h2]⟩
theorem DOk.fld {P : Pm} {er : Er} {d : Option Addr} (h : DOk er d) {n : Int} (hn : erI er = some n) : ∃ b, d = some b ∧ xdOf P er d = some (b, P.XN er.cls, n) := by
  rcases h with ⟨_, h⟩ | ⟨a, k, h1, h2⟩
  · rw [h] at hn
    cases hn
  · exact ⟨a, h1, by unfold xdOf; rw [h1, hn]⟩
section
variable {X : Cx} {P : Pm}
/-- THE RULE for _law_kind's text -/
theorem kind_gives {Ng : List Str} {x a n le q : Str} {sg : Scope} {g CL : Addr} {cdg : Value} {j2 : Nat} {b0 : Stmt} {suite : List Stmt} {p1 p2 p3 p4 p5 p6 p7 p8 : Pos} {fS : Addr → Er → SS}
    (h0 : P.XD = none) (hlen : Ng.length = 4) (hnd : Ng.Nodup) (hi : Ng[1]? = some n) (hln : ∀ L : Addr, (envOfC x sg L g cdg).kindOf n = some .local) (hge : sg.names.lookup le = some .globalImplicit) (hme : X.mg le = some (.ref CL)) (hde : (le == ("__debug__" : Str)) = false)
    (h00 : ∀ f : Addr, (L2.start Ng [V.ref f])[0]? = some (some (V.ref f)))
    (hsw : ∀ L : Addr, swapsWith (.Call (.Name a p1) [] [] p2) none p3.line (envOfC x sg L g cdg) = pure false)
    (hexm : ∀ er dd, kindW er = some dd → PySem.W.exmOne X.K (.ref (P.CA er.cls)) (.ref CL) = some true)
    (hS : ∀ (s : Shared) (H : Hp) (aa : Addr) (oe : Obj) (d : Option Addr) (pn : List (Addr × Obj)) (er : Er) (dd : D), kindW er = some dd → Zc (.ref (P.CA er.cls)) d oe → (∃ vs, oe.data = .fields vs) → DOk er d →
      PSs ((cxOf C8.CX0 X.prog X.w X.K X.mg X.base Ng x sg g cdg X.A X.stack s H C8.E0).nox.suite aa ((aa, oe) :: pn)) (b0 :: suite) (tXS (P.xd (xdOf P er d)) (fun _ _ _ => False) (fS (aa + 2) er)))
    (hfS : ∀ (er : Er) (dd : D), kindW er = some dd → ∀ (aa : Addr) (m : Mem), ∃ ρ', fS aa er [none, some (.ref aa), none, none] m = .ok (.rt dd, ρ') m) :
    LamX.GivesTo X Ng x sg g cdg [.Try [.Expr (.Call (.Name a p1) [] [] p2) p3] [.ExceptHandler (some (.Name le p4)) (some n) (b0 :: suite) p5] [] [] p6, .Return (some (.Constant (.str (Str.ofString "")) j2 p7)) p8] a q (TTk P) := by
  intro f c' s H Q tl act hc h
  have hgl : Gl (cxOf C8.CX0 X.prog X.w X.K X.mg X.base Ng x sg g cdg X.A X.stack s H C8.E0).nox le := hge
  refine ⟨_, pss_cons (ps_try_as (X := (cxOf C8.CX0 X.prog X.w X.K X.mg X.base Ng x sg g cdg X.A X.stack s H C8.E0).nox) (c := .ref CL) (i := 1)
      (tb := fun W D σ H => ∃ Ech : XK, (∀ cls d σ' H', Ech cls d H' → W cls d σ' H') ∧ σ[0]? = some (some (.ref f)) ∧ H c' = some (LamX.CodeO c' q) ∧ tl Ech H fun _ H' => D.nx σ H')
      (ts := fun aa cls d D σ H => σ.length = Ng.length → ∃ er dd, kindW er = some dd ∧ cls = .ref (P.CA er.cls) ∧ DOk er d ∧ tXS (P.xd (xdOf P er d)) (fun _ _ _ => False) (fS (aa + 2) er) D σ H)
      rfl rfl hnd hi (hln _) ⟨hgl, hde, .inl hme⟩ LamX.takes0 (fun W pn xe tk _ => ?_) (fun aa oe cls d pn hz hf => ?_)) (pss_one (ps_ret pe_str)), ?_⟩
  · refine ⟨fun pins s' σ H' D I h' => ?_⟩
    obtain ⟨Ech, hW, h1, h2, h3⟩ := h'
    have hp := act W pn xe Ech p1 p2 tk hW
    have hq := pss_one (ps_expr (pos := p3) hp (hsw _))
    exact hq.run pins s' σ H' D I ⟨h1, h2, h3⟩
  · refine ⟨fun pins s' σ H' D I h' => ?_⟩
    obtain ⟨er, dd, e1, e2, e3, e4⟩ := h' I.len
    subst e2
    exact (hS s H aa oe d pn er dd e1 hz hf e3).run pins s' σ H' D I e4
  · refine ⟨KW P Q, fun cls d σ' H' hk => ?_, h00 f, hc, h⟩
    obtain ⟨F, B, A, m, er, dd, s1, rx, hw, ok⟩ := hk
    refine ⟨true, by rw [rx.1]; exact hexm er dd hw, fun _ aa _ hl => ⟨er, dd, hw, rx.1, dOk_of rx hw, ?_⟩, fun z => nomatch z⟩
    rw [List.length_set, hlen] at hl
    obtain ⟨ρ', hr⟩ := hfS er dd hw (aa + 2) m
    refine ⟨F, B, A, [none, some (.ref (aa + 2)), none, none], m, s1.toXd (xdOf_at rx), ⟨by rw [List.length_set, hl]; rfl, fun i d hi => ?_⟩, ?_⟩
    · match i, hi with
      | 1, hi =>
        cases hi
        exact ⟨.ref aa, by rw [List.getElem?_set_self (by omega)], .ref (k := aa + 2)⟩
      | i + 4, hi => simp at hi
    · rw [hr]
      exact fun B' A' H2 σ2 l s2 _ v rv => ok B' A' H2 v l (s2.ofXd h0) rv
end
end LB

set_option Elab.async false
set_option linter.all false
set_option autoImplicit false
set_option maxRecDepth 100000
set_option maxHeartbeats 2000000
/-! _law_kind(lambda: e) in a def; defs that hold lambdas. -/
namespace LB
open PySem PySem.Spec PyProof.Rows L2
/-- the names of lambdas in a def -/
def lamQ (q : Str) (sc : Scope) : Str := (envOfC q sc 0 0 .none).qual ++ ("<lambda>" : Str)
section
variable {fa : List He.Fa} {fn : List He.DefD} {ts : List He.Tab} {ex : PySem.W.Frag → Bool}
theorem xe_kind {X : Cx} {P : Pm} {E : XK} {x a : Str} {pg : Arguments} {bg : List Stmt} {sg : Scope} {Ng : List Str} {params : Arguments} {body : Expr} {scope : Scope} {p lpos pos : Pos} {cc PP : Addr} {k : Nat} {fb : SE} {j : Nat} {i : Nat}
    (c : Ctx fa fn ts ex X.w X.K X.mg) (h0 : P.XD = none) (hj : fn[j]? = some ⟨(x, none), x, x, pg, bg, sg, [], []⟩) (hi : fa[i]? = some (.glo x)) (Sg : FnScope Ng [a] sg) (hNg : Ng[0]? = some a) (hva : Vis sg a)
    (hbd : ∀ (kV doc pm : Value) (an : Option Addr) (cdv ct : Value) (us : List Value), us.length = [a].length → bindArgs (PySem.W.fnOf x x pg bg sg .none kV doc pm an cdv ct) ⟨us, []⟩ = pure ([a].zip us))
    (hG : ∀ cdg, LamX.GivesTo X Ng x sg (He.ga X.K x) cdg bg a (X.env.qual ++ "<lambda>") (TTk P)) (TB : LamX.TabB X.base X.mg cc PP) (hcode : X.env.code = .ref cc) (hmT : (PP, X.env.qual ++ "<lambda>") ∈ P.T) (hu : ∀ q ∈ P.T, q.1 = PP → q.2 = X.env.qual ++ "<lambda>")
    (hr : Room (k + 2) X.A) (L : LamX.LamS X.env.scope scope) (hdef : defaultsOf params X.env = ([], [])) (hbind : ∀ (q : Str) (cl : List (Str × Addr)) (pm cv ctv : Value), bindArgs (PySem.W.kla_fn "<lambda>" q params body scope cl pm cv ctv) ⟨[], []⟩ = pure [])
    (hbody : ∀ (A : Around) (outer : List Env) (s : Shared) (H : Hp) (E : XK) (f c' : Addr), Room k (A.deeper (LamX.lamEnv X scope s.heap.objs.size f c')) → PE (LamX.lamCx X A outer s H E scope f c') body (tX P E fb))
    (hg : Gl X x := by rfl) (hdb : (x == ("__debug__" : Str)) = false := by decide) (hd : (a == ("__debug__" : Str)) = false := by decide) (hcd : (a == ("__classdict__" : Str)) = false := by decide) :
    PE X (.Call (.Name x p) [.Lambda params body scope lpos] [] pos) (tX P E (kindE fb)) := by
  obtain ⟨fd, F⟩ := c.def_ j hj
  have F2 : FunD X.K x x pg bg sg [] [] (He.ga X.K x) fd := F
  have b := F2.bindsN hbd
  have kp := F2.kp
  obtain ⟨oc, od, dV, kV, doc, pm, an, cdv, ct, osl, rfl, lk, hcd2, _, _⟩ := F2.ex
  refine pe_imp (LamX.pe_lamcall (t := fun E' => tX P E' fb) hg (c.glo i hi) kp lk hcd2 b Sg hNg hva (hG cdv) TB hcode hmT hu hr L hdef hbind hbody hdb hd hcd) fun σ H Q h => ?_
  exact ⟨h.choose_spec.choose_spec.choose_spec.choose_spec.choose_spec.1.tb, fun H1 e t => kind_tt h0 h e t⟩
theorem passLam {X : Cx} {A : Around} {outer : List Env} {s : Shared} {H : Hp} {E : XK} {scope : Scope} {f c' : Addr} : Passes (L2.CX (LamX.lamCx X A outer s H E scope f c').prog (LamX.lamCx X A outer s H E scope f c').w) (LamX.lamCx X A outer s H E scope f c') E := passes_call (takes_of rfl rfl rfl rfl) fun _ _ _ _ h => h
end
section
variable {fa : List He.Fa} {fn : List He.DefD} {ts : List He.Tab} {ex : PySem.W.Frag → Bool} {Pg : Program} {w : World} {K : PySem.W.Frag} {mg : Str → Option Value} {base : Heap} {P : Pm}
theorem code_at {x q : Str} {p : He.Defn} {params : Arguments} {body : List Stmt} {scope : Scope} {dvs : List V} {kws : List (Str × V)} {fd : FuncData} {cdv : Value} (F : FunD K x q params body scope dvs kws (He.fAd K p) fd) (h : fd.code = cdv) : cdv = .ref (He.cT K p).1 := by
  obtain ⟨oc, od, dV, kV, doc, pm, an, cdv2, ct, osl, rfl, lk, hcd, _, _⟩ := F.ex
  have e : cdv2 = cdv := h
  subst e
  obtain ⟨c, hc⟩ := He.codeIn_ref hcd
  rw [hc]
  show Value.ref c = Value.ref (He.codeOf K p)
  rw [He.codeOf_eq lk (show _ = _ from hc)]
/-- the law's own def, with lambdas -/
theorem law_ofL (c : Ctx fa fn ts ex w K mg) {tf : List He.Defn} {st : Stmt} {y : Str} {N : List Str} {k : Nat} {fb : SS} (i j : Nat) (S : FnScope N [y] (defScope st))
    (hbd : ∀ (kV doc pm : Value) (an : Option Addr) (cdv ct : Value) (us : List Value), us.length = [y].length → bindArgs (PySem.W.fnOf "law" "law" (defArgs st) (defBody st) (defScope st) .none kV doc pm an cdv ct) ⟨us, []⟩ = pure ([y].zip us))
    (hb : ∀ (base : Heap) (f : Addr) (cdv : Value) (A : Around) (outer : List Env) (s : Shared) (H : Hp) (E : XK), (∀ p ∈ tf, LamX.TabB base mg (He.cT K p).1 (He.cT K p).2) → cdv = .ref (He.cT K ("law", none)).1 → Room k (A.deeper (envOfC "law" (defScope st) s.heap.objs.size f cdv)) →
      Passes (L2.CX Pg w) (cxOf (L2.CX Pg w) Pg w K mg base N "law" (defScope st) f cdv A outer s H E) E → PassesOwn (model Pg w) (A.deeper (envOfC "law" (defScope st) s.heap.objs.size f cdv)) (envOfC "law" (defScope st) s.heap.objs.size f cdv) (cxOf (L2.CX Pg w) Pg w K mg base N "law" (defScope st) f cdv A outer s H E).xe →
      PSs (cxOf (L2.CX Pg w) Pg w K mg base N "law" (defScope st) f cdv A outer s H E) (defBody st) (tXS P E fb))
    (hK : P.K = K) (hT0 : ∀ p ∈ P.T, ∃ q ∈ tf, p.1 = (He.cT K q).2) (hX0 : P.XD = none) (hj : fn[j]? = some ⟨("law", none), "law", "law", defArgs st, defBody st, defScope st, [], []⟩) (hi : fa[i]? = some (.glo "law"))
    (hlaw : ∀ ns : List Int, ns.length ≤ 63 → (run N.length fb [.scr ns] ⟨fun _ => none, 0⟩).wp (fun d _ => d = .bl true) fun _ _ => False) (f : Addr) (hf : mg "law" = some (.ref f)) :
    ∃ (fd : FuncData) (sp : Sp), (∀ (s : Shared) (u : Value), BindsTo s fd ⟨[u], []⟩ [(y, u)]) ∧ (∀ (H : Hp) (a : Addr) (ns : List Int), ns.length ≤ 63 → (∀ p ∈ tf, H (He.cT K p).2 = some (.tbl #[])) → SqL K H a (ns.map V.int) → sp [.ref a] H (fun v _ => v = .bl true) fun _ _ _ => False) ∧
      ∀ base : Heap, K.In base → base.Ns mainGlobals mg → (∀ p ∈ tf, LamX.TabB base mg (He.cT K p).1 (He.cT K p).2) → FnOk Pg w K mg base (L2.CX Pg w) (k + 1) f fd [y] sp := by
  obtain ⟨fd, F⟩ := c.def_ j hj
  have F2 : FunD K "law" "law" (defArgs st) (defBody st) (defScope st) [] [] (He.fAd K ("law", none)) fd := F
  have e := hf.symm.trans (c.glo i hi)
  cases e
  have b := FunD.bindsA (ps := [y]) F2 hbd
  refine ⟨fd, spF P (run N.length fb) 1, fun s v => b s [v] rfl, fun H a ns hl hH hS => ?_, fun base _ _ tb => ok_fnL (He5.fun_of F2) S (fun ds m _ => .same _) fun cdv A outer s H E hc hr => ?_⟩
  · refine ⟨fun _ => none, noTb H, fun _ => 0, ⟨fun _ => none, 0⟩, [.scr ns], sr0 (fun p hp => ?_) hX0, .cons (.scr (by rw [hK]; exact noTb_sq hS)) .nil, rfl, ?_⟩
    · obtain ⟨q, hq, e⟩ := hT0 p hp
      exact LamX.TabS.nil (by rw [e]; exact hH q hq)
    · refine Rs.wp_mono (hlaw ns hl) (fun d m h => ?_) fun _ _ h => h.elim
      subst h
      intro B' A' H' v _ _ r
      cases r
      rfl
  · exact hb base _ cdv A outer s H E tb (code_at F2 hc) hr (passes_call (takes_of rfl rfl rfl rfl) fun _ _ _ _ h => h) (passes_of rfl)
end
end LB

set_option Elab.async false
set_option linter.all false
set_option autoImplicit false
set_option maxRecDepth 100000
set_option maxHeartbeats 2000000
/-! The written part's words on the seven classes of errors. -/
namespace LB
open PySem PySem.Spec PyProof.Rows L2
def errN : List (Nat × Str) := [(5, "BadProgram"), (6, "BadMill"), (7, "BadCells"), (8, "BadFuel"), (9, "BadPiece"), (10, "TooMany"), (11, "BadText")]
def kitB (K : PySem.W.Frag) : Bool := errN.all fun p => xkB K (He.ga K p.2) && (decide (PySem.W.kitOne K (.ref (He.ga K p.2)) (.type "ValueError") = some true) && (decide (PySem.W.exmOne K (.ref (He.ga K p.2)) (.ref (He.ga K "LateError")) = some true) &&
  errN.all fun q => decide (PySem.W.kitOne K (.ref (He.ga K p.2)) (.ref (He.ga K q.2)) = some (decide (p.1 = q.1)))))
def fldB (K : PySem.W.Frag) : Bool := xfB K (He.ga K "BadProgram") && (xfB K (He.ga K "BadText") && (decide (PySem.W.findIn K (.ref (He.ga K "BadProgram")) "row" = some none) && decide (PySem.W.findIn K (.ref (He.ga K "BadText")) "line" = some none)))
theorem kindW_mem {er : Er} {dd : D} (h : kindW er = some dd) : ∃ z, (er.cls, z) ∈ errN := by
  obtain ⟨cls, fld⟩ := er
  unfold kindW at h
  dsimp only at h
  split at h <;> first
    | (cases h; done)
    | exact ⟨_, List.mem_cons_self⟩
    | exact ⟨_, List.mem_cons_of_mem _ List.mem_cons_self⟩
    | exact ⟨_, List.mem_cons_of_mem _ (List.mem_cons_of_mem _ List.mem_cons_self)⟩
    | exact ⟨_, List.mem_cons_of_mem _ (List.mem_cons_of_mem _ (List.mem_cons_of_mem _ List.mem_cons_self))⟩
    | exact ⟨_, List.mem_cons_of_mem _ (List.mem_cons_of_mem _ (List.mem_cons_of_mem _ (List.mem_cons_of_mem _ List.mem_cons_self)))⟩
    | exact ⟨_, List.mem_cons_of_mem _ (List.mem_cons_of_mem _ (List.mem_cons_of_mem _ (List.mem_cons_of_mem _ (List.mem_cons_of_mem _ List.mem_cons_self))))⟩
    | exact ⟨_, List.mem_cons_of_mem _ (List.mem_cons_of_mem _ (List.mem_cons_of_mem _ (List.mem_cons_of_mem _ (List.mem_cons_of_mem _ (List.mem_cons_of_mem _ List.mem_cons_self)))))⟩
structure KindF (K : PySem.W.Frag) (P : Pm) : Prop where
  ca : ∀ p ∈ errN, P.CA p.1 = He.ga K p.2
  chk : kitB K = true
  fld : fldB K = true
section
variable {K : PySem.W.Frag} {P : Pm} {er : Er} {dd : D}
theorem KindF.at (kf : KindF K P) (h : kindW er = some dd) : XkC K (P.CA er.cls) ∧ PySem.W.kitOne K (.ref (P.CA er.cls)) (.type "ValueError") = some true ∧ PySem.W.exmOne K (.ref (P.CA er.cls)) (.ref (He.ga K "LateError")) = some true ∧
    ∀ q ∈ errN, PySem.W.kitOne K (.ref (P.CA er.cls)) (.ref (He.ga K q.2)) = some (decide (er.cls = q.1)) := by
  obtain ⟨z, hz⟩ := kindW_mem h
  have e : P.CA er.cls = He.ga K z := kf.ca _ hz
  have c := List.all_eq_true.mp kf.chk _ hz
  obtain ⟨c1, c⟩ := Bool.and_eq_true_iff.mp c
  obtain ⟨c2, c⟩ := Bool.and_eq_true_iff.mp c
  obtain ⟨c3, c4⟩ := Bool.and_eq_true_iff.mp c
  rw [e]
  exact ⟨xkB_ok c1, of_decide_eq_true c2, of_decide_eq_true c3, fun q hq => of_decide_eq_true (List.all_eq_true.mp c4 q hq)⟩
theorem KindF.xk (kf : KindF K P) (h : kindW er = some dd) : XkC K (P.CA er.cls) := (kf.at h).1
theorem KindF.ve (kf : KindF K P) (h : kindW er = some dd) : PySem.W.kitOne K (.ref (P.CA er.cls)) (.type "ValueError") = some true := (kf.at h).2.1
theorem KindF.exm (kf : KindF K P) (er : Er) (dd : D) (h : kindW er = some dd) : PySem.W.exmOne K (.ref (P.CA er.cls)) (.ref (He.ga K "LateError")) = some true := (kf.at h).2.2.1
theorem KindF.kit (kf : KindF K P) (h : kindW er = some dd) (n : Nat) {z : Str} (hz : errN[n]? = some (n + 5, z)) : PySem.W.kitOne K (.ref (P.CA er.cls)) (.ref (He.ga K z)) = some (decide (er.cls = n + 5)) := (kf.at h).2.2.2 _ (List.mem_of_getElem? hz)
theorem KindF.flds (kf : KindF K P) : XfC K (He.ga K "BadProgram") ∧ XfC K (He.ga K "BadText") ∧ PySem.W.findIn K (.ref (He.ga K "BadProgram")) "row" = some none ∧ PySem.W.findIn K (.ref (He.ga K "BadText")) "line" = some none := by
  obtain ⟨c1, c⟩ := Bool.and_eq_true_iff.mp kf.fld
  obtain ⟨c2, c⟩ := Bool.and_eq_true_iff.mp c
  obtain ⟨c3, c4⟩ := Bool.and_eq_true_iff.mp c
  exact ⟨xfB_ok c1, xfB_ok c2, of_decide_eq_true c3, of_decide_eq_true c4⟩
/-- the field that the suite reads -/
theorem KindF.got (kf : KindF K P) {d : Option Addr} (hd : DOk er d) (n : Nat) {z f : Str} (hz : errN[n]? = some (n + 5, z)) (hf : P.XN (n + 5) = f) : ∀ k, (if er.cls = n + 5 then erI er else none) = some k → Value.ref (P.CA er.cls) = .ref (He.ga K z) ∧ ∃ dd, d = some dd ∧ (P.xd (xdOf P er d)).XD = some (dd, f, k) := fun k hk => by
  by_cases e : er.cls = n + 5
  · rw [if_pos e] at hk
    obtain ⟨b, h1, h2⟩ := hd.fld (P := P) hk
    refine ⟨?_, b, h1, ?_⟩
    · rw [e, kf.ca _ (List.mem_of_getElem? hz)]
    · show xdOf P er d = _
      rw [h2, e, hf]
  · rw [if_neg e] at hk
    cases hk
end
end LB

set_option Elab.async false
set_option linter.all false
set_option autoImplicit false
set_option maxRecDepth 100000
set_option maxHeartbeats 2000000
/-! raise X(e), X over a class of one's own that has ValueError's __init__. -/
namespace LB
open PySem PySem.Spec PyProof.Rows L2
def baseB (K : PySem.W.Frag) (L : Addr) : Bool := decide (PySem.W.specialIn K (.ref L) "__getattribute__" = some (some (.builtin "type.__getattribute__"))) && (PySem.W.readsIn K L (.type "type") && (match PySem.W.findCls K (.ref L) (.type "type") "__init__" with
  | some (.val (.builtin n)) => n == "ValueError.__init__"
  | _ => false))
theorem baseB_ok {K : PySem.W.Frag} {L : Addr} (h : baseB K L = true) : PySem.W.specialIn K (.ref L) "__getattribute__" = some (some (.builtin "type.__getattribute__")) ∧ PySem.W.readsIn K L (.type "type") = true ∧ PySem.W.findCls K (.ref L) (.type "type") "__init__" = some (.val (.builtin "ValueError.__init__")) := by
  obtain ⟨h1, h⟩ := Bool.and_eq_true_iff.mp h
  obtain ⟨h2, h3⟩ := Bool.and_eq_true_iff.mp h
  refine ⟨of_decide_eq_true h1, h2, ?_⟩
  split at h3
  · rename_i n hn
    rw [hn, eq_of_beq h3]
  · cases h3
def iniB (K : PySem.W.Frag) (x f : Str) : Bool := oexB K (He.ga K x) && (baseB K (He.ga K "LateError") && decide (PySem.W.findIn K (.ref (He.ga K x)) f = some none))
theorem xs_raiseI {fa : List He.Fa} {fn : List He.DefD} {ts : List He.Tab} {ex : PySem.W.Frag → Bool} {X : Cx} {P : Pm} {E : XK} {x f q p1 p2 : Str} {c : Nat} {e : Expr} {fe : SE} {p pos pos2 : Pos} {params : Arguments} {body : List Stmt} {scope : Scope} (cx : Ctx fa fn ts ex X.w X.K X.mg) (i i2 i3 j : Nat) (hB : iniB X.K x f = true) (S : FnScope [p1, p2] [p1, p2] scope)
    (hbd : ∀ (kV doc pm : Value) (an : Option Addr) (cdv ct : Value) (us : List Value), us.length = [p1, p2].length → bindArgs (PySem.W.fnOf "__init__" q params body scope .none kV doc pm an cdv ct) ⟨us, []⟩ = pure ([p1, p2].zip us))
    (hb : ∀ (L fI : Addr), X.mg "LateError" = some (.ref L) → PySem.W.specialIn X.K (.ref L) "__getattribute__" = some (some (.builtin "type.__getattribute__")) → PySem.W.readsIn X.K L (.type "type") = true → PySem.W.findCls X.K (.ref L) (.type "type") "__init__" = some (.val (.builtin "ValueError.__init__")) →
      ∀ (cdv : Value) (A : Around) (outer : List Env) (s : Shared) (H : Hp) (E : XK), PSs (cxOf CXn X.prog X.w X.K X.mg X.base [p1, p2] q scope fI cdv A outer s H E) body (tSeq (tDrop (tVeI X.K (tCons (tVar 0) (tCons (tVar 1) tNil)))) (tOst X.K f (tVar 0) (tVar 1))))
    (hr : Room 2 X.A) (hc : X.calm = true) (hg : Gl X x) (tk : Takes X (fun cls d _ H => E cls d H)) (hC : P.CA c = He.ga X.K x) (hf : P.XN c = f) (ha : PE X e (tX P E fe))
    (hi : fa[i]? = some (.glo x) := by rfl) (hi2 : fa[i2]? = some (.meth x "__init__") := by rfl) (hi3 : fa[i3]? = some (.glo "LateError") := by rfl) (hj : fn[j]? = some ⟨(x, some "__init__"), "__init__", q, params, body, scope, [], []⟩ := by rfl)
    (hdb : (x == ("__debug__" : Str)) = false := by decide) (he : starEach (e :: []) X.env = (false, eval e X.env) :: starEach [] X.env := by rfl) (hpl : (backTo pos (starEach [] X.env)).any (·.1) = false := by rfl) :
    PS X (.Raise (some (.Call (.Name x p) [e] [] pos)) none pos2) (tXS P E (sRaiseF c fe)) := by
  obtain ⟨fd, F⟩ := cx.def_ j hj
  have F2 : FunD X.K "__init__" q params body scope [] [] (He.ma X.K (He.ga X.K x) "__init__") fd := F
  obtain ⟨h1, h⟩ := Bool.and_eq_true_iff.mp hB
  obtain ⟨h2, h3⟩ := Bool.and_eq_true_iff.mp h
  have T := oexB_ok h1
  have M := cx.meth i2 hi2
  obtain ⟨b1, b2, b3⟩ := baseB_ok h2
  have hfn : PySem.W.typeIn X.K (.ref (He.ma X.K (He.ga X.K x) "__init__")) = some (.type "function") := eq_of_beq (show (PySem.W.typeIn X.K (.ref (He.ma X.K (He.ga X.K x) "__init__")) == some (.type "function")) = true from M.fn)
  exact xs_raiseF (f := f) hc tk T M.at_ hfn (ok_init F2 S T (of_decide_eq_true h3) (hb _ _ (cx.glo i3 hi3) b1 b2 b3)) hr (F2.bindsN hbd) hg (cx.glo i hi) hC hf ha hdb he hpl
end LB

set_option Elab.async false
set_option linter.all false
set_option autoImplicit false
set_option maxRecDepth 100000
set_option maxHeartbeats 2000000
/-! Functions as values: handed in, called. -/
namespace LB
open PySem PySem.Spec PyProof.Rows L2
section
variable {X : Cx} {P : Pm} {E : XK} {pos : Pos} {k np : Nat} {mf : Fn} {x : Str} {fas : SA}
end
section
variable {Pg : Program} {w : World} {K : PySem.W.Frag} {mg : Str → Option Value} {base : Heap} {P : Pm}
end
end LB

set_option Elab.async false
set_option linter.all false
set_option autoImplicit false
set_option maxRecDepth 100000
set_option maxHeartbeats 2000000
/-! The end's Hook, with one more object in sight: the interpreter's statics. -/
namespace LB
open PySem PySem.Spec PyProof.Rows
section
variable {fa : List He.Fa} {fn : List He.DefD} {ts : List He.Tab} {tf : List He.Defn} {ex : PySem.W.Frag → Bool} {w : World}
def sight (g : Addr → Option Obj) (n : Nat) : PySem.W.Frag := He.frT g (cStatics :: He.asD g n)
def obsY (n : Nat) (fa : List He.Fa) (fn : List He.DefD) (ts : List He.Tab) (tf : List He.Defn) (ex : PySem.W.Frag → Bool) (g : Addr → Option Obj) : He.AlX :=
  (He.obsT fa fn ts (sight g n), ex (sight g n) && He.tabsB g tf (sight g n))
theorem saysY_of {n : Nat} {h : Heap} (e : obsY n fa fn ts tf ex h.get? = He.valX fn ts w) : He.SaysX fa fn ts tf ex w h (sight h.get? n) := by
  have hb := Bool.and_eq_true_iff.mp (congrArg Prod.snd e)
  have look (p : He.Defn) (hp : p ∈ tf) := Bool.and_eq_true_iff.mp (List.all_eq_true.mp hb.2 p hp)
  have seen (p : He.Defn) (hp : p ∈ tf) : ∃ o, h.get? (He.cT (sight h.get? n) p).2 = some o ∧ He.emptyTab o = true := by
    have z := (look p hp).2
    cases q : h.get? (He.cT (sight h.get? n) p).2 with
    | none => rw [q] at z; exact absurd z Bool.false_ne_true
    | some o => rw [q] at z; exact ⟨o, rfl, z⟩
  constructor
  · exact congrArg Prod.fst e
  · exact hb.1
  · exact fun p hp => (look p hp).1
  · intro p hp
    obtain ⟨o, q, z⟩ := seen p hp
    exact He.frT_none q z
  · intro p hp
    obtain ⟨o, q, z⟩ := seen p hp
    rw [q, He.emptyTab_eq z]
def hookY (n : Nat) (fa : List He.Fa) (fn : List He.DefD) (ts : List He.Tab) (tf : List He.Defn) (ex : PySem.W.Frag → Bool) : PySem.W.Hook where
  α := He.AlX
  obs s := obsY n fa fn ts tf ex s.heap.get?
  val w := He.valX fn ts w
  says w h := ∃ K : PySem.W.Frag, K.In h ∧ He.SaysX fa fn ts tf ex w h K
  of _ _ e := ⟨_, He.frT_in, saysY_of e⟩
  keeps := by
    rintro _ _ _ ⟨K, hK, c⟩ k
    exact ⟨K, hK.keeps k, c.t, c.more, c.hd, c.out, fun p hp => k _ _ (c.empty p hp)⟩
theorem obsY_eq {n : Nat} {g : Addr → Option Obj} {s : Shared} (h : ∀ a, g a = s.heap.get? a) : obsY n fa fn ts tf ex g = (hookY n fa fn ts tf ex).obs s := by
  show obsY n fa fn ts tf ex g = obsY n fa fn ts tf ex s.heap.get?
  rw [funext h]
end
end LB

set_option Elab.async false
set_option linter.all false
set_option autoImplicit false
set_option maxRecDepth 100000
set_option maxHeartbeats 2000000
/-! The rules: list(range(n)) that may change, xs.pop(i). -/
namespace LB
open PySem PySem.Spec PyProof.Rows L2
section
variable {X : Cx} {P : Pm} {E : XK} {pos : Pos}
end
end LB

set_option Elab.async false
set_option linter.all false
set_option autoImplicit false
set_option maxRecDepth 100000
set_option maxHeartbeats 2000000
/-! The rules: dict(pairs) and d.update(d2) over keys that are texts or ints. -/
namespace LB
open PySem PySem.Spec PyProof.Rows L2
def prkOf : List D → Option (List (KeyS × D))
  | [] => some []
  | .tup [k, v] :: r => match keyOf k, prkOf r with
    | some k, some r => some ((k, v) :: r)
    | _, _ => none
  | _ :: _ => none
def dcpD (d : D) : M D := fun m => match (lstOf m d).bind prkOf with
  | some prs => alloc (.dct (mergeD [] prs)) m
  | none => .bad
def dcpE (a : SA) : SE := fun ρ => M.bind (a ρ) fun ds => match ds with
  | [d] => dcpD d
  | _ => fun _ => .bad
def dupdK (dd ed : D) : M D := fun m => match dd, ed with
  | .loc c, .loc c2 => if c ≠ c2 then (match dctOf m (.loc c), dctOf m (.loc c2) with
    | some kvs, some more => if kvs.length + more.length ≤ sizeLine then .ok .non (m.put c (.dct (mergeD kvs more))) else .bad
    | _, _ => .bad) else .bad
  | _, _ => .bad
def dupdE (d e : SE) : SE := fun ρ => M.bind (d ρ) fun dd => M.bind (fun m => if isDct m dd = true then .ok () m else .bad) fun _ => M.bind (e ρ) fun ed => dupdK dd ed
def dget1 (d k : SE) : SE := fun ρ => M.bind (d ρ) fun dd => M.bind (fun m => if isDct m dd = true then .ok () m else .bad) fun _ => M.bind (k ρ) fun kk => fun m => lift ((dctOf m dd).bind fun kvs => (keyOf kk).map fun k => (valK kvs k).getD .non) m
section
variable {P : Pm}
theorem prk_rep {F B : Hp} {A : Nat → Addr} {m : Mem} {H : Hp} (s : SR P F B A m H) : ∀ {vs : List V} {ds : List D} {kds : List (KeyS × D)}, Reps P.K B A m.n vs ds → prkOf ds = some kds →
    ∃ ps kvs, vs = ps.map V.ref ∧ Paired (fun (p : Addr) (kv : Key × V) => SqT P.K H p [kV kv.1, kv.2]) ps kvs ∧ Paired (fun (p : Key × V) (q : Key × D) => p.1 = q.1 ∧ Rep P.K B A m.n p.2 q.2) kvs kds
  | _, _, _, .nil, h => by
    cases h
    exact ⟨[], [], rfl, .nil, .nil⟩
  | _, _, kds, .cons (v := v) (vs := vs) (d := d) (ds := ds) r t, h => by
    unfold prkOf at h
    split at h
    · rename_i heq
      cases heq
    · rename_i k v' r' heq
      cases heq
      split at h
      · rename_i ky kr h1 h2
        cases h
        obtain ⟨ps, kvs, e1, e2, e4⟩ := prk_rep s t h2
        cases r with
        | @tup a ws es hq rs =>
          obtain ⟨x, y, rfl, rk, rv⟩ := rs.two
          have ek := key_of rk h1
          subst ek
          exact ⟨a :: ps, (ky, y) :: kvs, by rw [e1]; rfl, .cons (s.ex.t hq) e2, .cons ⟨rfl, rv⟩ e4⟩
      · cases h
    · cases h
end
section
variable {X : Cx} {P : Pm} {E : XK} {pos : Pos}
theorem xe_dcp {e : Expr} {es : List Expr} {fas : SA} {x : Str} {p : Pos} (hcalm : X.calm = true) (hK : X.K = P.K) (hm : X.mg x = none) (hv : bootBuiltins x = some (.type "dict")) (ha : PA X (e :: es) (tXA P E fas)) (hg : Gl X x := by rfl) (hn : x ≠ "__name__" := by decide) (hdb : (x == ("__debug__" : Str)) = false := by decide)
    (he : starEach (e :: es) X.env = (false, eval e X.env) :: starEach es X.env := by rfl) (hpl : (backTo pos (starEach es X.env)).any (·.1) = false := by rfl) : PE X (.Call (.Name x p) (e :: es) [] pos) (tX P E (dcpE fas)) := by
  refine pe_imp (pe_callTy (call_dictP hcalm) hg hm hv ha hn hdb he hpl) fun σ H Q ⟨F, B, A, ρ, m, s, e, h⟩ => ?_
  refine tXA_go s e (wp_bind h) fun ds m1 B1 A1 H1 vs h1 l1 s1 rs => ?_
  split at h1
  · rename_i d
    have h2 : Rs.wp (dcpD d m1) (okD P F B A m.n Q) (exV P E F B A m.n) := h1
    cases rs with
    | cons rd t =>
      cases t
      cases hl : lstOf m1 d with
      | none => simp only [dcpD, hl, Option.bind_none] at h2; exact h2.elim
      | some ys =>
        cases hp : prkOf ys with
        | none => simp only [dcpD, hl, hp, Option.bind_some] at h2; exact h2.elim
        | some kds =>
          simp only [dcpD, hl, hp, Option.bind_some] at h2
          obtain ⟨a, ws, rfl, hal, rw'⟩ := lst_of s1 rd hl
          obtain ⟨ps, kvs, e1, e2, e4⟩ := prk_rep s1 rw' hp
          subst e1
          refine ⟨a, ps, kvs, rfl, by rw [hK]; exact SqL.of hal, by rw [hK]; exact e2, fun q hq => ?_⟩
          have l2 : Le B1 A1 m1.n B1 (cons1 A1 m1.n q) (m1.n + 1) := s1.leNew q (.dct (mergeD [] kds))
          have r : RepO P B1 (cons1 A1 m1.n q) (m1.n + 1) (upd H1 q (.dK (mergeK [] kvs))) q (.dct (mergeD [] kds)) := .dct upd_same (L2.Paired.mapP (merge_rep e4 .nil) fun _ _ z => ⟨z.1, z.2.mono l2⟩)
          exact h2 B1 _ _ (.ref q) (l1.trans l2) (s1.new hq r) (.loc (Nat.lt_succ_self _) cons1_at)
  · exact h1.elim
theorem KVmerge {kvs : List (Key × V)} {vs : List (Key × Value)} {more : List (Key × V)} {mvs : List (Key × Value)} (r : KV kvs vs) (q : KV more mvs) : KV (mergeK kvs more) (merged vs mvs) := by
  induction q generalizing kvs vs with
  | nil => exact r
  | @cons p x ps xs h t ih =>
    show KV (mergeK (putK kvs p.1 p.2) ps) (merged (stored vs x.1 x.2) xs)
    rw [← h.1]
    exact ih (r.put p.1 h.2)
def rDUpd (x y : V) (H : Hp) (Q : VK) : Prop := ∃ a b kvs more, x = .ref a ∧ y = .ref b ∧ a ≠ b ∧ H a = some (.dK kvs) ∧ H b = some (.dK more) ∧ kvs.length + more.length ≤ sizeLine ∧ Q .non (upd H a (.dK (mergeK kvs more)))
def tDUpd (td te : TE) : TE := fun σ H Q => td σ H fun x H1 => ∃ a, x = .ref a ∧ (∃ kvs, H1 a = some (.dK kvs)) ∧ te σ H1 fun y H2 => rDUpd x y H2 Q
variable {o e : Expr} {td te : TE} {fo fe : SE}
theorem pe_dupd {apos : Pos} (ho : PE X o td) (he : PE X e te) (m : M1 X o "update" apos e pos) : PE X (.Call (.Attribute o "update" apos) [e] [] pos) (tDUpd td te) := by
  refine ⟨fun pins s σ H Q I h => ?_⟩
  refine wpAny_Call_method m.base m.few m.line PySem.F.plainAttrs_dict PySem.F.slot_dict_update PySem.F.type_dict_update (thn (ho.run pins s σ H _ I h) fun u s1 ⟨x, H1, I1, rx, a, ex, ⟨kvs, d⟩, q1⟩ => ?_)
  subst ex
  obtain rfl : u = Value.ref a := rx
  obtain ⟨z, hd, vs, rel, dd⟩ := dk_of I1.hok d
  refine ⟨dd.typeIs, fun b q => ?_, ?_⟩
  · cases q
    obtain ⟨ob, _, _, h1, h2, _⟩ := dd
    exact ⟨ob, h1, h2.2.1⟩
  rw [m.trees]
  refine Calls.callWith_builtin rfl (Calls.evalArgs_plain (Calls.spliced_cons (thn (he.run pins s1 σ H1 _ I1 q1) fun iv s2 ⟨y, H2, I2, ry, a2, b, kv2, more, ea, eb, hne, hA, hB, hsz, q2⟩ => Calls.spliced_nil ?_)))
  cases ea
  subst eb
  obtain rfl : iv = Value.ref b := ry
  obtain ⟨z1, hd1, vs1, rel1, dd1⟩ := dk_of I2.hok hA
  obtain ⟨z2, hd2, vs2, rel2, dd2⟩ := dk_of I2.hok hB
  refine call_meetsIn PySem.F.slot_dict_update dd1.typeIs PySem.F.entry_dict_update (PySem.F.args_dict_update_2 _ _) (meets_dict_update (mixKind X.prog X.w) a b hne hd2)
    ⟨vs1, vs2, dd1, dd2, by rw [← rel1.length, ← rel2.length]; exact hsz, fun h' dd' _ hs => ?_⟩
  have hx : ∃ q, h'.get? a = some q := let ⟨q, _, _, hq, _⟩ := dd'; ⟨q, hq⟩
  have hl : (mergeK kv2 more).length ≤ sizeLine := Nat.le_trans (length_mergeK more kv2) hsz
  exact ⟨.non, _, d_write I2 (by rw [hA]; exact True.intro) hs hx (dk_new hl hd1 (KVmerge rel1 rel2) dd'), rfl, q2⟩
theorem xe_dupd {apos : Pos} (ho : PE X o (tX P E fo)) (he : PE X e (tX P E fe)) (m : M1 X o "update" apos e pos := by exact ⟨rfl, rfl, rfl, rfl⟩) : PE X (.Call (.Attribute o "update" apos) [e] [] pos) (tX P E (dupdE fo fe)) := by
  refine pe_imp (pe_dupd ho he m) fun σ H Q ⟨F, B, A, ρ, m, s, e, h⟩ => ?_
  refine tX_go s e (wp_bind h) fun dd m1 B1 A1 H1 x h1 l1 s1 rd => ?_
  have h1' := wp_bind h1
  by_cases hi : isDct m1 dd = true
  · simp only [if_pos hi] at h1'
    obtain ⟨kds, hd⟩ := Option.isSome_iff_exists.mp hi
    obtain ⟨j, kvs, ed, hj, hgj, ev, hH, pr⟩ := dct_of s1 rd hd
    subst ev
    refine ⟨A1 j, rfl, ⟨kvs, hH⟩, ?_⟩
    refine tX_go s1 (e.mono l1) (wp_le l1 (wp_bind h1')) fun de m2 B2 A2 H2 y h2 l2 s2 re => ?_
    subst ed
    have h9 : Rs.wp (dupdK (.loc j) de m2) (okD P F B1 A1 m1.n Q) (exV P E F B1 A1 m1.n) ∨ True := .inr trivial
    cases de with
    | loc c2 =>
      by_cases hne : j ≠ c2
      · cases hd2 : dctOf m2 (.loc j) with
        | none => simp only [dupdK, if_pos hne, hd2] at h2; exact h2.elim
        | some kds2 =>
          cases hd3 : dctOf m2 (.loc c2) with
          | none => simp only [dupdK, if_pos hne, hd2, hd3] at h2; exact h2.elim
          | some mds =>
            simp only [dupdK, if_pos hne, hd2, hd3] at h2
            by_cases hlen : kds2.length + mds.length ≤ sizeLine
            · rw [if_pos hlen] at h2
              obtain ⟨j2, kv2, ed2, hj2, hg2, ev2, hH2, pr2⟩ := dct_of s2 (rd.mono l2) hd2
              cases ed2
              obtain ⟨j3, mv, ed3, hj3, hg3, ev3, hH3, pr3⟩ := dct_of s2 re hd3
              cases ed3
              have ea : A2 j = A1 j := (V.ref.inj ev2).symm
              rw [← ea]
              subst ev3
              refine ⟨A2 j, A2 c2, kv2, mv, rfl, rfl, fun z => hne (s2.inj j c2 _ _ hj2 hj3 hg2 hg3 z), hH2, hH3, by rw [Paired.length pr2, Paired.length pr3]; exact hlen, ?_⟩
              have s4 := s2.put (o' := .dct (mergeD kds2 mds)) hj2 hg2 (.dct upd_same (merge_rep pr3 pr2))
              exact h2 B2 A2 _ .non (l1.trans l2) s4 .non
            · rw [if_neg hlen] at h2
              exact h2.elim
      · simp only [dupdK, if_neg hne] at h2; exact h2.elim
    | _ => exact h2.elim
  · simp only [if_neg hi] at h1'
    exact h1'.elim
theorem xe_dget1 {k : Nat} {apos : Pos} {a b : Expr} {fa fb : SE} (hr : Room k X.A) (ha : PE X a (tX P E fa)) (hb : PE X b (tX P E fb)) (m : M1 X a "get" apos b pos := by exact ⟨rfl, rfl, rfl, rfl⟩) : PE X (.Call (.Attribute a "get" apos) [b] [] pos) (tX P E (dget1 fa fb)) := by
  refine pe_imp (pe_dget1 (hu_of hr) ha hb m) fun σ H Q ⟨F, B, A, ρ, m, s, e, h⟩ => ?_
  refine tX_go s e (wp_bind h) fun dd m1 B1 A1 H1 x h1 l1 s1 rd => ?_
  have h1' := wp_bind h1
  by_cases hi : isDct m1 dd = true
  · simp only [if_pos hi] at h1'
    obtain ⟨kds, hd⟩ := Option.isSome_iff_exists.mp hi
    obtain ⟨j, kvs, ed, hj, hgj, ev, hH, pr⟩ := dct_of s1 rd hd
    subst ev
    refine ⟨A1 j, rfl, .inl ⟨kvs, .inl hH⟩, ?_⟩
    refine tX_go s1 (e.mono l1) (wp_le l1 (wp_bind h1')) fun dk m3 B3 A3 H3 y h3 l3 s3 rk => ?_
    obtain ⟨w, hw, h4⟩ := lift_wp h3
    cases hd3 : dctOf m3 dd with
    | none => rw [hd3] at hw; cases hw
    | some kds3 =>
      cases hk : keyOf dk with
      | none => simp only [hd3, hk, Option.bind_some, Option.map_none] at hw; cases hw
      | some ky =>
        simp only [hd3, hk, Option.bind_some, Option.map_some, Option.some.injEq] at hw
        subst hw
        obtain ⟨j3, kvs3, ed3, _, _, ev3, hH3, pr3⟩ := dct_of s3 (rd.mono l3) hd3
        have ey := key_of rk hk
        subst ey
        have ea : A3 j3 = A1 j := (V.ref.inj ev3).symm
        rw [ea] at hH3
        refine ⟨L2.valV kvs3 ky, DGet.k hH3, ?_⟩
        have l := l1.trans l3
        rcases val_rep (k := ky) pr3 with ⟨v, d, h5, h6, h7⟩ | ⟨h5, h6⟩
        · rw [h5]
          rw [h6] at h4
          exact h4 B3 A3 H3 v l s3 h7
        · rw [h5]
          rw [h6] at h4
          exact h4 B3 A3 H3 .non l s3 .non
  · simp only [if_neg hi] at h1'
    exact h1'.elim
end
end LB

set_option Elab.async false
set_option linter.all false
set_option autoImplicit false
set_option maxRecDepth 100000
set_option maxHeartbeats 0
/-! Pure: how loops, comprehensions, calls are reckoned with. -/
namespace LB
open PySem
theorem Mem.put_new (m : Mem) (o u : MO) : (m.new o).put m.n u = m.new u := by
  unfold Mem.put Mem.new
  congr 1
  funext j
  by_cases h : j = m.n
  · simp only [h, if_pos]
  · simp only [h, if_false]
theorem Mem.new_at (m : Mem) (o : MO) : (m.new o).get m.n = some o := by
  unfold Mem.new
  exact if_pos rfl
structure Keep (m m2 : Mem) : Prop where
  n : m.n ≤ m2.n
  at_ : ∀ k, k < m.n → m2.get k = m.get k
theorem Keep.refl (m : Mem) : Keep m m := ⟨Nat.le_refl _, fun _ _ => rfl⟩
theorem Keep.trans {a b c : Mem} (x : Keep a b) (y : Keep b c) : Keep a c := ⟨Nat.le_trans x.n y.n, fun k h => (y.at_ k (Nat.lt_of_lt_of_le h x.n)).trans (x.at_ k h)⟩
theorem Keep.new (m : Mem) (o : MO) : Keep m (m.new o) := ⟨Nat.le_succ _, fun k h => by
  unfold Mem.new
  exact if_neg (Nat.ne_of_lt h)⟩
theorem Keep.kill {m : Mem} {o : MO} : Keep m ((m.new o).kill m.n) := ⟨Nat.le_succ _, fun k h => by
  have e := Nat.ne_of_lt h
  show (if k = m.n then none else (m.new o).get k) = m.get k
  rw [if_neg e]
  exact (Keep.new m o).at_ k h⟩
/-! ### mirrors -/
open Classical in
noncomputable def spec {α : Type} (enc : α → List D) (f : α → D) : Fn := fun ds m => if h : ∃ a, enc a = ds then .ok (f h.choose) m else .bad
theorem spec_at {α : Type} {enc : α → List D} {f : α → D} (hi : ∀ a b, enc a = enc b → a = b) (a : α) (m : Mem) : spec enc f (enc a) m = .ok (f a) m := by
  have h : ∃ b, enc b = enc a := ⟨a, rfl⟩
  unfold spec
  rw [dif_pos h, hi _ _ h.choose_spec]
theorem LeR.keep {d d2 : D} {m m2 : Mem} (hd : d2 = d) (k : Keep m m2) (hb : d.blw m.n = true) : LeR m (.ok d m) (.ok d2 m2) := by
  subst hd
  exact .ok _ _ _ ⟨Nat.le_refl _, k.n, fun j hj => .inr ⟨(k.at_ j hj).symm, .inl ⟨hj, rfl⟩⟩⟩ hb
open Classical in
/-- the same, and the run itself where nothing is told -/
noncomputable def specOr {α : Type} (enc : α → List D) (f : α → D) (g : Fn) : Fn := fun ds m => if h : ∃ a, enc a = ds then .ok (f h.choose) m else g ds m
theorem specOr_at {α : Type} {enc : α → List D} {f : α → D} {g : Fn} (hi : ∀ a b, enc a = enc b → a = b) (a : α) (m : Mem) : specOr enc f g (enc a) m = .ok (f a) m := by
  have h : ∃ b, enc b = enc a := ⟨a, rfl⟩
  unfold specOr
  rw [dif_pos h, hi _ _ h.choose_spec]
theorem specOr_no {α : Type} {enc : α → List D} {f : α → D} {g : Fn} {ds : List D} (h : ¬ ∃ a, enc a = ds) (m : Mem) : specOr enc f g ds m = g ds m := dif_neg h
theorem specOr_le {α : Type} {enc : α → List D} {f : α → D} {g : Fn} (h : ∀ a m, ∃ m2, g (enc a) m = .ok (f a) m2 ∧ Keep m m2) (hb : ∀ a n, (f a).blw n = true) (ds : List D) (m : Mem) : LeR m (specOr enc f g ds m) (g ds m) := by
  unfold specOr
  by_cases c : ∃ a, enc a = ds
  · rw [dif_pos c]
    obtain ⟨m2, e, k⟩ := h c.choose m
    rw [c.choose_spec] at e
    rw [e]
    exact .keep rfl k (hb _ _)
  · rw [dif_neg c]
    exact .same _
/-! ### one behind the other -/
theorem bind_ok {α β : Type} {a : M α} {f : α → M β} {m m1 : Mem} {x : α} (h : a m = .ok x m1) : M.bind a f m = f x m1 := by
  unfold M.bind
  rw [h]
theorem seq_ok {a b : SS} {ρ ρ1 : Ev} {m m1 : Mem} (h : a ρ m = .ok (.nx, ρ1) m1) : sSeq a b ρ m = b ρ1 m1 := bind_ok h
theorem seq_rt {a b : SS} {ρ ρ1 : Ev} {m m1 : Mem} {d : D} (h : a ρ m = .ok (.rt d, ρ1) m1) : sSeq a b ρ m = .ok (.rt d, ρ1) m1 := bind_ok h
theorem run_rt {n : Nat} {f : SS} {ds : List D} {m m1 : Mem} {ρ1 : Ev} {d : D} (h : f (start n ds) m = .ok (.rt d, ρ1) m1) : run n f ds m = .ok d m1 := bind_ok h
theorem asg_ok {a : SE} {g : SG} {ρ ρ1 : Ev} {m m1 : Mem} {d : D} (h : a ρ m = .ok d m1) (hg : g d ρ = some ρ1) : sAsg a g ρ m = .ok (.nx, ρ1) m1 := by
  unfold sAsg
  rw [bind_ok h]
  simp only [hg]
  rfl
theorem ret_ok {a : SE} {ρ : Ev} {m m1 : Mem} {d : D} (h : a ρ m = .ok d m1) : sRet a ρ m = .ok (.rt d, ρ) m1 := bind_ok h
theorem if_ok {t : SB} {a b : SS} {ρ : Ev} {m m1 : Mem} {c : Bool} (h : t ρ m = .ok c m1) : sIf t a b ρ m = (if c = true then a ρ else b ρ) m1 := bind_ok h
theorem if_yes {t : SB} {a b : SS} {ρ : Ev} {m m1 : Mem} (h : t ρ m = .ok true m1) : sIf t a b ρ m = a ρ m1 := by
  rw [if_ok h]
  exact congrFun (if_pos rfl) m1
theorem if_no {t : SB} {a b : SS} {ρ : Ev} {m m1 : Mem} (h : t ρ m = .ok false m1) : sIf t a b ρ m = b ρ m1 := by
  rw [if_ok h]
  exact congrFun (if_neg Bool.false_ne_true) m1
theorem vr_ok {i : Nat} {ρ : Ev} {d : D} {m : Mem} (h : ρ[i]? = some (some d)) : vr i ρ m = .ok d m := by
  unfold vr
  rw [h]
theorem op2_ok {g : O2} {a b : SE} {ρ : Ev} {m m1 m2 : Mem} {x y d : D} (ha : a ρ m = .ok x m1) (hb : b ρ m1 = .ok y m2) (hg : g x y m2 = some d) : op2 g a b ρ m = .ok d m2 := by
  unfold op2
  rw [bind_ok ha, bind_ok hb, hg]
  rfl
theorem op1_ok {g : O1} {a : SE} {ρ : Ev} {m m1 : Mem} {x d : D} (ha : a ρ m = .ok x m1) (hg : g x m1 = some d) : op1 g a ρ m = .ok d m1 := by
  unfold op1
  rw [bind_ok ha, hg]
  rfl
theorem argC_ok {a : SE} {r : SA} {ρ : Ev} {m m1 m2 : Mem} {x : D} {xs : List D} (ha : a ρ m = .ok x m1) (hr : r ρ m1 = .ok xs m2) : argC a r ρ m = .ok (x :: xs) m2 := by
  unfold argC
  rw [bind_ok ha, bind_ok hr]
  rfl
theorem arg1_ok {a : SE} {ρ : Ev} {m m1 : Mem} {x : D} (ha : a ρ m = .ok x m1) : argC a argN ρ m = .ok [x] m1 := argC_ok ha rfl
theorem arg2_ok {a b : SE} {ρ : Ev} {m m1 m2 : Mem} {x y : D} (ha : a ρ m = .ok x m1) (hb : b ρ m1 = .ok y m2) : argC a (argC b argN) ρ m = .ok [x, y] m2 := argC_ok ha (arg1_ok hb)
theorem arg3_ok {a b c : SE} {ρ : Ev} {m m1 m2 m3 : Mem} {x y z : D} (ha : a ρ m = .ok x m1) (hb : b ρ m1 = .ok y m2) (hc : c ρ m2 = .ok z m3) : argC a (argC b (argC c argN)) ρ m = .ok [x, y, z] m3 := argC_ok ha (arg2_ok hb hc)
theorem opN_ok {g : ON} {a : SA} {ρ : Ev} {m m1 : Mem} {xs : List D} {d : D} (ha : a ρ m = .ok xs m1) (hg : g xs m1 = some d) : opN g a ρ m = .ok d m1 := by
  unfold opN
  rw [bind_ok ha, hg]
  rfl
theorem callN_ok {np : Nat} {f : Fn} {a : SA} {ρ : Ev} {m m1 : Mem} {xs : List D} (ha : a ρ m = .ok xs m1) (hl : xs.length = np) : callN np f a ρ m = f xs m1 := by
  unfold callN
  rw [bind_ok ha]
  exact if_pos hl
theorem tpl_ok {a : SA} {ρ : Ev} {m m1 : Mem} {xs : List D} (ha : a ρ m = .ok xs m1) (hl : xs.length ≤ 1000) : tpl a ρ m = .ok (.tup xs) m1 := by
  unfold tpl capE
  rw [bind_ok ha]
  simp only [hl, if_true]
  rfl
theorem lsl_ok {a : SA} {ρ : Ev} {m m1 : Mem} {xs : List D} (ha : a ρ m = .ok xs m1) (hl : xs.length ≤ 1000) : lsl a ρ m = .ok (.lst xs) m1 := by
  unfold lsl capE
  rw [bind_ok ha]
  simp only [hl, if_true]
  rfl
theorem lsm_ok {a : SA} {ρ : Ev} {m m1 : Mem} {xs : List D} (ha : a ρ m = .ok xs m1) (hl : xs.length ≤ 1000) : lsm a ρ m = .ok (.loc m1.n) (m1.new (.lst xs)) := by
  unfold lsm capE
  rw [bind_ok ha]
  simp only [hl, if_true]
  rfl
theorem tV_ok {a : SE} {ρ : Ev} {m m1 : Mem} {b : Bool} (h : a ρ m = .ok (.bl b) m1) : tV a ρ m = .ok b m1 := by
  unfold tV
  rw [bind_ok h]
  rfl
theorem tOr_ok1 {a b : SB} {ρ : Ev} {m : Mem} {x y : Bool} (ha : a ρ m = .ok x m) (hb : x = false → b ρ m = .ok y m) : tOr a b ρ m = .ok (x || y) m := by
  unfold tOr
  rw [bind_ok ha]
  cases x with
  | false => exact hb rfl
  | true => rfl
theorem tNot_ok {a : SB} {ρ : Ev} {m m1 : Mem} {x : Bool} (ha : a ρ m = .ok x m1) : LB.tNot a ρ m = .ok (!x) m1 := by
  unfold LB.tNot
  rw [bind_ok ha]
  rfl
theorem ifE_ok {t : SB} {a b : SE} {ρ : Ev} {m m1 : Mem} {c : Bool} (h : t ρ m = .ok c m1) : ifE t a b ρ m = (if c = true then a ρ else b ρ) m1 := bind_ok h
theorem lstOf_new (m : Mem) (L : List D) : lstOf (m.new (.lst L)) (.loc m.n) = some L := by
  show (if m.n < m.n + 1 then (match (m.new (.lst L)).get m.n with
    | some (.lst xs) => some xs
    | _ => none) else none) = some L
  rw [if_pos (Nat.lt_succ_self _), Mem.new_at]
/-! ### loops -/
/-- what a run tells, kept from being reckoned out -/
structure WP {α : Type} (r : Rs α) (q : α → Mem → Prop) (e : Er → Mem → Prop) : Prop where
  h : r.wp q e
theorem WP.ok {α : Type} {x : α} {m : Mem} {q : α → Mem → Prop} {e : Er → Mem → Prop} (h : q x m) : WP (.ok x m) q e := ⟨h⟩
theorem WP.mono {α : Type} {r : Rs α} {q q' : α → Mem → Prop} {e : Er → Mem → Prop} (h : WP r q e) (hq : ∀ x m, q x m → q' x m) : WP r q' e := ⟨Rs.wp_mono h.h hq fun _ _ z => z⟩
def afterB (I : Ev → Mem → Prop) (q : Fl × Ev → Mem → Prop) : Fl × Ev → Mem → Prop := fun r m => match r with
  | (.nx, ρ) => I ρ m
  | (.ct, ρ) => I ρ m
  | (.bk, ρ) => q (.nx, ρ) m
  | (.rt d, ρ) => q (.rt d, ρ) m
theorem WP.bind {α β : Type} {a : M α} {f : α → M β} {m : Mem} {q : β → Mem → Prop} {e : Er → Mem → Prop} (h : WP (a m) (fun x m1 => WP (f x m1) q e) e) : WP (M.bind a f m) q e := by
  obtain ⟨h⟩ := h
  refine ⟨?_⟩
  unfold M.bind
  cases ha : a m with
  | bad => rw [ha] at h; exact h
  | ok x m1 => rw [ha] at h; exact h.h
  | ex x m1 => rw [ha] at h; exact h
theorem forG_wp {w : Wk} {g : SG} {body : SS} {xs : List D} {I : Nat → Ev → Mem → Prop} {q : Fl × Ev → Mem → Prop} {e : Er → Mem → Prop} (hw : ∀ i ρ m, I i ρ m → w i m = some (xs[i]?))
    (hs : ∀ i x ρ m, xs[i]? = some x → I i ρ m → ∃ ρ1, g x ρ = some ρ1 ∧ WP (body ρ1 m) (afterB (I (i + 1)) q) e) (hq : ∀ ρ m, I xs.length ρ m → q (.nx, ρ) m) : ∀ fuel i ρ m, xs.length ≤ fuel + i → i ≤ xs.length → I i ρ m → WP (forG w g body fuel i ρ m) q e := by
  intro fuel
  induction fuel with
  | zero =>
    intro i ρ m h1 h2 h
    have hi : i = xs.length := by omega
    unfold forG
    rw [hw i ρ m h, hi, List.getElem?_eq_none (Nat.le_refl _)]
    exact .ok (hq ρ m (hi ▸ h))
  | succ fuel ih =>
    intro i ρ m h1 h2 h
    unfold forG
    rw [hw i ρ m h]
    by_cases hi : i = xs.length
    · rw [hi, List.getElem?_eq_none (Nat.le_refl _)]
      exact .ok (hq ρ m (hi ▸ h))
    · have hlt : i < xs.length := by omega
      obtain ⟨ρ1, hg, hb⟩ := hs i (xs[i]) ρ m (List.getElem?_eq_getElem hlt) h
      rw [List.getElem?_eq_getElem hlt]
      simp only [hg]
      refine .bind (hb.mono fun r m1 z => ?_)
      obtain ⟨fl, ρ2⟩ := r
      cases fl with
      | nx => exact ih (i + 1) ρ2 m1 (by omega) (by omega) z
      | ct => exact ih (i + 1) ρ2 m1 (by omega) (by omega) z
      | bk => exact .ok z
      | rt d => exact .ok z
theorem wkRng_eq (lo : Int) (n : Nat) (i : Nat) (m : Mem) : wkRng lo n i m = some (((List.range n).map fun j => D.int (lo + (j : Nat)))[i]?) := by
  unfold wkRng
  congr 1
  rw [List.getElem?_map]
  by_cases h : i < n
  · rw [if_pos h, List.getElem?_range h]
    rfl
  · rw [if_neg h, List.getElem?_eq_none (by rw [List.length_range]; omega)]
    rfl
/-- for i in range(n) -/
theorem for_rng {it : SI} {g : SG} {body : SS} {ρ : Ev} {m m0 : Mem} {lo : Int} {n : Nat} {I : Nat → Ev → Mem → Prop} {q : Fl × Ev → Mem → Prop} {e : Er → Mem → Prop} (hit : it ρ m0 = .ok (wkRng lo n, n) m) (h0 : I 0 ρ m)
    (hs : ∀ i ρ m, i < n → I i ρ m → ∃ ρ1, g (.int (lo + (i : Nat))) ρ = some ρ1 ∧ WP (body ρ1 m) (afterB (I (i + 1)) q) e) (hq : ∀ ρ m, I n ρ m → q (.nx, ρ) m) : WP (sFor it g body ρ m0) q e := by
  unfold sFor
  rw [bind_ok hit]
  refine forG_wp (xs := (List.range n).map fun j => D.int (lo + (j : Nat))) (I := I) (fun i ρ m _ => wkRng_eq lo n i m) (fun i x ρ m hx hI => ?_) (fun ρ m h => hq ρ m (by rw [List.length_map, List.length_range] at h; exact h)) n 0 ρ m (by rw [List.length_map, List.length_range]; omega) (Nat.zero_le _) h0
  rw [List.getElem?_map] at hx
  by_cases h : i < n
  · rw [List.getElem?_range h] at hx
    cases hx
    exact hs i ρ m h hI
  · rw [List.getElem?_eq_none (by rw [List.length_range]; omega)] at hx
    cases hx
/-- for x in xs, a thing that stays -/
theorem for_seq {it : SI} {g : SG} {body : SS} {ρ : Ev} {m m0 : Mem} {w : Wk} {xs : List D} {I : Nat → Ev → Mem → Prop} {q : Fl × Ev → Mem → Prop} {e : Er → Mem → Prop} (hit : it ρ m0 = .ok (w, xs.length) m) (hw : ∀ i ρ m, I i ρ m → w i m = some (xs[i]?)) (h0 : I 0 ρ m)
    (hs : ∀ i x ρ m, xs[i]? = some x → I i ρ m → ∃ ρ1, g x ρ = some ρ1 ∧ WP (body ρ1 m) (afterB (I (i + 1)) q) e) (hq : ∀ ρ m, I xs.length ρ m → q (.nx, ρ) m) : WP (sFor it g body ρ m0) q e := by
  unfold sFor
  rw [bind_ok hit]
  exact forG_wp hw hs hq _ 0 ρ m (Nat.le_refl _) (Nat.zero_le _) h0
theorem ok_of_wp {α : Type} {r : Rs α} {x : α} {m : Mem} (h : WP r (fun d m1 => d = x ∧ m1 = m) fun _ _ => False) : r = .ok x m := by
  obtain ⟨h⟩ := h
  cases r with
  | bad => exact h.elim
  | ok d m1 =>
    obtain ⟨rfl, rfl⟩ := h
    rfl
  | ex _ _ => exact h.elim
theorem WP.eq {α : Type} {r : Rs α} {x : α} {m : Mem} {q : α → Mem → Prop} {e : Er → Mem → Prop} (h : r = .ok x m) (hq : q x m) : WP r q e := by
  rw [h]
  exact .ok hq
theorem WP.any {α : Type} {r : Rs α} {q q' : α → Mem → Prop} {e : Er → Mem → Prop} (h : WP r q fun _ _ => False) (hq : ∀ x m, q x m → q' x m) : WP r q' e := ⟨Rs.wp_mono h.h hq fun _ _ z => z.elim⟩
theorem WP.out {α : Type} {r : Rs α} {q : α → Mem → Prop} (h : WP r q fun _ _ => False) : ∃ x m, r = .ok x m ∧ q x m := by
  obtain ⟨h⟩ := h
  cases r with
  | bad => exact h.elim
  | ok d m1 => exact ⟨d, m1, rfl, h⟩
  | ex _ _ => exact h.elim
def seqQ (b : SS) (q : Fl × Ev → Mem → Prop) (e : Er → Mem → Prop) : Fl × Ev → Mem → Prop := fun r m => match r with
  | (.nx, ρ) => WP (b ρ m) q e
  | r => q r m
theorem seq_wp {a b : SS} {ρ : Ev} {m : Mem} {q : Fl × Ev → Mem → Prop} {e : Er → Mem → Prop} (h : WP (a ρ m) (seqQ b q e) e) : WP (sSeq a b ρ m) q e := by
  unfold sSeq
  refine .bind (h.mono fun r m1 z => ?_)
  obtain ⟨fl, ρ1⟩ := r
  cases fl with
  | nx => exact z
  | bk => exact .ok z
  | ct => exact .ok z
  | rt d => exact .ok z
def runQ (q : D → Mem → Prop) : Fl × Ev → Mem → Prop := fun r m => match r with
  | (.rt d, _) => q d m
  | (.nx, _) => q .non m
  | _ => False
theorem run_wp {n : Nat} {f : SS} {ds : List D} {m : Mem} {q : D → Mem → Prop} {e : Er → Mem → Prop} (h : WP (f (start n ds) m) (runQ q) e) : WP (run n f ds m) q e := by
  unfold run
  refine .bind (h.mono fun r m1 z => ?_)
  obtain ⟨fl, ρ1⟩ := r
  cases fl with
  | nx => exact .ok z
  | rt d => exact .ok z
  | bk => exact z.elim
  | ct => exact z.elim
theorem seq_then {a b : SS} {ρ ρ1 : Ev} {m m1 : Mem} {q : Fl × Ev → Mem → Prop} {e : Er → Mem → Prop} (h : a ρ m = .ok (.nx, ρ1) m1) (hb : WP (b ρ1 m1) q e) : WP (sSeq a b ρ m) q e := by
  rw [seq_ok h]
  exact hb
/-! ### comprehensions -/
theorem noex_ok {α : Type} {a : M α} {m m1 : Mem} {x : α} (h : a m = .ok x m1) : noex a m = .ok x m1 := by
  unfold noex
  rw [h]
/-- one that changes nothing -/
theorem compG_pure {w : Wk} {g : SG} {t : SB} {e : SE} {ρ0 : Ev} {m : Mem} {xs : List D} (p : D → Bool) (f : D → D) (hw : ∀ i, i ≤ xs.length → w i m = some (xs[i]?))
    (hs : ∀ x, x ∈ xs → ∃ ρ1, g x ρ0 = some ρ1 ∧ t ρ1 m = .ok (p x) m ∧ (p x = true → e ρ1 m = .ok (f x) m)) : ∀ fuel i acc, xs.length ≤ fuel + i → i ≤ xs.length → acc.length + xs.length ≤ sizeLine + i → compG w g t e ρ0 fuel i acc m = .ok (acc ++ ((xs.drop i).filter p).map f) m := by
  intro fuel
  induction fuel with
  | zero =>
    intro i acc h1 h2 _
    have hi : i = xs.length := by omega
    unfold compG
    rw [hw i h2, hi, List.getElem?_eq_none (Nat.le_refl _), List.drop_length]
    simp
  | succ fuel ih =>
    intro i acc h1 h2 h3
    unfold compG
    rw [hw i h2]
    by_cases hi : i = xs.length
    · rw [hi, List.getElem?_eq_none (Nat.le_refl _), List.drop_length]
      simp
    · have hlt : i < xs.length := by omega
      obtain ⟨ρ1, hg, ht, he⟩ := hs (xs[i]) (List.getElem_mem hlt)
      rw [List.getElem?_eq_getElem hlt, List.drop_eq_getElem_cons hlt]
      simp only [hg]
      rw [bind_ok (noex_ok ht)]
      cases hp : p xs[i] with
      | true =>
        simp only [if_true]
        have hc : acc.length < sizeLine := by omega
        rw [bind_ok (noex_ok (he hp))]
        simp only [hc, if_true]
        rw [ih (i + 1) _ (by omega) (by omega) (by rw [List.length_append, List.length_singleton]; omega), List.filter_cons_of_pos hp]
        simp
      | false =>
        simp only [Bool.false_eq_true, if_false]
        rw [ih (i + 1) _ (by omega) (by omega) (by omega), List.filter_cons_of_neg (by rw [hp]; exact Bool.false_ne_true)]
theorem comp_pure {it : SI} {g : SG} {t : SB} {e : SE} {own : List Nat} {ρ : Ev} {m : Mem} {w : Wk} {xs : List D} (p : D → Bool) (f : D → D) (hit : it ρ m = .ok (w, xs.length) m) (hw : ∀ i, i ≤ xs.length → w i m = some (xs[i]?))
    (hs : ∀ x, x ∈ xs → ∃ ρ1, g x (wipeE ρ own) = some ρ1 ∧ t ρ1 m = .ok (p x) m ∧ (p x = true → e ρ1 m = .ok (f x) m)) (hl : xs.length ≤ sizeLine) : comp it g t e own ρ m = .ok (.lst ((xs.filter p).map f)) m := by
  unfold comp compL
  have h1 : (M.bind (it ρ) fun w => compG w.1 g t e (wipeE ρ own) w.2 0 []) m = .ok ((xs.filter p).map f) m := by
    rw [bind_ok hit]
    have z := compG_pure p f hw hs xs.length 0 [] (Nat.le_refl _) (Nat.zero_le _) (by simpa using hl)
    rw [z]
    rfl
  rw [bind_ok h1]
  rfl
/-- one whose items are drawn -/
theorem compG_wp {w : Wk} {g : SG} {e : SE} {ρ0 : Ev} {xs : List D} {I : Nat → List D → Mem → Prop} (hw : ∀ i acc m, I i acc m → w i m = some (xs[i]?))
    (hs : ∀ i x acc m, xs[i]? = some x → I i acc m → ∃ ρ1, g x ρ0 = some ρ1 ∧ WP (e ρ1 m) (fun y m1 => acc.length < sizeLine ∧ I (i + 1) (acc ++ [y]) m1) fun _ _ => False) {E : Er → Mem → Prop} : ∀ fuel i acc m, xs.length ≤ fuel + i → i ≤ xs.length → I i acc m → WP (compG w g LB.tYes e ρ0 fuel i acc m) (I xs.length) E := by
  intro fuel
  induction fuel with
  | zero =>
    intro i acc m h1 h2 h
    have hi : i = xs.length := by omega
    unfold compG
    rw [hw i acc m h, hi, List.getElem?_eq_none (Nat.le_refl _)]
    exact .ok (hi ▸ h)
  | succ fuel ih =>
    intro i acc m h1 h2 h
    unfold compG
    rw [hw i acc m h]
    by_cases hi : i = xs.length
    · rw [hi, List.getElem?_eq_none (Nat.le_refl _)]
      exact .ok (hi ▸ h)
    · have hlt : i < xs.length := by omega
      obtain ⟨ρ1, hg, he⟩ := hs i (xs[i]) acc m (List.getElem?_eq_getElem hlt) h
      rw [List.getElem?_eq_getElem hlt]
      simp only [hg]
      have ht : LB.tYes ρ1 m = .ok true m := rfl
      rw [bind_ok (noex_ok ht)]
      simp only [if_true]
      obtain ⟨y, m1, hr, hc, hI⟩ := he.out
      rw [bind_ok (noex_ok hr), if_pos hc]
      exact ih (i + 1) _ m1 (by omega) (by omega) hI
theorem compL_wp {it : SI} {g : SG} {e : SE} {own : List Nat} {ρ : Ev} {m m0 : Mem} {w : Wk} {xs : List D} {I : Nat → List D → Mem → Prop} {E : Er → Mem → Prop} (hit : it ρ m0 = .ok (w, xs.length) m) (hw : ∀ i acc m, I i acc m → w i m = some (xs[i]?)) (h0 : I 0 [] m)
    (hs : ∀ i x acc m, xs[i]? = some x → I i acc m → ∃ ρ1, g x (wipeE ρ own) = some ρ1 ∧ WP (e ρ1 m) (fun y m1 => acc.length < sizeLine ∧ I (i + 1) (acc ++ [y]) m1) fun _ _ => False) : WP (compL it g LB.tYes e own ρ m0) (I xs.length) E := by
  unfold compL
  rw [bind_ok hit]
  exact compG_wp hw hs _ 0 [] m (Nat.le_refl _) (Nat.zero_le _) h0
theorem dctOf_new (m : Mem) (kvs : List (KeyS × D)) : dctOf (m.new (.dct kvs)) (.loc m.n) = some kvs := by
  show (if m.n < m.n + 1 then (match (m.new (.dct kvs)).get m.n with
    | some (.dct kvs) => some kvs
    | _ => none) else none) = some kvs
  rw [if_pos (Nat.lt_succ_self _), Mem.new_at]
theorem dsp_ok {ps : List (SE × SE)} {ρ : Ev} {m m1 : Mem} {xs : List (D × D)} {kvs : List (KeyS × D)} (hp : prE ps ρ m = .ok xs m1) (hk : keysOf xs = some kvs) (hl : kvs.length ≤ 15) : dspE ps ρ m = .ok (.loc m1.n) (m1.new (.dct (mergeD [] kvs))) := by
  unfold dspE
  rw [bind_ok hp]
  unfold dspK
  rw [hk]
  exact if_pos hl
theorem gIx_tup {xs : List D} {i : Nat} {d : D} (h : xs[i]? = some d) (m : Mem) : gIx (.tup xs) (.int i) m = some d := by
  have hi : i < xs.length := by
    by_cases c : i < xs.length
    · exact c
    · rw [List.getElem?_eq_none (by omega)] at h
      cases h
  show (ixD xs.length (i : Int)).bind (fun j => xs[j]?) = some d
  unfold ixD
  rw [if_pos (Int.natCast_nonneg i), if_pos (by omega)]
  exact h
theorem len_tup {a : SE} {ρ : Ev} {m m1 : Mem} {xs : List D} (ha : a ρ m = .ok (.tup xs) m1) : opN gLen (argC a argN) ρ m = .ok (.int xs.length) m1 := opN_ok (arg1_ok ha) rfl
theorem small62_nat {n : Nat} (h : n < 4611686018427387904) : small62 n = true := by
  unfold small62
  rw [decide_eq_true (by omega), decide_eq_true (by omega)]
  rfl
theorem slc_ok {a : SE} {lo hi : SO} {ρ : Ev} {m m1 m2 m3 : Mem} {x d : D} {l h : Option Int} (ha : a ρ m = .ok x m1) (hl : lo ρ m1 = .ok l m2) (hh : hi ρ m2 = .ok h m3) (hg : gSl x l h m3 = some d) : slc a lo hi ρ m = .ok d m3 := by
  unfold slc
  rw [bind_ok ha, bind_ok hl, bind_ok hh, hg]
  rfl
theorem cut_behind {α : Type} (xs : List α) (k : Nat) (h : k ≤ xs.length) : cutD xs (some (k : Int)) none = xs.drop k := by
  unfold cutD sIxD
  simp only
  rw [if_neg (by omega)]
  have e : min ((k : Int)).toNat xs.length = k := by omega
  rw [e]
  exact List.take_of_length_le (by rw [List.length_drop]; omega)
theorem it1_ok {a : SA} {ρ : Ev} {m m1 : Mem} {hi : Int} (h : a ρ m = .ok [.int hi] m1) (hb : small62 hi = true) : itRng1 a ρ m = .ok (wkRng 0 hi.toNat, hi.toNat) m1 := by
  unfold itRng1
  rw [bind_ok h]
  simp only [hb, if_true]
theorem wkSeq_const {m : Mem} {d : D} {xs : List D} (h : sqOf m d = some xs) (i : Nat) : wkSeq d i m = some (xs[i]?) := by
  unfold wkSeq
  rw [h]
  rfl
theorem itZp_ok {a b : SE} {ρ : Ev} {m m1 m2 : Mem} {d e : D} {xs ys : List D} (ha : a ρ m = .ok d m1) (hb : b ρ m1 = .ok e m2) (hx : wlkOf m2 d = some xs) (hy : wlkOf m2 e = some ys) : itZp a b ρ m = .ok (wkZp d e, (List.zipWith (fun x y => D.tup [x, y]) xs ys).length) m2 := by
  unfold itZp
  rw [bind_ok ha, bind_ok hb]
  simp only [hx, hy, List.length_zipWith]
theorem wkZp_eq {m : Mem} {d e : D} {xs ys : List D} (hx : wlkOf m d = some xs) (hy : wlkOf m e = some ys) (i : Nat) (hi : i ≤ (List.zipWith (fun x y => D.tup [x, y]) xs ys).length) : wkZp d e i m = some ((List.zipWith (fun x y => D.tup [x, y]) xs ys)[i]?) := by
  unfold wkZp
  rw [hx, hy]
  show upTo (min xs.length ys.length) i ((xs[i]?).bind fun x => (ys[i]?).map fun y => .tup [x, y]) = _
  rw [List.length_zipWith] at hi
  unfold upTo
  by_cases h : i < min xs.length ys.length
  · rw [if_pos h]
    have h1 : i < xs.length := by omega
    have h2 : i < ys.length := by omega
    rw [List.getElem?_zipWith, List.getElem?_eq_getElem h1, List.getElem?_eq_getElem h2]
    rfl
  · have h2 : i = min xs.length ys.length := by omega
    rw [if_neg h, if_pos h2, List.getElem?_eq_none (by rw [List.length_zipWith]; omega)]
/-! ### ints side by side -/
theorem plains_ints (xs : List Int) : plains (xs.map D.int) = true := by
  induction xs with
  | nil => rfl
  | cons i r ih => exact ih
theorem deps_ints (xs : List Int) : deps (xs.map D.int) = 0 := by
  induction xs with
  | nil => rfl
  | cons i r ih =>
    show max 0 (deps (r.map D.int)) = 0
    rw [ih]
    rfl
theorem intsOf_map (xs : List Int) : intsOf (xs.map D.int) = some xs := by
  induction xs with
  | nil => rfl
  | cons i r ih =>
    show (intsOf (r.map D.int)).map (i :: ·) = _
    rw [ih]
    rfl
/-- a list of ints against [] -/
theorem eqDeep_nil {m : Mem} {d : D} {xs : List Int} (h : lstOf m d = some (xs.map D.int)) : eqDeep m d (.lst []) = some xs.isEmpty := by
  have e1 : res m d = .lst (xs.map D.int) := by
    unfold res
    rw [h]
  have e2 : res m (.lst []) = .lst [] := rfl
  unfold eqDeep
  rw [e1, e2]
  have p : (D.lst (xs.map D.int)).plain = true := plains_ints xs
  have q : (D.lst (xs.map D.int)).dep ≤ 60 := by
    show deps (xs.map D.int) + 1 ≤ 60
    rw [deps_ints]
    decide
  rw [if_pos ⟨p, rfl, q, by decide⟩]
  cases xs <;> rfl
theorem eqOf_nil {m : Mem} {d : D} {xs : List Int} (h : lstOf m d = some (xs.map D.int)) : eqOf m d (.lst []) = some xs.isEmpty := by
  cases d <;> first
    | (cases h; done)
    | exact eqDeep_nil h
theorem eq_nils (m : Mem) : eqOf m (.lst []) (.lst []) = some true := eqOf_nil (xs := []) rfl
theorem itSeq_ok {a : SE} {ρ : Ev} {m m1 : Mem} {d : D} {xs : List D} (h : a ρ m = .ok d m1) (hs : sqOf m1 d = some xs) : itSeq a ρ m = .ok (wkSeq d, xs.length) m1 := by
  unfold itSeq
  rw [bind_ok h]
  simp only [hs]
end LB

set_option Elab.async false
set_option linter.all false
set_option autoImplicit false
set_option maxRecDepth 100000
set_option maxHeartbeats 0
/-! Pure: rows, mills, pieces; the program's defs about them. -/
namespace LB
open PySem
noncomputable section
def tbF : List (Str × D) := [("put", .str "wn"), ("move", .str "wl"), ("add", .str "wll"), ("take", .str "wll"), ("times", .str "wll"), ("get", .str "wl"), ("set", .str "ll"), ("say", .str "l"), ("rest", .str ""), ("go", .str "r"), ("if", .str "lr"), ("stop", .str "")]
/-! ### rows -/
inductive Row where
  | put (b n : Int) | move (b c : Int) | add (b c d : Int) | take (b c d : Int) | times (b c d : Int) | get (b c : Int) | set (b c : Int) | say (b : Int) | rest | go (r : Int) | ifr (b r : Int) | stop
  deriving DecidableEq
namespace Row
def word : Row → Str
  | put .. => "put" | move .. => "move" | add .. => "add" | take .. => "take" | times .. => "times" | get .. => "get" | set .. => "set" | say .. => "say" | rest => "rest" | go .. => "go" | ifr .. => "if" | stop => "stop"
def parts : Row → List Int
  | put b n => [b, n] | move b c => [b, c] | add b c d => [b, c, d] | take b c d => [b, c, d] | times b c d => [b, c, d] | get b c => [b, c] | set b c => [b, c] | say b => [b] | rest => [] | go r => [r] | ifr b r => [b, r] | stop => []
def form : Row → Str
  | put .. => "wn" | move .. => "wl" | add .. => "wll" | take .. => "wll" | times .. => "wll" | get .. => "wl" | set .. => "ll" | say .. => "l" | rest => "" | go .. => "r" | ifr .. => "lr" | stop => ""
/-- w: 0, l: 1, n: 2, r: 3 -/
def sorts : Row → List Nat
  | put .. => [0, 2] | move .. => [0, 1] | add .. => [0, 1, 1] | take .. => [0, 1, 1] | times .. => [0, 1, 1] | get .. => [0, 1] | set .. => [1, 1] | say .. => [1] | rest => [] | go .. => [3] | ifr .. => [1, 3] | stop => []
def into : Row → Option Int
  | put b _ => some b | move b _ => some b | add b _ _ => some b | take b _ _ => some b | times b _ _ => some b | get b _ => some b | _ => none
def looks : Row → List Int
  | move _ c => [c] | add _ c d => [c, d] | take _ c d => [c, d] | times _ c d => [c, d] | get _ c => [c] | set b c => [b, c] | say b => [b] | ifr b _ => [b] | _ => []
def ends : Row → Bool
  | go .. => true | ifr .. => true | stop => true | _ => false
def goes : Row → Bool
  | go .. => true | ifr .. => true | _ => false
def stops : Row → Bool
  | stop => true | _ => false
def kind : Row → Nat
  | put .. => 0 | move .. => 1 | add .. => 2 | take .. => 3 | times .. => 4 | get .. => 5 | set .. => 6 | say .. => 7 | rest => 8 | go .. => 9 | ifr .. => 10 | stop => 11
def enc (r : Row) : D := .tup (.str r.word :: r.parts.map D.int)
end Row
def sortZ : Nat → Str
  | 0 => "w" | 1 => "l" | 2 => "n" | _ => "r"
def most (rows : Int) : Nat → Int
  | 0 => 8 | 1 => 8 | 2 => 1000 | _ => rows
def Row.okB (rows : Int) (r : Row) : Bool := (r.parts.zip r.sorts).all fun q => decide (0 ≤ q.1) && decide (q.1 ≤ most rows q.2 - 1)
def wordAt (i : Nat) : Str := (["put", "move", "add", "take", "times", "get", "set", "say", "rest", "go", "if", "stop"] : List Str).getD i Str.empty
theorem wordAt_inj : ∀ i, i < 12 → ∀ j, j < 12 → wordAt i = wordAt j → i = j := by decide +kernel
theorem Row.word_at (r : Row) : r.word = wordAt r.kind := by cases r <;> rfl
theorem Row.kind_lt (r : Row) : r.kind < 12 := by cases r <;> simp [Row.kind]
theorem Row.kind_of {r s : Row} (h : r.word = s.word) : r.kind = s.kind := wordAt_inj _ r.kind_lt _ s.kind_lt (by rw [← Row.word_at, ← Row.word_at, h])
theorem Row.enc_inj {r s : Row} (h : r.enc = s.enc) : r = s := by
  have h2 : (.str r.word :: r.parts.map D.int : List D) = .str s.word :: s.parts.map D.int := D.tup.inj h
  obtain ⟨h3, h4⟩ := List.cons.inj h2
  have hw : r.word = s.word := D.str.inj h3
  have hp : r.parts = s.parts := (List.map_inj_right fun _ _ h => D.int.inj h).mp h4
  have hk := Row.kind_of hw
  clear h h2 h3 h4 hw
  cases r <;> cases s <;> first
    | (simp [Row.kind] at hk; done)
    | (simp only [Row.parts, List.cons.injEq, and_true] at hp; simp [hp])
theorem Row.form_at (r : Row) : tbF.lookup r.word = some (.str r.form) := by cases r <;> rfl
theorem Row.form_sorts (r : Row) : strOf r.form = r.sorts.map fun s => D.str (sortZ s) := by cases r <;> rfl
theorem Row.form_len (r : Row) : r.form.length = r.parts.length := by cases r <;> rfl
theorem Row.parts_le (r : Row) : r.parts.length ≤ 3 := by cases r <;> simp [Row.parts]
/-! ### mills -/
structure Mill where
  a : Nat
  b : Nat
  c : Nat
  j : Nat
def Mill.enc (t : Mill) : D := .tup [.int t.a, .int t.b, .int t.c, .int t.j]
def Mill.ok (t : Mill) : Prop := t.a ≤ 2 ∧ t.b ≤ 4 ∧ t.c ≤ 4 ∧ t.j ≤ 3
theorem Mill.enc_inj {s t : Mill} (h : s.enc = t.enc) : s = t := by
  have h2 := D.tup.inj h
  simp only [List.cons.injEq, D.int.injEq, and_true, Int.natCast_inj] at h2
  cases s
  cases t
  simp_all
def Row.late (t : Mill) : Row → Nat
  | .put .. => t.a | .move .. => t.a | .add .. => t.a | .take .. => t.a | .times .. => t.c | .get .. => t.b | _ => 0
def optD (o : Option Int) : D := match o with
  | some i => .int i
  | none => .non
/-! ### is_number -/
def f_is_number : SS := sRet (vAnd (op1 (gIsi "int") (vr 0)) (vAnd (vNot (op1 (gIsi "bool") (vr 0))) (chn gLe gLe (vr 1) (vr 0) (vr 2))))
def m_is_number : Fn := run 3 f_is_number
theorem le_is_number (ds : List D) (m : Mem) : LeR m (m_is_number ds m) (run 3 f_is_number ds m) := .same _
def numB (i lo hi : Int) : Bool := decide (lo ≤ i) && decide (i ≤ hi)
theorem is_number_int (i lo hi : Int) (m : Mem) : m_is_number [.int i, .int lo, .int hi] m = .ok (.bl (numB i lo hi)) m := by
  unfold numB
  by_cases h : lo ≤ i
  · have e : (M.bind (asB (.bl (decide (lo ≤ i)))) fun t => if t = true then (fun m => lift (gLe (.int i) (.int hi) m) m) else M.pure (.bl false)) m = .ok (.bl (decide (lo ≤ i) && decide (i ≤ hi))) m := by
      rw [decide_eq_true h]
      rfl
    exact bind_ok (m1 := m) (x := (Fl.rt (.bl (decide (lo ≤ i) && decide (i ≤ hi))), start 3 [.int i, .int lo, .int hi])) (bind_ok (m1 := m) (x := D.bl (decide (lo ≤ i) && decide (i ≤ hi))) e)
  · have e : (M.bind (asB (.bl (decide (lo ≤ i)))) fun t => if t = true then (fun m => lift (gLe (.int i) (.int hi) m) m) else M.pure (.bl false)) m = .ok (.bl (decide (lo ≤ i) && decide (i ≤ hi))) m := by
      rw [decide_eq_false h]
      rfl
    exact bind_ok (m1 := m) (x := (Fl.rt (.bl (decide (lo ≤ i) && decide (i ≤ hi))), start 3 [.int i, .int lo, .int hi])) (bind_ok (m1 := m) (x := D.bl (decide (lo ≤ i) && decide (i ≤ hi))) e)
/-! ### of a row -/
def f_is_end : SS := sRet (op2 gIn (op2 gIx (vr 0) (cn (.int 0))) (tpl (argC (cn (.str (Str.ofString "go"))) (argC (cn (.str (Str.ofString "if"))) (argC (cn (.str (Str.ofString "stop"))) (argN))))))
def m_is_end : Fn := run 1 f_is_end
def f_looked_at : SS := sRet (comp (itZp (slc (vr 0) (soS (cn (.int 1))) (soN)) (op1 (gGetK tbF) (op2 gIx (vr 0) (cn (.int 0))))) (gTp [1, 2]) (tV (op2 gEq (vr 2) (cn (.str (Str.ofString "l"))))) (vr 1) [1, 2])
def m_looked_at : Fn := run 3 f_looked_at
def f_put_into : SS := sRet (ifE (tV (op2 gEq (slcS (op1 (gGetK tbF) (op2 gIx (vr 0) (cn (.int 0)))) (soN) (soS (cn (.int 1)))) (cn (.str (Str.ofString "w"))))) (op2 gIx (vr 0) (cn (.int 1))) (cn .non))
def m_put_into : Fn := run 1 f_put_into
theorem is_end_row (r : Row) (m : Mem) : m_is_end [r.enc] m = .ok (.bl r.ends) m := by cases r <;> rfl
theorem put_into_row (r : Row) (m : Mem) : m_put_into [r.enc] m = .ok (optD r.into) m := by cases r <;> rfl
theorem looked_at_row (r : Row) (m : Mem) : m_looked_at [r.enc] m = .ok (.lst (r.looks.map D.int)) m := by cases r <;> rfl
abbrev encRM (q : Row × Mill) : List D := [q.1.enc, q.2.enc]
theorem encRM_inj (a b : Row × Mill) (h : encRM a = encRM b) : a = b := by
  obtain ⟨h1, h2⟩ := List.cons.inj h
  obtain ⟨h3, _⟩ := List.cons.inj h2
  exact Prod.ext (Row.enc_inj h1) (Mill.enc_inj h3)
noncomputable def m_late : Fn := spec encRM fun q => .int (q.1.late q.2)
theorem late_row (r : Row) (t : Mill) (m : Mem) : m_late [r.enc, t.enc] m = .ok (.int (r.late t)) m := spec_at encRM_inj (r, t) m
/-! ### how far behind -/
def inP (o : Option Int) (xs : List Int) : Bool := match o with
  | some g => xs.contains g
  | none => false
def sameP (a b : Option Int) : Bool := match a, b with
  | some g, some h => decide (g = h)
  | _, _ => false
def pairP (r s : Row) : Bool := match r, s with
  | .set .., .get .. => true
  | .get .., .set .. => true
  | .set .., .set .. => true
  | .say .., .say .. => true
  | _, _ => false
def one1 (b : Bool) (i : Int) : List Int := if b = true then [i] else []
def far1 (r s : Row) (t : Mill) : List Int := one1 (inP r.into s.looks) (r.late t + 1)
def far2 (r s : Row) (t : Mill) : List Int := one1 (sameP r.into s.into) (if (r.late t : Int) - s.late t + 1 > 1 then (r.late t : Int) - s.late t + 1 else 1)
def far3 (r s : Row) (t : Mill) : List Int := one1 (inP s.into r.looks) 1
def far4 (r s : Row) (t : Mill) : List Int := one1 (pairP r s || s.stops) 1
def far5 (r s : Row) (t : Mill) : List Int := one1 s.goes ((r.late t : Int) - t.j)
def farL (r s : Row) (t : Mill) : List Int := far1 r s t ++ far2 r s t ++ far3 r s t ++ far4 r s t ++ far5 r s t
def far (r s : Row) (t : Mill) : D := optD (maxL (farL r s t))
theorem ix0_row (r : Row) (m : Mem) : gIx r.enc (.int 0) m = some (.str r.word) := by cases r <;> rfl
abbrev encRRM (q : Row × Row × Mill) : List D := [q.1.enc, q.2.1.enc, q.2.2.enc]
theorem encRRM_inj (a b : Row × Row × Mill) (h : encRRM a = encRRM b) : a = b := by
  obtain ⟨h1, h2⟩ := List.cons.inj h
  obtain ⟨h3, h4⟩ := List.cons.inj h2
  obtain ⟨h5, _⟩ := List.cons.inj h4
  exact Prod.ext (Row.enc_inj h1) (Prod.ext (Row.enc_inj h3) (Mill.enc_inj h5))
noncomputable def m_far_of : Fn := spec encRRM fun q => far q.1 q.2.1 q.2.2
theorem far_of_row (r s : Row) (t : Mill) (m : Mem) : m_far_of [r.enc, s.enc, t.enc] m = .ok (far r s t) m := spec_at encRRM_inj (r, s, t) m
/-! ### all ties of a piece -/
def encP (p : List Row) : D := .tup (p.map Row.enc)
theorem encP_at {p : List Row} {i : Nat} (h : i < p.length) (m : Mem) : gIx (encP p) (.int i) m = some (p[i]).enc := gIx_tup (by rw [List.getElem?_map, List.getElem?_eq_getElem h]; rfl) m
/-! ### is_row -/
def kvM (rows : Int) : List (KeyS × D) := [(.inr "w", .int 8), (.inr "l", .int 8), (.inr "n", .int 1000), (.inr "r", .int rows)]
theorem kvM_at (rows : Int) (s : Nat) : valK (mergeD [] (kvM rows)) (.inr (sortZ s)) = some (.int (most rows s)) := match s with
  | 0 => rfl
  | 1 => rfl
  | 2 => rfl
  | _ + 3 => rfl
def pairD (q : Int × Nat) : D := .tup [.int q.1, .str (sortZ q.2)]
def badQ (rows : Int) (q : Int × Nat) : Bool := !numB q.1 0 (most rows q.2 - 1)
def pRow (rows : Int) (d : D) : Bool := match d with
  | .tup [.int v, .str z] => (match valK (mergeD [] (kvM rows)) (.inr z) with
    | some (.int i) => !numB v 0 (i - 1)
    | _ => false)
  | _ => false
def fRow (d : D) : D := match d with
  | .tup [x, _] => x
  | _ => .non
theorem pRow_at (rows : Int) (q : Int × Nat) : pRow rows (pairD q) = badQ rows q := by
  show (match valK (mergeD [] (kvM rows)) (.inr (sortZ q.2)) with
    | some (.int i) => !numB q.1 0 (i - 1)
    | _ => false) = _
  rw [kvM_at]
  rfl
theorem zip_pairD : ∀ (xs : List Int) (ys : List Nat), List.zipWith (fun x y => D.tup [x, y]) (xs.map D.int) (ys.map fun s => D.str (sortZ s)) = (xs.zip ys).map pairD
  | [], _ => by simp
  | _ :: _, [] => by simp
  | x :: xs, y :: ys => by
    rw [List.map_cons, List.map_cons, List.zipWith_cons_cons, List.zip_cons_cons, List.map_cons, zip_pairD xs ys]
    rfl
theorem filt_pairD (rows : Int) : ∀ qs : List (Int × Nat), (((qs.map pairD).filter (pRow rows)).map fRow) = ((qs.filter (badQ rows)).map fun q => q.1).map D.int
  | [] => rfl
  | q :: qs => by
    rw [List.map_cons, List.filter_cons, List.filter_cons, pRow_at]
    cases badQ rows q with
    | true =>
      simp only [if_true, List.map_cons]
      rw [filt_pairD rows qs]
      rfl
    | false =>
      simp only [Bool.false_eq_true, if_false]
      exact filt_pairD rows qs
def badL (r : Row) (rows : Int) : List Int := ((r.parts.zip r.sorts).filter (badQ rows)).map fun q => q.1
theorem badL_nil (r : Row) (rows : Int) : (badL r rows).isEmpty = r.okB rows := by
  unfold badL Row.okB
  rw [List.isEmpty_map]
  generalize r.parts.zip r.sorts = qs
  induction qs with
  | nil => rfl
  | cons q qs ih =>
    rw [List.filter_cons, List.all_cons, ← ih]
    have e : badQ rows q = !(decide (0 ≤ q.1) && decide (q.1 ≤ most rows q.2 - 1)) := rfl
    rw [e]
    cases (decide (0 ≤ q.1) && decide (q.1 ≤ most rows q.2 - 1)) <;> simp
theorem word_plain : ∀ i, i < 12 → (D.str (wordAt i)).plain = true := by decide +kernel
theorem row_plain (r : Row) : r.enc.plain = true := by
  show ((D.str r.word).plain && plains (r.parts.map D.int)) = true
  rw [plains_ints, r.word_at, word_plain _ r.kind_lt]
  rfl
theorem row_dep (r : Row) : r.enc.dep = 1 := by
  show max 0 (deps (r.parts.map D.int)) + 1 = 1
  rw [deps_ints]
  rfl
theorem row_ne_nil (r : Row) (m : Mem) : gEq r.enc (.tup []) m = some (.bl false) := by
  have h : eqDeep m r.enc (.tup []) = some false := by
    unfold eqDeep
    have e1 : res m r.enc = r.enc := rfl
    have e2 : res m (.tup []) = .tup [] := rfl
    rw [e1, e2, if_pos ⟨row_plain r, rfl, by rw [row_dep]; decide, by decide⟩]
    rfl
  show (eqDeep m r.enc (.tup [])).map D.bl = _
  rw [h]
  rfl
def f_is_row : SS := sSeq (sIf (LB.tOr (LB.tNot (tV (op1 (gIsi "tuple") (vr 0)))) (LB.tOr (tV (op2 gEq (vr 0) (tpl (argN)))) (LB.tOr (LB.tNot (tV (op1 (gIsi "str") (op2 gIx (vr 0) (cn (.int 0)))))) (tV (op1 (gNotInK tbF) (op2 gIx (vr 0) (cn (.int 0)))))))) (sRet (cn (.bl false))) (sNext)) (sSeq (sAsg (dspE [(cn (.str (Str.ofString "w")), cn (.int 8)), (cn (.str (Str.ofString "l")), cn (.int 8)), (cn (.str (Str.ofString "n")), cn (.int 1000)), (cn (.str (Str.ofString "r")), vr 1)]) (gNm 2)) (sSeq (sAsg (op1 (gGetK tbF) (op2 gIx (vr 0) (cn (.int 0)))) (gNm 3)) (sSeq (sIf (tV (op2 gNe (opN gLen (argC (vr 0) (argN))) (op2 gAdd (opN gLen (argC (vr 3) (argN))) (cn (.int 1))))) (sRet (cn (.bl false))) (sNext)) (sRet (op2 gEq (comp (itZp (slc (vr 0) (soS (cn (.int 1))) (soN)) (vr 3)) (gTp [4, 5]) (LB.tNot (tV (callN 3 m_is_number (argC (vr 4) (argC (cn (.int 0)) (argC (op2 gSub (op2 gDget (vr 2) (vr 5)) (cn (.int 1))) (argN))))))) (vr 4) [4, 5]) (lsl (argN)))))))
abbrev encRI (q : Row × Int) : List D := [q.1.enc, .int q.2]
theorem encRI_inj (a b : Row × Int) (h : encRI a = encRI b) : a = b := by
  obtain ⟨h1, h2⟩ := List.cons.inj h
  obtain ⟨h3, _⟩ := List.cons.inj h2
  exact Prod.ext (Row.enc_inj h1) (D.int.inj h3)
noncomputable def m_is_row : Fn := specOr encRI (fun q => .bl (q.1.okB q.2)) (run 6 f_is_row)
theorem is_row_row (r : Row) (rows : Int) (m : Mem) : m_is_row [r.enc, .int rows] m = .ok (.bl (r.okB rows)) m := specOr_at encRI_inj (r, rows) m
theorem is_row_run (r : Row) (rows : Int) (m : Mem) : ∃ m2, run 6 f_is_row (encRI (r, rows)) m = .ok (.bl (r.okB rows)) m2 ∧ Keep m m2 := by
  have hw (m : Mem) (ρ : Ev) (h : vr 0 ρ m = .ok r.enc m) : op2 gIx (vr 0) (cn (.int 0)) ρ m = .ok (.str r.word) m := op2_ok h rfl (ix0_row r m)
  have hK (m : Mem) : gNotInK tbF (.str r.word) m = some (.bl false) := by
    show some (D.bl (!(tbF.lookup r.word).isSome)) = _
    rw [r.form_at]
    rfl
  have hG (m : Mem) : gGetK tbF (.str r.word) m = some (.str r.form) := r.form_at
  let M2 : Mem := m.new (.dct (mergeD [] (kvM rows)))
  have hl : r.parts.length ≤ 3 := r.parts_le
  refine ⟨M2, run_rt (ρ1 := [some r.enc, some (.int rows), some (.loc m.n), some (.str r.form), none, none]) ?_, .new _ _⟩
  refine (seq_ok ((if_no (m1 := m) (tOr_ok1 (x := false) (tNot_ok (x := true) (tV_ok (op1_ok rfl rfl))) fun _ => tOr_ok1 (x := false) (tV_ok (op2_ok rfl rfl (row_ne_nil r m))) fun _ => tOr_ok1 (x := false) (tNot_ok (x := true) (tV_ok (op1_ok (hw m _ rfl) rfl))) fun _ => tV_ok (op1_ok (hw m _ rfl) (hK m)))).trans rfl)).trans ?_
  refine (seq_ok (asg_ok (dsp_ok (m1 := m) (kvs := kvM rows) rfl rfl (show 4 ≤ 15 by decide)) rfl)).trans ?_
  refine (seq_ok (asg_ok (op1_ok (hw M2 _ rfl) (hG M2)) rfl)).trans ?_
  have hfl : r.form.length ≤ sizeLine := by rw [r.form_len]; exact Nat.le_trans hl (by decide)
  refine (seq_ok ((if_no (m1 := M2) (tV_ok (op2_ok (x := .int ((r.parts.length + 1 : Nat) : Int)) (y := .int ((r.parts.length : Nat) + 1 : Int)) (m1 := M2) (m2 := M2) ?_ (op2_ok (x := .int (r.parts.length : Nat)) (opN_ok (arg1_ok rfl) (?_ : gLen [.str r.form] M2 = _)) rfl rfl) ?_))).trans rfl)).trans ?_
  · have z := len_tup (a := vr 0) (ρ := [some r.enc, some (.int rows), some (.loc m.n), some (.str r.form), none, none]) (m := M2) (m1 := M2) (xs := .str r.word :: r.parts.map D.int) rfl
    rw [List.length_cons, List.length_map] at z
    exact z
  · show (if r.form.length ≤ sizeLine then some (D.int r.form.length) else none) = _
    rw [if_pos hfl, r.form_len]
  · show (some (decide (((r.parts.length + 1 : Nat) : Int) = (r.parts.length : Nat) + 1))).map (fun b => D.bl (!b)) = _
    rw [decide_eq_true (by omega)]
    rfl
  have hcut : gSl r.enc (some 1) none M2 = some (.tup (r.parts.map D.int)) := by
    show some (D.tup (cutD (.str r.word :: r.parts.map D.int) (some ((1 : Nat) : Int)) none)) = _
    rw [cut_behind _ 1 (by rw [List.length_cons]; omega)]
    rfl
  have hit := itZp_ok (a := slc (vr 0) (soS (cn (.int 1))) (soN)) (b := vr 3) (ρ := [some r.enc, some (.int rows), some (.loc m.n), some (.str r.form), none, none]) (m := M2) (m1 := M2) (m2 := M2) (d := .tup (r.parts.map D.int)) (e := .str r.form) (xs := r.parts.map D.int) (ys := r.sorts.map fun s => D.str (sortZ s)) (slc_ok rfl rfl rfl hcut) rfl rfl (by
    show some (strOf r.form) = _
    rw [r.form_sorts])
  have hwk := wkZp_eq (m := M2) (d := .tup (r.parts.map D.int)) (e := .str r.form) (xs := r.parts.map D.int) (ys := r.sorts.map fun s => D.str (sortZ s)) rfl (by
    show some (strOf r.form) = _
    rw [r.form_sorts])
  have hc := comp_pure (g := gTp [4, 5]) (t := LB.tNot (tV (callN 3 m_is_number (argC (vr 4) (argC (cn (.int 0)) (argC (op2 gSub (op2 gDget (vr 2) (vr 5)) (cn (.int 1))) (argN))))))) (e := vr 4) (own := [4, 5]) (pRow rows) fRow hit hwk (fun x hx => by
    rw [zip_pairD] at hx
    obtain ⟨q, _, rfl⟩ := List.mem_map.mp hx
    refine ⟨[some r.enc, some (.int rows), some (.loc m.n), some (.str r.form), some (.int q.1), some (.str (sortZ q.2))], rfl, ?_, fun _ => rfl⟩
    rw [pRow_at]
    refine tNot_ok (tV_ok ((callN_ok (arg3_ok rfl rfl (op2_ok (x := .int (most rows q.2)) (op2_ok (x := .loc m.n) (y := .str (sortZ q.2)) rfl rfl ?_) rfl rfl)) rfl).trans (is_number_int _ _ _ _)))
    show (dctOf M2 (.loc m.n)).bind (fun kvs => (keyOf (.str (sortZ q.2))).bind fun k => valK kvs k) = _
    rw [dctOf_new]
    exact kvM_at rows q.2) (by
    rw [List.length_zipWith, List.length_map]
    exact Nat.le_trans (Nat.min_le_left _ _) (Nat.le_trans hl (by decide)))
  rw [zip_pairD, filt_pairD] at hc
  refine ret_ok (op2_ok hc (lsl_ok (xs := []) rfl (by decide)) ?_)
  show (eqOf M2 (.lst ((badL r rows).map D.int)) (.lst [])).map D.bl = _
  rw [eqOf_nil rfl, badL_nil]
  rfl
theorem le_is_row (ds : List D) (m : Mem) : LeR m (m_is_row ds m) (run 6 f_is_row ds m) := specOr_le (fun a m => is_row_run a.1 a.2 m) (fun _ _ => rfl) ds m
/-! ### what is refused -/
theorem filt_none {xs : List D} : xs.filter (fun _ => false) = [] := by
  induction xs with
  | nil => rfl
  | cons x r ih => exact ih
structure PieceOk (p : List Row) : Prop where
  one : 1 ≤ p.length
  most : p.length ≤ 12
  rows : ∀ r, r ∈ p → r.okB 200 = true
  ends : ∀ r, r ∈ p.take (p.length - 1) → r.ends = false
end
end LB

set_option Elab.async false
set_option linter.all false
set_option maxRecDepth 100000
set_option maxHeartbeats 0
namespace LB
open PySem PySem.Spec PyProof.Rows L2
def top (i : Nat) : Stmt := PySem.Challenge.pw_lateboxes_k20_texts_refused.main.body.getD i (.Pass ⟨0, 0, 0, 0⟩)
abbrev s_l_alike : Stmt := top 27
abbrev s_l_line : Stmt := top 35
abbrev s_l_mix : Stmt := top 25
abbrev s_l_next : Stmt := top 26
abbrev s_l_boxes : Stmt := top 30
abbrev s_l_number : Stmt := top 29
abbrev s_l_deed : Stmt := top 31
abbrev s_l_jump : Stmt := top 32
abbrev s_l_plain : Stmt := top 33
abbrev s_l_spoilt : Stmt := top 36
abbrev s_is_number : Stmt := top 14
abbrev s_is_row : Stmt := top 15
abbrev s_number_of : Stmt := top 21
abbrev s_row_of : Stmt := top 22
abbrev s_read : Stmt := top 23
abbrev s_need_program : Stmt := top 16
abbrev s_written : Stmt := top 20
abbrev s_law : Stmt := top 37
abbrev s_l_kind : Stmt := top 34
abbrev s_BadProgram___init__ : Stmt := inClass (top 2) 0
abbrev s_BadText___init__ : Stmt := inClass (top 8) 0
def fn : List He.DefD := [⟨("_law_alike", none), "_law_alike", "_law_alike", defArgs s_l_alike, defBody s_l_alike, defScope s_l_alike, [], []⟩,
  ⟨("_law_line", none), "_law_line", "_law_line", defArgs s_l_line, defBody s_l_line, defScope s_l_line, [], []⟩,
  ⟨("_law_mix", none), "_law_mix", "_law_mix", defArgs s_l_mix, defBody s_l_mix, defScope s_l_mix, [], []⟩,
  ⟨("_law_next", none), "_law_next", "_law_next", defArgs s_l_next, defBody s_l_next, defScope s_l_next, [], []⟩,
  ⟨("_law_boxes", none), "_law_boxes", "_law_boxes", defArgs s_l_boxes, defBody s_l_boxes, defScope s_l_boxes, [], []⟩,
  ⟨("_law_number", none), "_law_number", "_law_number", defArgs s_l_number, defBody s_l_number, defScope s_l_number, [], []⟩,
  ⟨("_law_deed", none), "_law_deed", "_law_deed", defArgs s_l_deed, defBody s_l_deed, defScope s_l_deed, [], []⟩,
  ⟨("_law_jump", none), "_law_jump", "_law_jump", defArgs s_l_jump, defBody s_l_jump, defScope s_l_jump, [], []⟩,
  ⟨("_law_plain", none), "_law_plain", "_law_plain", defArgs s_l_plain, defBody s_l_plain, defScope s_l_plain, [], []⟩,
  ⟨("_law_spoilt", none), "_law_spoilt", "_law_spoilt", defArgs s_l_spoilt, defBody s_l_spoilt, defScope s_l_spoilt, [], []⟩,
  ⟨("is_number", none), "is_number", "is_number", defArgs s_is_number, defBody s_is_number, defScope s_is_number, [], []⟩,
  ⟨("is_row", none), "is_row", "is_row", defArgs s_is_row, defBody s_is_row, defScope s_is_row, [], []⟩,
  ⟨("number_of", none), "number_of", "number_of", defArgs s_number_of, defBody s_number_of, defScope s_number_of, [], []⟩,
  ⟨("row_of", none), "row_of", "row_of", defArgs s_row_of, defBody s_row_of, defScope s_row_of, [], []⟩,
  ⟨("read", none), "read", "read", defArgs s_read, defBody s_read, defScope s_read, [], []⟩,
  ⟨("need_program", none), "need_program", "need_program", defArgs s_need_program, defBody s_need_program, defScope s_need_program, [], []⟩,
  ⟨("written", none), "written", "written", defArgs s_written, defBody s_written, defScope s_written, [], []⟩,
  ⟨("law", none), "law", "law", defArgs s_law, defBody s_law, defScope s_law, [], []⟩,
  ⟨("_law_kind", none), "_law_kind", "_law_kind", defArgs s_l_kind, defBody s_l_kind, defScope s_l_kind, [], []⟩,
  ⟨("BadProgram", some "__init__"), "__init__", "BadProgram.__init__", defArgs s_BadProgram___init__, defBody s_BadProgram___init__, defScope s_BadProgram___init__, [], []⟩,
  ⟨("BadText", some "__init__"), "__init__", "BadText.__init__", defArgs s_BadText___init__, defBody s_BadText___init__, defScope s_BadText___init__, [], []⟩]
def fa : List He.Fa := [.free "range", .free "len", .glo "_law_kind", .free "tuple", .free "str", .free "isinstance", .glo "BadProgram", .int "MOST_ROWS" 200, .int "BOXES" 8, .int "RING" 1000, .free "zip", .free "int", .free "bool", .glo "BadText", .int "MOST_FIGURES" 3, .str "FIGURES" "0123456789", .free "max", .free "min", .free "list", .free "dict", .glo "BadMill", .glo "BadCells", .glo "BadFuel", .glo "BadPiece", .glo "TooMany", .free "ValueError", .glo "LateError", .meth "BadProgram" "__init__", .meth "BadText" "__init__", .glo "_law_alike", .glo "_law_line", .glo "_law_mix", .glo "_law_next", .glo "_law_boxes", .glo "_law_number", .glo "_law_deed", .glo "_law_jump", .glo "_law_plain", .glo "_law_spoilt", .glo "is_number", .glo "is_row", .glo "number_of", .glo "row_of", .glo "read", .glo "need_program", .glo "written", .glo "law", .glo "FORMS"]
def ts : List He.Tab := [((fun K => He.ga K "FORMS"), ["put", "move", "add", "take", "times", "get", "set", "say", "rest", "go", "if", "stop"])]
def ex : PySem.W.Frag → Bool := fun K => kitB K && (fldB K && (iniB K "BadProgram" "row" && (iniB K "BadText" "line" && (tabB K (He.ga K "FORMS") tbF))))
def tfL : List He.Defn := [("law", none)]
section
variable {Pg : Program} {w : World} {K : PySem.W.Frag} {mg : Str → Option Value} {base : Heap}
end
abbrev R : PySem.W.OpenRow := PySem.W.OpenLaw.row PySem.Challenge.rw_lateboxes_k20_texts_refused
abbrev hk : PySem.W.Hook := hookY 4 fa fn ts tfL ex
def ob (s : PySem.W.SharedT) : He.AlX := obsY 4 fa fn ts tfL ex (HandSHeadRun.getT s)
def loose : List Str := (["LateError", "BadProgram", "BadMill", "BadCells", "BadFuel", "BadPiece", "TooMany", "BadText", "BOXES", "RING", "MOST_ROWS", "FORMS", "is_number", "is_row", "need_program", "FIGURES", "MOST_FIGURES", "written", "number_of", "row_of", "read", "_law_mix", "_law_next", "_law_alike", "_law_mill", "_law_number", "_law_boxes", "_law_deed", "_law_jump", "_law_plain"] : List Str) ++ (["_law_kind", "_law_line", "_law_spoilt"] : List Str)
def RE (w : World) : Prop := HandSHeadRun.RunEq R (PySem.W.view R.prog [37]) hk ob 6000 loose w
theorem run0 (w : World) : RE (w.withFollow "special-get-raises" false) := by
  intro os
  kernel_rfl
theorem run1 (w : World) : RE (w.withFollow "special-get-raises" true) := by
  intro os
  kernel_rfl
theorem runAll (w : World) : RE w := PySem.W.byRow2 "special-get-raises" (P := RE) run0 run1 w
end LB
open PySem PySem.W PySem.Calls PyProof.Rows
set_option Elab.async false
set_option linter.all false
set_option autoImplicit false
set_option maxRecDepth 100000
set_option maxHeartbeats 1000000
/-! Pure: the laws' own draws. -/
namespace LB
open PySem
noncomputable section
/-! ### steps of a run that draws -/
section
variable {ρ : Ev} {m : Mem} {e : Er → Mem → Prop}
theorem asg_wp {a : SE} {g : SG} {q : Fl × Ev → Mem → Prop} (h : WP (a ρ m) (fun d m1 => ∃ ρ1, g d ρ = some ρ1 ∧ q (.nx, ρ1) m1) e) : WP (sAsg a g ρ m) q e := by
  unfold sAsg
  refine .bind (h.mono fun d m1 z => ?_)
  obtain ⟨ρ1, h1, h2⟩ := z
  rw [h1]
  exact .ok h2
theorem ret_wp {a : SE} {q : Fl × Ev → Mem → Prop} (h : WP (a ρ m) (fun d m1 => q (.rt d, ρ) m1) e) : WP (sRet a ρ m) q e := .bind (h.mono fun d m1 z => .ok z)
theorem if_wp {t : SB} {a b : SS} {q : Fl × Ev → Mem → Prop} (h : WP (t ρ m) (fun c m1 => WP ((if c = true then a ρ else b ρ) m1) q e) e) : WP (sIf t a b ρ m) q e := .bind h
theorem if_yes_wp {t : SB} {a b : SS} {m1 : Mem} {q : Fl × Ev → Mem → Prop} (h : t ρ m = .ok true m1) (ha : WP (a ρ m1) q e) : WP (sIf t a b ρ m) q e := by
  rw [if_yes h]
  exact ha
theorem if_no_wp {t : SB} {a b : SS} {m1 : Mem} {q : Fl × Ev → Mem → Prop} (h : t ρ m = .ok false m1) (hb : WP (b ρ m1) q e) : WP (sIf t a b ρ m) q e := by
  rw [if_no h]
  exact hb
theorem ifE_wp {t : SB} {a b : SE} {q : D → Mem → Prop} (h : WP (t ρ m) (fun c m1 => WP ((if c = true then a ρ else b ρ) m1) q e) e) : WP (ifE t a b ρ m) q e := .bind h
theorem tV_wp {a : SE} {q : Bool → Mem → Prop} (h : WP (a ρ m) (fun d m1 => ∃ b, d = .bl b ∧ q b m1) e) : WP (tV a ρ m) q e := by
  unfold tV
  refine .bind (h.mono fun d m1 z => ?_)
  obtain ⟨b, rfl, h1⟩ := z
  exact .ok h1
theorem op2_wp {g : O2} {a b : SE} {q : D → Mem → Prop} (h : WP (a ρ m) (fun x m1 => WP (b ρ m1) (fun y m2 => ∃ d, g x y m2 = some d ∧ q d m2) e) e) : WP (op2 g a b ρ m) q e := by
  unfold op2
  refine .bind (h.mono fun x m1 z => .bind (z.mono fun y m2 z => ?_))
  obtain ⟨d, h1, h2⟩ := z
  rw [h1]
  exact .ok h2
theorem opN_wp {g : ON} {a : SA} {q : D → Mem → Prop} (h : WP (a ρ m) (fun xs m1 => ∃ d, g xs m1 = some d ∧ q d m1) e) : WP (opN g a ρ m) q e := by
  unfold opN
  refine .bind (h.mono fun x m1 z => ?_)
  obtain ⟨d, h1, h2⟩ := z
  rw [h1]
  exact .ok h2
theorem argC_wp {a : SE} {r : SA} {q : List D → Mem → Prop} (h : WP (a ρ m) (fun x m1 => WP (r ρ m1) (fun xs m2 => q (x :: xs) m2) e) e) : WP (argC a r ρ m) q e := by
  unfold argC
  exact .bind (h.mono fun x m1 z => .bind (z.mono fun xs m2 z => .ok z))
theorem argN_wp {q : List D → Mem → Prop} (h : q [] m) : WP (argN ρ m) q e := .ok h
theorem callN_wp {np : Nat} {f : Fn} {a : SA} {q : D → Mem → Prop} (h : WP (a ρ m) (fun xs m1 => xs.length = np ∧ WP (f xs m1) q e) e) : WP (callN np f a ρ m) q e := by
  unfold callN
  refine .bind (h.mono fun xs m1 z => ?_)
  rw [if_pos z.1]
  exact z.2
theorem tpl_wp {a : SA} {q : D → Mem → Prop} (h : WP (a ρ m) (fun xs m1 => xs.length ≤ 1000 ∧ q (.tup xs) m1) e) : WP (tpl a ρ m) q e := by
  unfold tpl capE
  refine .bind (h.mono fun xs m1 z => ?_)
  rw [if_pos z.1]
  exact .ok z.2
theorem lsl_wp {a : SA} {q : D → Mem → Prop} (h : WP (a ρ m) (fun xs m1 => xs.length ≤ 1000 ∧ q (.lst xs) m1) e) : WP (lsl a ρ m) q e := by
  unfold lsl capE
  refine .bind (h.mono fun xs m1 z => ?_)
  rw [if_pos z.1]
  exact .ok z.2
theorem comp_wp {it : SI} {g : SG} {t : SB} {f : SE} {own : List Nat} {q : D → Mem → Prop} (h : WP (compL it g t f own ρ m) (fun ys m1 => q (.lst ys) m1) e) : WP (comp it g t f own ρ m) q e := .bind (h.mono fun ys m1 z => .ok z)
theorem asgU_wp {a : SE} {is : List Nat} {q : Fl × Ev → Mem → Prop} (h : WP (a ρ m) (fun d m1 => ∃ ρ1, gUl is m1 d ρ = some ρ1 ∧ q (.nx, ρ1) m1) e) : WP (sAsgU a is ρ m) q e := by
  unfold sAsgU
  refine .bind (h.mono fun d m1 z => ?_)
  obtain ⟨ρ1, h1, h2⟩ := z
  rw [h1]
  exact .ok h2
theorem prN_wp {q : List (D × D) → Mem → Prop} (h : q [] m) : WP (prE [] ρ m) q e := .ok h
theorem prC_wp {k v : SE} {r : List (SE × SE)} {q : List (D × D) → Mem → Prop} (h : WP (k ρ m) (fun kd m1 => WP (v ρ m1) (fun vd m2 => WP (prE r ρ m2) (fun xs m3 => q ((kd, vd) :: xs) m3) e) e) e) : WP (prE ((k, v) :: r) ρ m) q e :=
  .bind (h.mono fun kd m1 z => .bind (z.mono fun vd m2 z => .bind (z.mono fun xs m3 z => .ok z)))
theorem dget2_wp {ps : List (SE × SE)} {k x : SE} {q : D → Mem → Prop} (h : WP (prE ps ρ m) (fun xs m1 => ∃ (kvs : List (KeyS × D)) (kd xd : D) (key : KeyS), keysOf xs = some kvs ∧ kvs.length ≤ 15 ∧ k ρ (m1.new (.dct (mergeD [] kvs))) = .ok kd (m1.new (.dct (mergeD [] kvs))) ∧ keyOf kd = some key ∧
      x ρ (m1.new (.dct (mergeD [] kvs))) = .ok xd (m1.new (.dct (mergeD [] kvs))) ∧ q ((valK (mergeD [] kvs) key).getD xd) (m1.new (.dct (mergeD [] kvs)))) e) : WP (dget2 (dspE ps) k x ρ m) q e := by
  have e1 : dget2 (dspE ps) k x ρ m = M.bind (prE ps ρ) (fun xs => M.bind (dspK xs) fun dd => M.bind (fun m => if isDct m dd = true then .ok () m else .bad) fun _ => M.bind (k ρ) fun kk => M.bind (x ρ) fun xx => fun m => lift ((dctOf m dd).bind fun kvs => (keyOf kk).map fun k => (valK kvs k).getD xx) m) m := by
    unfold dget2 dspE M.bind
    cases prE ps ρ m <;> rfl
  rw [e1]
  refine .bind (h.mono fun xs m1 z => ?_)
  obtain ⟨kvs, kd, xd, key, h1, h2, h3, h4, h5, h6⟩ := z
  have hd : dspK xs m1 = .ok (.loc m1.n) (m1.new (.dct (mergeD [] kvs))) := by
    unfold dspK
    rw [h1]
    exact if_pos h2
  have hi : (fun m => if isDct m (.loc m1.n) = true then Rs.ok () m else .bad) (m1.new (.dct (mergeD [] kvs))) = .ok () (m1.new (.dct (mergeD [] kvs))) := by
    refine if_pos ?_
    unfold isDct
    rw [dctOf_new]
    rfl
  rw [bind_ok hd, bind_ok hi, bind_ok h3, bind_ok h5, dctOf_new, h4]
  exact .ok h6
theorem sNext_wp {q : Fl × Ev → Mem → Prop} (h : q (.nx, ρ) m) : WP (sNext ρ m) q e := .ok h
end
/-! ### what is drawn from -/
structure Drw (k c : Nat) (m : Mem) : Prop where
  kn : k < m.n
  cn : c < m.n
  ne : k ≠ c
  at_ : ∃ (a p : Int) (xs : List Int), 0 ≤ a ∧ 0 ≤ p ∧ xs.length ≤ 1000 ∧ m.get k = some (.lst [.int a, .loc c, .int p]) ∧ m.get c = some (.lst (xs.map D.int))
structure Same (k c : Nat) (m m2 : Mem) : Prop where
  n : m.n ≤ m2.n
  at_ : ∀ j, j < m.n → j ≠ k → j ≠ c → m2.get j = m.get j
theorem Same.refl (k c : Nat) (m : Mem) : Same k c m m := ⟨Nat.le_refl _, fun _ _ _ _ => rfl⟩
theorem Same.trans {k c : Nat} {m1 m2 m3 : Mem} (a : Same k c m1 m2) (b : Same k c m2 m3) : Same k c m1 m3 := ⟨Nat.le_trans a.n b.n, fun j h h1 h2 => (b.at_ j (Nat.lt_of_lt_of_le h a.n) h1 h2).trans (a.at_ j h h1 h2)⟩
theorem Same.new {k c : Nat} {m1 m2 : Mem} {o : MO} (a : Same k c m1 m2) : Same k c m1 (m2.new o) := ⟨Nat.le_trans a.n (Nat.le_succ _), fun j h h1 h2 => ((Keep.new m2 o).at_ j (Nat.lt_of_lt_of_le h a.n)).trans (a.at_ j h h1 h2)⟩
theorem Keep.same {k c : Nat} {m1 m2 : Mem} (a : Keep m1 m2) : Same k c m1 m2 := ⟨a.n, fun j h _ _ => a.at_ j h⟩
theorem Drw.keep {k c : Nat} {m m2 : Mem} (d : Drw k c m) (a : Keep m m2) : Drw k c m2 := by
  obtain ⟨x, p, xs, h1, h2, h3, h4, h5⟩ := d.at_
  exact ⟨Nat.lt_of_lt_of_le d.kn a.n, Nat.lt_of_lt_of_le d.cn a.n, d.ne, x, p, xs, h1, h2, h3, (a.at_ _ d.kn).trans h4, (a.at_ _ d.cn).trans h5⟩
theorem lstOf_at {m : Mem} {k : Nat} {xs : List D} (h : k < m.n) (g : m.get k = some (.lst xs)) : lstOf m (.loc k) = some xs := by
  show (if k < m.n then (match m.get k with
    | some (.lst xs) => some xs
    | _ => none) else none) = some xs
  rw [if_pos h, g]
theorem gIx_lst {m : Mem} {d : D} {xs : List D} {i : Nat} {x : D} (h : sqOf m d = some xs) (hd : ∀ z, d ≠ .str z) (hx : xs[i]? = some x) : gIx d (.int i) m = some x := by
  have hi : i < xs.length := by
    by_cases c : i < xs.length
    · exact c
    · rw [List.getElem?_eq_none (by omega)] at hx
      cases hx
  have e : gIx d (.int i) m = (sqOf m d).bind fun xs => atD xs (i : Int) := by
    cases d <;> first
      | rfl
      | exact absurd rfl (hd _)
  rw [e, h]
  show (ixD xs.length (i : Int)).bind (fun j => xs[j]?) = some x
  unfold ixD
  rw [if_pos (Int.natCast_nonneg i), if_pos (by omega)]
  exact hx
theorem gIx_loc {m : Mem} {k : Nat} {xs : List D} {i : Nat} {x : D} (h : k < m.n) (g : m.get k = some (.lst xs)) (hx : xs[i]? = some x) : gIx (.loc k) (.int i) m = some x := gIx_lst (lstOf_at h g) (fun _ h => by cases h) hx
theorem put_at (m : Mem) (k : Nat) (o : MO) : (m.put k o).get k = some o := if_pos rfl
theorem put_ne {m : Mem} {k j : Nat} {o : MO} (h : j ≠ k) : (m.put k o).get j = m.get j := if_neg h
theorem lput_ok {l i f : SE} {ρ : Ev} {m : Mem} {k j : Nat} {xs : List D} {d : D} {v : Int} (hf : f ρ m = .ok d m) (hl : l ρ m = .ok (.loc k) m) (hi : i ρ m = .ok (.int v) m) (hk : k < m.n) (hg : m.get k = some (.lst xs)) (hx : ixD xs.length v = some j) : sLput l i f ρ m = .ok (.nx, ρ) (m.put k (.lst (xs.set j d))) := by
  unfold sLput
  rw [bind_ok hf, bind_ok hl, bind_ok hi]
  have h : lputK (.loc k) (.int v) d m = .ok () (m.put k (.lst (xs.set j d))) := by
    show (if k < m.n then (match m.get k with
      | some (.lst xs) => match (ixD xs.length v).map fun j => xs.set j d with
        | some ys => (Rs.ok () (m.put k (.lst ys)) : Rs Unit)
        | none => Rs.bad
      | _ => Rs.bad) else Rs.bad) = _
    rw [if_pos hk, hg]
    simp only [hx, Option.map_some]
  rw [bind_ok h]
  rfl
theorem ixD_nat {n i : Nat} (h : i < n) : ixD n (i : Int) = some i := by
  unfold ixD
  rw [if_pos (Int.natCast_nonneg i), if_pos (by omega)]
  rfl
theorem gMod_ok (i j : Int) (m : Mem) (h : 0 < j) : gMod (.int i) (.int j) m = some (.int (i % j)) := by
  show (if decide (j ≠ 0) = true then some (D.int (i.fmod j)) else none) = _
  rw [decide_eq_true (by omega), if_pos rfl, Int.fmod_eq_emod_of_nonneg _ (by omega)]
theorem gFdiv_ok (i j : Int) (m : Mem) (h : 0 < j) (h2 : j < 1073741824) : gFdiv (.int i) (.int j) m = some (.int (i / j)) := by
  show (if (decide (j ≠ 0) && decide (j.natAbs < 1073741824)) = true then some (D.int (i.fdiv j)) else none) = _
  rw [decide_eq_true (by omega), decide_eq_true (by omega), Bool.and_self, if_pos rfl, Int.fdiv_eq_ediv_of_nonneg _ (by omega)]
theorem gMul_r (i j : Int) (m : Mem) (h : small64 j = true) : gMul (.int i) (.int j) m = some (.int (i * j)) := by
  show (if (small64 i || small64 j) = true then some (D.int (i * j)) else none) = _
  rw [h, Bool.or_true, if_pos rfl]
/-! ### _law_next -/
def f_l_next : SS := sSeq (sAsg (op2 gMod (op2 gIx (vr 0) (cn (.int 2))) (opN gMax2 (argC (cn (.int 1)) (argC (opN gLen (argC (op2 gIx (vr 0) (cn (.int 1))) (argN))) (argN))))) (gNm 2)) (sSeq (sAsg (ifE (tV (op2 gNe (op2 gIx (vr 0) (cn (.int 1))) (lsl (argN)))) (op2 gIx (op2 gIx (vr 0) (cn (.int 1))) (vr 2)) (cn (.int 0))) (gNm 3)) (sSeq (sIf (tV (op2 gGe (vr 3) (op2 gPow (cn (.int 10)) (cn (.int 18))))) (sSeq (sLput (op2 gIx (vr 0) (cn (.int 1))) (vr 2) (op2 gFdiv (vr 3) (vr 1))) (sRet (op2 gMod (vr 3) (vr 1)))) (sNext)) (sSeq (sLput (vr 0) (cn (.int 0)) (op2 gMod (op2 gAdd (op2 gAdd (op2 gMul (op2 gIx (vr 0) (cn (.int 0))) (cn (.int 48271))) (op2 gMul (vr 3) (cn (.int 69621)))) (cn (.int 11))) (cn (.int 2147483647)))) (sSeq (sLput (vr 0) (cn (.int 2)) (op2 gAdd (op2 gIx (vr 0) (cn (.int 2))) (cn (.int 1)))) (sRet (op2 gMod (op2 gFdiv (op2 gIx (vr 0) (cn (.int 0))) (cn (.int 7))) (vr 1)))))))
def m_l_next : Fn := run 4 f_l_next
theorem le_l_next (ds : List D) (m : Mem) : LeR m (m_l_next ds m) (run 4 f_l_next ds m) := .same _
def Dq (k c : Nat) (m : Mem) (n : Int) : D → Mem → Prop := fun d m2 => ∃ v : Int, d = .int v ∧ 0 ≤ v ∧ v < n ∧ Drw k c m2 ∧ Same k c m m2 ∧ m2.n = m.n
theorem next_wp {k c : Nat} {m : Mem} {n : Int} (h : Drw k c m) (h0 : 0 < n) (h1 : n < 1073741824) : WP (m_l_next [.loc k, .int n] m) (Dq k c m n) fun _ _ => False := by
  obtain ⟨hk, hc, hne, a, p, xs, ha, hp, hlen, gk, gc⟩ := h
  unfold m_l_next
  refine run_wp ?_
  unfold f_l_next
  have hsz : (1000 : Nat) < sizeLine := by decide
  have i0 : gIx (.loc k) (.int 0) m = some (.int a) := gIx_loc (i := 0) hk gk rfl
  have i1 : gIx (.loc k) (.int 1) m = some (.loc c) := gIx_loc (i := 1) hk gk rfl
  have i2 : gIx (.loc k) (.int 2) m = some (.int p) := gIx_loc (i := 2) hk gk rfl
  have lc : lstOf m (.loc c) = some (xs.map D.int) := lstOf_at hc gc
  have gl : gLen [.loc c] m = some (.int xs.length) := by
    show (if c < m.n then (match m.get c with
      | some (.lst xs) => some (D.int xs.length)
      | some (.dct kvs) => some (D.int kvs.length)
      | _ => none) else none) = _
    rw [if_pos hc, gc]
    simp only [List.length_map]
  let mx : Int := if (xs.length : Int) > 1 then (xs.length : Int) else 1
  have hmx : 0 < mx := by
    show 0 < (if (xs.length : Int) > 1 then (xs.length : Int) else 1)
    split <;> omega
  let at_ : Int := p % mx
  have hat : 0 ≤ at_ := Int.emod_nonneg _ (by omega)
  have hat2 : at_ < mx := Int.emod_lt_of_pos _ hmx
  refine seq_then (asg_ok (d := .int at_) (op2_ok (x := .int p) (y := .int mx) (m1 := m) (m2 := m) (op2_ok rfl rfl i2) (opN_ok (arg2_ok (y := .int xs.length) rfl (opN_ok (arg1_ok (op2_ok rfl rfl i1)) gl)) rfl) (gMod_ok _ _ _ hmx)) rfl) ?_
  have hcell : ∃ cell : Int, ifE (tV (op2 gNe (op2 gIx (vr 0) (cn (.int 1))) (lsl (argN)))) (op2 gIx (op2 gIx (vr 0) (cn (.int 1))) (vr 2)) (cn (.int 0)) [some (.loc k), some (.int n), some (.int at_), none] m = .ok (.int cell) m ∧ (xs ≠ [] → at_.toNat < xs.length) ∧ (xs = [] → cell = 0) := by
    have ht : tV (op2 gNe (op2 gIx (vr 0) (cn (.int 1))) (lsl (argN))) [some (.loc k), some (.int n), some (.int at_), none] m = .ok (!xs.isEmpty) m := by
      refine tV_ok (op2_ok (op2_ok rfl rfl i1) (lsl_ok (xs := []) rfl (by decide)) ?_)
      show (eqOf m (.loc c) (.lst [])).map (fun b => D.bl (!b)) = _
      rw [eqOf_nil lc]
      rfl
    rw [ifE_ok ht]
    by_cases hx : xs = []
    · subst hx
      exact ⟨0, rfl, fun h => absurd rfl h, fun _ => rfl⟩
    · have hpos : 0 < xs.length := List.length_pos_iff.mpr hx
      have hlt : at_.toNat < xs.length := by
        have h3 : mx ≤ xs.length := by
          show (if (xs.length : Int) > 1 then (xs.length : Int) else 1) ≤ _
          split <;> omega
        omega
      have he : (!xs.isEmpty) = true := by
        cases xs with
        | nil => exact absurd rfl hx
        | cons _ _ => rfl
      rw [he]
      simp only [if_true]
      refine ⟨xs[at_.toNat], op2_ok (x := .loc c) (y := .int (at_.toNat : Nat)) (m1 := m) (op2_ok rfl rfl i1) ?_ (gIx_loc hc gc (by rw [List.getElem?_map, List.getElem?_eq_getElem hlt]; rfl)), fun _ => hlt, fun h => absurd h hx⟩
      rw [Int.toNat_of_nonneg hat]
      rfl
  obtain ⟨cell, hce, hin, h00⟩ := hcell
  refine seq_then (asg_ok hce rfl) ?_
  have hge : tV (op2 gGe (vr 3) (op2 gPow (cn (.int 10)) (cn (.int 18)))) [some (.loc k), some (.int n), some (.int at_), some (.int cell)] m = .ok (decide ((1000000000000000000 : Int) ≤ cell)) m := tV_ok (op2_ok rfl (op2_ok rfl rfl (d := .int 1000000000000000000) rfl) rfl)
  by_cases hbig : (1000000000000000000 : Int) ≤ cell
  · rw [decide_eq_true hbig] at hge
    have hx : xs ≠ [] := fun h => by have := h00 h; omega
    have hlt := hin hx
    refine seq_wp (if_yes_wp hge ?_)
    have hput := lput_ok (l := op2 gIx (vr 0) (cn (.int 1))) (i := vr 2) (f := op2 gFdiv (vr 3) (vr 1)) (ρ := [some (.loc k), some (.int n), some (.int at_), some (.int cell)]) (m := m) (k := c) (j := at_.toNat) (xs := xs.map D.int) (d := .int (cell / n)) (v := (at_.toNat : Nat)) (op2_ok rfl rfl (gFdiv_ok _ _ _ h0 h1)) (op2_ok rfl rfl i1) (by rw [Int.toNat_of_nonneg hat]; rfl) hc gc (ixD_nat (by rw [List.length_map]; exact hlt))
    refine seq_then hput ?_
    refine .eq (ret_ok (op2_ok rfl rfl (gMod_ok cell n _ h0))) ?_
    refine ⟨cell % n, rfl, Int.emod_nonneg _ (by omega), Int.emod_lt_of_pos _ h0, ⟨hk, hc, hne, a, p, xs.set at_.toNat (cell / n), ha, hp, by rw [List.length_set]; exact hlen, ?_, ?_⟩, ⟨Nat.le_refl _, fun j _ _ h2 => put_ne h2⟩, rfl⟩
    · rw [put_ne hne]
      exact gk
    · rw [put_at, List.map_set]
  · rw [decide_eq_false hbig] at hge
    refine seq_wp (if_no_wp hge (sNext_wp ?_))
    show WP _ _ _
    let a2 : Int := (a * 48271 + cell * 69621 + 11) % 2147483647
    have ha2 : 0 ≤ a2 := Int.emod_nonneg _ (by decide)
    have hput := lput_ok (l := vr 0) (i := cn (.int 0)) (f := op2 gMod (op2 gAdd (op2 gAdd (op2 gMul (op2 gIx (vr 0) (cn (.int 0))) (cn (.int 48271))) (op2 gMul (vr 3) (cn (.int 69621)))) (cn (.int 11))) (cn (.int 2147483647))) (ρ := [some (.loc k), some (.int n), some (.int at_), some (.int cell)]) (m := m) (k := k) (j := 0) (xs := [.int a, .loc c, .int p]) (d := .int a2) (v := 0)
      (op2_ok (op2_ok (op2_ok (op2_ok (op2_ok rfl rfl i0) rfl (gMul_r _ _ _ (by decide))) (op2_ok rfl rfl (gMul_r _ _ _ (by decide))) rfl) rfl rfl) rfl (gMod_ok _ _ _ (by decide))) rfl rfl hk gk rfl
    refine seq_then hput ?_
    have gk2 : (m.put k (.lst [.int a2, .loc c, .int p])).get k = some (.lst [.int a2, .loc c, .int p]) := put_at _ _ _
    have hput2 := lput_ok (l := vr 0) (i := cn (.int 2)) (f := op2 gAdd (op2 gIx (vr 0) (cn (.int 2))) (cn (.int 1))) (ρ := [some (.loc k), some (.int n), some (.int at_), some (.int cell)]) (m := m.put k (.lst [.int a2, .loc c, .int p])) (k := k) (j := 2) (xs := [.int a2, .loc c, .int p]) (d := .int (p + 1)) (v := 2) (op2_ok (op2_ok rfl rfl (gIx_loc (i := 2) hk gk2 rfl)) rfl rfl) rfl rfl hk gk2 rfl
    refine seq_then hput2 ?_
    have gk3 : ((m.put k (.lst [.int a2, .loc c, .int p])).put k (.lst [.int a2, .loc c, .int (p + 1)])).get k = some (.lst [.int a2, .loc c, .int (p + 1)]) := put_at _ _ _
    refine .eq (ret_ok (op2_ok (op2_ok (op2_ok rfl rfl (gIx_loc (i := 0) hk gk3 rfl)) rfl (gFdiv_ok _ _ _ (by decide) (by decide))) rfl (gMod_ok _ n _ h0))) ?_
    refine ⟨(a2 / 7) % n, rfl, Int.emod_nonneg _ (by omega), Int.emod_lt_of_pos _ h0, ⟨hk, hc, hne, a2, p + 1, xs, ha2, by omega, hlen, gk3, ?_⟩, ⟨Nat.le_refl _, fun j _ h2 _ => (put_ne h2).trans (put_ne h2)⟩, rfl⟩
    rw [put_ne (Ne.symm hne), put_ne (Ne.symm hne)]
    exact gc
theorem draw_e {k c : Nat} {m : Mem} {n : Int} {vh vn : SE} {ρ : Ev} {e : Er → Mem → Prop} {q : D → Mem → Prop} (hh : vh ρ m = .ok (.loc k) m) (hn : vn ρ m = .ok (.int n) m) (h : Drw k c m) (h0 : 0 < n) (h1 : n < 1073741824)
    (hq : ∀ (v : Int) (m2 : Mem), 0 ≤ v → v < n → Drw k c m2 → Same k c m m2 → m2.n = m.n → q (.int v) m2) : WP (callN 2 m_l_next (argC vh (argC vn (argN))) ρ m) q e := by
  rw [callN_ok (np := 2) (arg2_ok hh hn) rfl]
  refine (next_wp h h0 h1).any fun d m2 z => ?_
  obtain ⟨v, rfl, a1, a2, a3, a4, a5⟩ := z
  exact hq v m2 a1 a2 a3 a4 a5
/-! ### _law_mill -/
def Rq {α : Type} (k c : Nat) (m : Mem) (enc : α → D) (P : α → Prop) : D → Mem → Prop := fun d m2 => ∃ a, d = enc a ∧ P a ∧ Drw k c m2 ∧ Same k c m m2
/-! ### _law_number, _law_boxes -/
def f_l_number : SS := sRet (op2 gIx (lsl (argC (callN 2 m_l_next (argC (vr 0) (argC (cn (.int 4)) (argN)))) (argC (callN 2 m_l_next (argC (vr 0) (argC (cn (.int 1000)) (argN)))) (argN)))) (callN 2 m_l_next (argC (vr 0) (argC (cn (.int 2)) (argN)))))
def m_l_number : Fn := run 1 f_l_number
theorem le_l_number (ds : List D) (m : Mem) : LeR m (m_l_number ds m) (run 1 f_l_number ds m) := .same _
theorem number_wp {k c : Nat} {m : Mem} (h : Drw k c m) : WP (m_l_number [.loc k] m) (Dq k c m 1000) fun _ _ => False := by
  unfold m_l_number
  refine run_wp ?_
  unfold f_l_number
  refine ret_wp (op2_wp (lsl_wp (argC_wp (draw_e rfl rfl h (by decide) (by decide) fun v m2 v0 v1 d2 s2 n2 => argC_wp (draw_e rfl rfl d2 (by decide) (by decide) fun u m3 u0 u1 d3 s3 n3 => argN_wp ⟨(by decide : 2 ≤ 1000), ?_⟩)))))
  refine draw_e rfl rfl d3 (by decide) (by decide) fun w m4 w0 w1 d4 s4 n4 => ?_
  have hz : w = 0 ∨ w = 1 := by omega
  rcases hz with rfl | rfl
  · exact ⟨.int v, rfl, v, rfl, v0, by omega, d4, (s2.trans s3).trans s4, by rw [n4, n3, n2]⟩
  · exact ⟨.int u, rfl, u, rfl, u0, u1, d4, (s2.trans s3).trans s4, by rw [n4, n3, n2]⟩
def f_l_boxes : SS := sRet (tpl (argC (callN 2 m_l_next (argC (vr 0) (argC (cn (.int 8)) (argN)))) (argC (op2 gIx (lsl (argC (cn (.int 2)) (argC (cn (.int 3)) (argC (cn (.int 8)) (argN))))) (callN 2 m_l_next (argC (vr 0) (argC (cn (.int 3)) (argN))))) (argN))))
def m_l_boxes : Fn := run 1 f_l_boxes
theorem le_l_boxes (ds : List D) (m : Mem) : LeR m (m_l_boxes ds m) (run 1 f_l_boxes ds m) := .same _
structure Bx where
  b : Int
  w : Int
def Bx.enc (x : Bx) : D := .tup [.int x.b, .int x.w]
def Bx.ok (x : Bx) : Prop := 0 ≤ x.b ∧ x.b < 8 ∧ 0 < x.w ∧ x.w ≤ 8
theorem boxes_wp {k c : Nat} {m : Mem} (h : Drw k c m) : WP (m_l_boxes [.loc k] m) (Rq k c m Bx.enc Bx.ok) fun _ _ => False := by
  unfold m_l_boxes
  refine run_wp ?_
  unfold f_l_boxes
  refine ret_wp (tpl_wp (argC_wp (draw_e rfl rfl h (by decide) (by decide) fun v m2 v0 v1 d2 s2 n2 => argC_wp (op2_wp (.eq (x := .lst [.int 2, .int 3, .int 8]) (m := m2) rfl ?_)))))
  refine draw_e rfl rfl d2 (by decide) (by decide) fun w m4 w0 w1 d4 s4 n4 => ?_
  have hz : w = 0 ∨ w = 1 ∨ w = 2 := by omega
  rcases hz with rfl | rfl | rfl
  · exact ⟨.int 2, rfl, argN_wp ⟨(show 2 ≤ 1000 by decide), ⟨v, 2⟩, rfl, ⟨v0, v1, (show (0 : Int) < 2 by decide), (show (2 : Int) ≤ 8 by decide)⟩, d4, s2.trans s4⟩⟩
  · exact ⟨.int 3, rfl, argN_wp ⟨(show 2 ≤ 1000 by decide), ⟨v, 3⟩, rfl, ⟨v0, v1, (show (0 : Int) < 3 by decide), (show (3 : Int) ≤ 8 by decide)⟩, d4, s2.trans s4⟩⟩
  · exact ⟨.int 8, rfl, argN_wp ⟨(show 2 ≤ 1000 by decide), ⟨v, 8⟩, rfl, ⟨v0, v1, (show (0 : Int) < 8 by decide), (show (8 : Int) ≤ 8 by decide)⟩, d4, s2.trans s4⟩⟩
/-! ### _law_deed -/
def f_l_deed : SS := sSeq (sAsg (lsl (argC (cn (.str (Str.ofString "put"))) (argC (cn (.str (Str.ofString "put"))) (argC (cn (.str (Str.ofString "move"))) (argC (cn (.str (Str.ofString "add"))) (argC (cn (.str (Str.ofString "add"))) (argC (cn (.str (Str.ofString "take"))) (argC (cn (.str (Str.ofString "times"))) (argC (cn (.str (Str.ofString "times"))) (argC (cn (.str (Str.ofString "get"))) (argC (cn (.str (Str.ofString "get"))) (argC (cn (.str (Str.ofString "set"))) (argC (cn (.str (Str.ofString "set"))) (argC (cn (.str (Str.ofString "say"))) (argC (cn (.str (Str.ofString "say"))) (argN)))))))))))))))) (gNm 2)) (sSeq (sAsg (op2 gIx (op2 gAdd (vr 2) (lsl (argC (cn (.str (Str.ofString "rest"))) (argN)))) (callN 2 m_l_next (argC (vr 0) (argC (cn (.int 15)) (argN))))) (gNm 3)) (sSeq (sAsgU (comp (itRng1 (argC (cn (.int 3)) (argN))) (gNm 7) (LB.tYes) (op2 gMod (op2 gAdd (op2 gIx (vr 1) (cn (.int 0))) (callN 2 m_l_next (argC (vr 0) (argC (op2 gIx (vr 1) (cn (.int 1))) (argN))))) (cn (.int 8))) [7]) [4, 5, 6]) (sSeq (sIf (tV (op2 gIn (vr 3) (tpl (argC (cn (.str (Str.ofString "add"))) (argC (cn (.str (Str.ofString "take"))) (argC (cn (.str (Str.ofString "times"))) (argN))))))) (sRet (tpl (argC (vr 3) (argC (vr 4) (argC (vr 5) (argC (vr 6) (argN))))))) (sNext)) (sRet (dget2 (dspE [(cn (.str (Str.ofString "put")), tpl (argC (vr 3) (argC (vr 4) (argC (callN 1 m_l_number (argC (vr 0) (argN))) (argN))))), (cn (.str (Str.ofString "say")), tpl (argC (vr 3) (argC (vr 5) (argN)))), (cn (.str (Str.ofString "rest")), tpl (argC (vr 3) (argN)))]) (vr 3) (tpl (argC (vr 3) (argC (vr 4) (argC (vr 5) (argN))))))))))
def m_l_deed : Fn := run 8 f_l_deed
theorem le_l_deed (ds : List D) (m : Mem) : LeR m (m_l_deed ds m) (run 8 f_l_deed ds m) := .same _
def words15 : List D := [.str "put", .str "put", .str "move", .str "add", .str "add", .str "take", .str "times", .str "times", .str "get", .str "get", .str "set", .str "set", .str "say", .str "say", .str "rest"]
theorem word15 {v : Int} (h0 : 0 ≤ v) (h1 : v < 15) : ∃ i, i < 9 ∧ ∀ m, gIx (.lst words15) (.int v) m = some (.str (wordAt i)) := by
  have hz : v = 0 ∨ v = 1 ∨ v = 2 ∨ v = 3 ∨ v = 4 ∨ v = 5 ∨ v = 6 ∨ v = 7 ∨ v = 8 ∨ v = 9 ∨ v = 10 ∨ v = 11 ∨ v = 12 ∨ v = 13 ∨ v = 14 := by omega
  rcases hz with rfl | rfl | rfl | rfl | rfl | rfl | rfl | rfl | rfl | rfl | rfl | rfl | rfl | rfl | rfl
  · exact ⟨0, by decide, fun _ => rfl⟩
  · exact ⟨0, by decide, fun _ => rfl⟩
  · exact ⟨1, by decide, fun _ => rfl⟩
  · exact ⟨2, by decide, fun _ => rfl⟩
  · exact ⟨2, by decide, fun _ => rfl⟩
  · exact ⟨3, by decide, fun _ => rfl⟩
  · exact ⟨4, by decide, fun _ => rfl⟩
  · exact ⟨4, by decide, fun _ => rfl⟩
  · exact ⟨5, by decide, fun _ => rfl⟩
  · exact ⟨5, by decide, fun _ => rfl⟩
  · exact ⟨6, by decide, fun _ => rfl⟩
  · exact ⟨6, by decide, fun _ => rfl⟩
  · exact ⟨7, by decide, fun _ => rfl⟩
  · exact ⟨7, by decide, fun _ => rfl⟩
  · exact ⟨8, by decide, fun _ => rfl⟩
structure DeedOk (r : Row) : Prop where
  ok : ∀ rows, r.okB rows = true
  ends : r.ends = false
def in8 (v : Int) : Prop := 0 ≤ v ∧ v < 8
theorem okB8 {rows v : Int} {s : Nat} (h : in8 v) (hs : s < 2) : (decide (0 ≤ v) && decide (v ≤ most rows s - 1)) = true := by
  have e : most rows s = 8 := by
    have hz : s = 0 ∨ s = 1 := by omega
    rcases hz with rfl | rfl <;> rfl
  rw [e, decide_eq_true h.1, decide_eq_true (by have := h.2; omega)]
  rfl
theorem ok1 {rows a : Int} {s : Nat} (ha : in8 a) (hs : s < 2) : (([a] : List Int).zip [s]).all (fun q => decide (0 ≤ q.1) && decide (q.1 ≤ most rows q.2 - 1)) = true := by
  show ((decide (0 ≤ a) && decide (a ≤ most rows s - 1)) && true) = true
  rw [okB8 ha hs]
  rfl
theorem ok2 {rows a b : Int} {s t : Nat} (ha : in8 a) (hb : in8 b) (hs : s < 2) (ht : t < 2) : (([a, b] : List Int).zip [s, t]).all (fun q => decide (0 ≤ q.1) && decide (q.1 ≤ most rows q.2 - 1)) = true := by
  show ((decide (0 ≤ a) && decide (a ≤ most rows s - 1)) && ((decide (0 ≤ b) && decide (b ≤ most rows t - 1)) && true)) = true
  rw [okB8 ha hs, okB8 hb ht]
  rfl
theorem ok3 {rows a b c : Int} {s t u : Nat} (ha : in8 a) (hb : in8 b) (hc : in8 c) (hs : s < 2) (ht : t < 2) (hu : u < 2) : (([a, b, c] : List Int).zip [s, t, u]).all (fun q => decide (0 ≤ q.1) && decide (q.1 ≤ most rows q.2 - 1)) = true := by
  show ((decide (0 ≤ a) && decide (a ≤ most rows s - 1)) && ((decide (0 ≤ b) && decide (b ≤ most rows t - 1)) && ((decide (0 ≤ c) && decide (c ≤ most rows u - 1)) && true))) = true
  rw [okB8 ha hs, okB8 hb ht, okB8 hc hu]
  rfl
theorem mod8 (v : Int) : in8 (v % 8) := ⟨Int.emod_nonneg _ (by decide), Int.emod_lt_of_pos _ (by decide)⟩
abbrev deedE : SE := dget2 (dspE [(cn (.str (Str.ofString "put")), tpl (argC (vr 3) (argC (vr 4) (argC (callN 1 m_l_number (argC (vr 0) (argN))) (argN))))), (cn (.str (Str.ofString "say")), tpl (argC (vr 3) (argC (vr 5) (argN)))), (cn (.str (Str.ofString "rest")), tpl (argC (vr 3) (argN)))]) (vr 3) (tpl (argC (vr 3) (argC (vr 4) (argC (vr 5) (argN)))))
theorem deed_tail {k c : Nat} {m : Mem} {ρ : Ev} {w : Str} {p q : Int} {e : Er → Mem → Prop} (h : Drw k c m) (h0 : ρ[0]? = some (some (.loc k))) (h3 : ρ[3]? = some (some (.str w))) (h4 : ρ[4]? = some (some (.int p))) (h5 : ρ[5]? = some (some (.int q))) (_ : True = True) :
    WP (deedE ρ m) (fun d m2 => ∃ u : Int, 0 ≤ u ∧ u < 1000 ∧ d = (valK (mergeD [] [(.inr "put", .tup [.str w, .int p, .int u]), (.inr "say", .tup [.str w, .int q]), (.inr "rest", .tup [.str w])]) (.inr w)).getD (.tup [.str w, .int p, .int q]) ∧ Drw k c m2 ∧ Same k c m m2) e := by
  have v0 (m : Mem) : vr 0 ρ m = .ok (.loc k) m := vr_ok h0
  have v3 (m : Mem) : vr 3 ρ m = .ok (.str w) m := vr_ok h3
  have v4 (m : Mem) : vr 4 ρ m = .ok (.int p) m := vr_ok h4
  have v5 (m : Mem) : vr 5 ρ m = .ok (.int q) m := vr_ok h5
  refine dget2_wp ?_
  refine prC_wp (.eq (x := .str "put") (m := m) rfl ?_)
  refine tpl_wp (argC_wp (.eq (v3 m) ?_))
  refine argC_wp (.eq (v4 m) ?_)
  refine argC_wp (callN_wp (.eq (arg1_ok (v0 m)) ⟨rfl, ?_⟩))
  refine (number_wp h).any fun d m4 z => ?_
  obtain ⟨u, rfl, u0, u1, d4, s4, _⟩ := z
  refine argN_wp ⟨(show 3 ≤ 1000 by decide), ?_⟩
  refine prC_wp (.eq (x := .str "say") (m := m4) rfl ?_)
  refine .eq (tpl_ok (arg2_ok (v3 m4) (v5 m4)) (show 2 ≤ 1000 by decide)) ?_
  refine prC_wp (.eq (x := .str "rest") (m := m4) rfl ?_)
  refine .eq (tpl_ok (arg1_ok (v3 m4)) (show 1 ≤ 1000 by decide)) ?_
  refine prN_wp ⟨[(.inr "put", .tup [.str w, .int p, .int u]), (.inr "say", .tup [.str w, .int q]), (.inr "rest", .tup [.str w])], .str w, .tup [.str w, .int p, .int q], .inr w, rfl, (show 3 ≤ 15 by decide), v3 _, rfl, tpl_ok (arg3_ok (v3 _) (v4 _) (v5 _)) (show 3 ≤ 1000 by decide), u, u0, u1, rfl, d4.keep (.new _ _), s4.new⟩
theorem deed_wp {k c : Nat} {m : Mem} {x : Bx} (h : Drw k c m) (hx : x.ok) : WP (m_l_deed [.loc k, x.enc] m) (Rq k c m Row.enc DeedOk) fun _ _ => False := by
  have hw8 : x.w ≤ 8 := hx.2.2.2
  unfold m_l_deed
  refine run_wp ?_
  unfold f_l_deed
  refine seq_then (asg_ok (d := .lst [.str "put", .str "put", .str "move", .str "add", .str "add", .str "take", .str "times", .str "times", .str "get", .str "get", .str "set", .str "set", .str "say", .str "say"]) rfl rfl) ?_
  refine seq_wp (asg_wp (op2_wp (.eq (x := .lst words15) (m := m) rfl (draw_e rfl rfl h (by decide) (by decide) fun v m2 v0 v1 d2 s2 _ => ?_))))
  obtain ⟨i, hi, hg⟩ := word15 v0 v1
  refine ⟨.str (wordAt i), hg m2, _, rfl, ?_⟩
  show WP _ _ _
  refine seq_wp (asgU_wp (comp_wp ((compL_wp (m := m2) (xs := (List.range 3).map fun j => D.int (0 + (j : Nat))) (I := fun i acc m3 => Drw k c m3 ∧ Same k c m m3 ∧ ∃ vs : List Int, acc = vs.map D.int ∧ vs.length = i ∧ i ≤ 3 ∧ ∀ v, v ∈ vs → in8 v) (it1_ok (hi := 3) rfl rfl) (fun i acc m3 _ => wkRng_eq 0 3 i m3) ⟨d2, s2, [], rfl, rfl, by decide, fun v h => by cases h⟩ ?_).mono ?_)))
  · intro j y acc m3 hy hI
    obtain ⟨d3, s3, vs, rfl, hl, hj, hvs⟩ := hI
    have hj3 : j < 3 := by
      by_cases q : j < 3
      · exact q
      · rw [List.getElem?_eq_none (by rw [List.length_map, List.length_range]; omega)] at hy
        cases hy
    refine ⟨_, rfl, op2_wp (op2_wp (.eq (x := .int x.b) (m := m3) rfl ?_))⟩
    refine callN_wp (.eq (x := [.loc k, .int x.w]) (m := m3) rfl ⟨rfl, (next_wp d3 hx.2.2.1 (by omega)).any fun d m4 z => ?_⟩)
    obtain ⟨u, rfl, u0, u1, d4, s4, _⟩ := z
    refine ⟨.int (x.b + u), rfl, .eq (x := .int 8) (m := m4) rfl ⟨.int ((x.b + u) % 8), gMod_ok _ _ _ (by decide), ?_⟩⟩
    refine ⟨by rw [List.length_map, hl]; exact Nat.lt_trans hj3 (by decide), d4, s3.trans s4, vs ++ [(x.b + u) % 8], by rw [List.map_append]; rfl, by rw [List.length_append, hl]; rfl, hj3, fun v hv => ?_⟩
    rcases List.mem_append.mp hv with q | q
    · exact hvs v q
    · cases List.mem_singleton.mp q
      exact mod8 _
  · intro ys m3 hI
    obtain ⟨d3, s3, vs, rfl, hl, _, hvs⟩ := hI
    have hl3 : vs.length = 3 := by rw [hl, List.length_map, List.length_range]
    match vs, hl3, hvs with
    | [p, q, r], _, hvs =>
      have hp := hvs p (by simp)
      have hq := hvs q (by simp)
      have hr := hvs r (by simp)
      refine ⟨[some (.loc k), some x.enc, some (.lst [.str "put", .str "put", .str "move", .str "add", .str "add", .str "take", .str "times", .str "times", .str "get", .str "get", .str "set", .str "set", .str "say", .str "say"]), some (.str (wordAt i)), some (.int p), some (.int q), some (.int r), none], rfl, ?_⟩
      show WP _ _ _
      match i, hi with
      | 2, _ => exact seq_wp (if_yes_wp (m1 := m3) rfl (.eq (ret_ok rfl) ⟨.add p q r, rfl, ⟨fun _ => ok3 hp hq hr (by decide) (by decide) (by decide), rfl⟩, d3, s3⟩))
      | 3, _ => exact seq_wp (if_yes_wp (m1 := m3) rfl (.eq (ret_ok rfl) ⟨.take p q r, rfl, ⟨fun _ => ok3 hp hq hr (by decide) (by decide) (by decide), rfl⟩, d3, s3⟩))
      | 4, _ => exact seq_wp (if_yes_wp (m1 := m3) rfl (.eq (ret_ok rfl) ⟨.times p q r, rfl, ⟨fun _ => ok3 hp hq hr (by decide) (by decide) (by decide), rfl⟩, d3, s3⟩))
      | 0, _ =>
        refine seq_wp (if_no_wp (m1 := m3) rfl (sNext_wp ?_))
        refine ret_wp ((deed_tail d3 rfl rfl rfl rfl rfl).mono fun d m4 z => ?_)
        obtain ⟨u, u0, u1, rfl, d4, s4⟩ := z
        refine ⟨.put p u, rfl, ⟨fun rows => ?_, rfl⟩, d4, s3.trans s4⟩
        show ((decide (0 ≤ p) && decide (p ≤ most rows 0 - 1)) && ((decide (0 ≤ u) && decide (u ≤ most rows 2 - 1)) && true)) = true
        rw [okB8 hp (by decide), decide_eq_true u0, decide_eq_true (show u ≤ most rows 2 - 1 by show u ≤ (1000 : Int) - 1; omega)]
        rfl
      | 1, _ =>
        refine seq_wp (if_no_wp (m1 := m3) rfl (sNext_wp ?_))
        refine ret_wp ((deed_tail d3 rfl rfl rfl rfl rfl).mono fun d m4 z => ?_)
        obtain ⟨u, u0, u1, rfl, d4, s4⟩ := z
        exact ⟨.move p q, rfl, ⟨fun rows => ok2 hp hq (by decide) (by decide), rfl⟩, d4, s3.trans s4⟩
      | 5, _ =>
        refine seq_wp (if_no_wp (m1 := m3) rfl (sNext_wp ?_))
        refine ret_wp ((deed_tail d3 rfl rfl rfl rfl rfl).mono fun d m4 z => ?_)
        obtain ⟨u, u0, u1, rfl, d4, s4⟩ := z
        exact ⟨.get p q, rfl, ⟨fun rows => ok2 hp hq (by decide) (by decide), rfl⟩, d4, s3.trans s4⟩
      | 6, _ =>
        refine seq_wp (if_no_wp (m1 := m3) rfl (sNext_wp ?_))
        refine ret_wp ((deed_tail d3 rfl rfl rfl rfl rfl).mono fun d m4 z => ?_)
        obtain ⟨u, u0, u1, rfl, d4, s4⟩ := z
        exact ⟨.set p q, rfl, ⟨fun rows => ok2 hp hq (by decide) (by decide), rfl⟩, d4, s3.trans s4⟩
      | 7, _ =>
        refine seq_wp (if_no_wp (m1 := m3) rfl (sNext_wp ?_))
        refine ret_wp ((deed_tail d3 rfl rfl rfl rfl rfl).mono fun d m4 z => ?_)
        obtain ⟨u, u0, u1, rfl, d4, s4⟩ := z
        exact ⟨.say q, rfl, ⟨fun rows => ok1 hq (by decide), rfl⟩, d4, s3.trans s4⟩
      | 8, _ =>
        refine seq_wp (if_no_wp (m1 := m3) rfl (sNext_wp ?_))
        refine ret_wp ((deed_tail d3 rfl rfl rfl rfl rfl).mono fun d m4 z => ?_)
        obtain ⟨u, u0, u1, rfl, d4, s4⟩ := z
        exact ⟨.rest, rfl, ⟨fun rows => rfl, rfl⟩, d4, s3.trans s4⟩
/-! ### _law_jump -/
def f_l_jump : SS := sSeq (sAsg (opN gMin2 (argC (op2 gSub (vr 3) (cn (.int 1))) (argC (op2 gAdd (op2 gAdd (vr 2) (cn (.int 1))) (callN 2 m_l_next (argC (vr 0) (argC (op2 gSub (vr 3) (vr 2)) (argN))))) (argN)))) (gNm 4)) (sSeq (sIf (tV (op2 gEq (callN 2 m_l_next (argC (vr 0) (argC (cn (.int 4)) (argN)))) (cn (.int 0)))) (sAsg (callN 2 m_l_next (argC (vr 0) (argC (vr 3) (argN)))) (gNm 4)) (sNext)) (sSeq (sAsg (op2 gMod (op2 gAdd (op2 gIx (vr 1) (cn (.int 0))) (callN 2 m_l_next (argC (vr 0) (argC (op2 gIx (vr 1) (cn (.int 1))) (argN))))) (cn (.int 8))) (gNm 5)) (sRet (op2 gIx (lsl (argC (tpl (argC (cn (.str (Str.ofString "go"))) (argC (vr 4) (argN)))) (argC (tpl (argC (cn (.str (Str.ofString "if"))) (argC (vr 5) (argC (vr 4) (argN))))) (argC (tpl (argC (cn (.str (Str.ofString "if"))) (argC (vr 5) (argC (vr 4) (argN))))) (argC (tpl (argC (cn (.str (Str.ofString "stop"))) (argN))) (argN)))))) (callN 2 m_l_next (argC (vr 0) (argC (cn (.int 4)) (argN))))))))
def m_l_jump : Fn := run 6 f_l_jump
theorem le_l_jump (ds : List D) (m : Mem) : LeR m (m_l_jump ds m) (run 6 f_l_jump ds m) := .same _
structure JumpOk (rows : Int) (r : Row) : Prop where
  ok : r.okB rows = true
theorem inR {rows v : Int} (h0 : 0 ≤ v) (h1 : v < rows) : (decide (0 ≤ v) && decide (v ≤ most rows 3 - 1)) = true := by
  rw [decide_eq_true h0, decide_eq_true (show v ≤ most rows 3 - 1 by show v ≤ rows - 1; omega)]
  rfl
theorem jump_wp {k c : Nat} {m : Mem} {x : Bx} {at_ rows : Int} (h : Drw k c m) (hx : x.ok) (h0 : 0 ≤ at_) (h1 : at_ < rows) (h2 : rows < 1073741824) : WP (m_l_jump [.loc k, x.enc, .int at_, .int rows] m) (Rq k c m Row.enc (JumpOk rows)) fun _ _ => False := by
  have hw8 : x.w ≤ 8 := hx.2.2.2
  unfold m_l_jump
  refine run_wp ?_
  unfold f_l_jump
  refine seq_wp (asg_wp ?_)
  refine opN_wp (argC_wp (.eq (x := .int (rows - 1)) (m := m) rfl (argC_wp (op2_wp (.eq (x := .int (at_ + 1)) (m := m) rfl ?_)))))
  refine draw_e (n := rows - at_) rfl (op2_ok rfl rfl rfl) h (by omega) (by omega) fun v m2 v0 v1 d2 s2 _ => ⟨.int (at_ + 1 + v), rfl, argN_wp ?_⟩
  have hgoal : ∃ g : Int, gMin2 [.int (rows - 1), .int (at_ + 1 + v)] m2 = some (.int g) ∧ 0 ≤ g ∧ g < rows := by
    refine ⟨if at_ + 1 + v < rows - 1 then at_ + 1 + v else rows - 1, rfl, ?_, ?_⟩ <;> split <;> omega
  obtain ⟨g, hg, g0, g1⟩ := hgoal
  refine ⟨.int g, hg, [some (.loc k), some x.enc, some (.int at_), some (.int rows), some (.int g), none], rfl, ?_⟩
  show WP _ _ _
  have rest : ∀ (g : Int) (m3 : Mem), 0 ≤ g → g < rows → Drw k c m3 → Same k c m m3 → WP (sSeq (sAsg (op2 gMod (op2 gAdd (op2 gIx (vr 1) (cn (.int 0))) (callN 2 m_l_next (argC (vr 0) (argC (op2 gIx (vr 1) (cn (.int 1))) (argN))))) (cn (.int 8))) (gNm 5)) (sRet (op2 gIx (lsl (argC (tpl (argC (cn (.str (Str.ofString "go"))) (argC (vr 4) (argN)))) (argC (tpl (argC (cn (.str (Str.ofString "if"))) (argC (vr 5) (argC (vr 4) (argN))))) (argC (tpl (argC (cn (.str (Str.ofString "if"))) (argC (vr 5) (argC (vr 4) (argN))))) (argC (tpl (argC (cn (.str (Str.ofString "stop"))) (argN))) (argN)))))) (callN 2 m_l_next (argC (vr 0) (argC (cn (.int 4)) (argN)))))) [some (.loc k), some x.enc, some (.int at_), some (.int rows), some (.int g), none] m3) (runQ (Rq k c m Row.enc (JumpOk rows))) fun _ _ => False := by
    intro g m3 g0 g1 d3 s3
    refine seq_wp (asg_wp (op2_wp (op2_wp (.eq (x := .int x.b) (m := m3) rfl ?_))))
    refine draw_e (n := x.w) rfl rfl d3 hx.2.2.1 (by omega) fun u m4 u0 u1 d4 s4 _ => ⟨.int (x.b + u), rfl, .eq (x := .int 8) (m := m4) rfl ⟨.int ((x.b + u) % 8), gMod_ok _ _ _ (by decide), _, rfl, ?_⟩⟩
    have hb := mod8 (x.b + u)
    show WP _ _ _
    refine ret_wp (op2_wp (.eq (x := .lst [.tup [.str "go", .int g], .tup [.str "if", .int ((x.b + u) % 8), .int g], .tup [.str "if", .int ((x.b + u) % 8), .int g], .tup [.str "stop"]]) (m := m4) rfl ?_))
    refine draw_e rfl rfl d4 (by decide) (by decide) fun w m5 w0 w1 d5 s5 _ => ?_
    have s15 := (s3.trans s4).trans s5
    have hz : w = 0 ∨ w = 1 ∨ w = 2 ∨ w = 3 := by omega
    rcases hz with rfl | rfl | rfl | rfl
    · refine ⟨_, rfl, .go g, rfl, ⟨?_⟩, d5, s15⟩
      show ((decide (0 ≤ g) && decide (g ≤ most rows 3 - 1)) && true) = true
      rw [inR g0 g1]
      rfl
    · refine ⟨_, rfl, .ifr ((x.b + u) % 8) g, rfl, ⟨?_⟩, d5, s15⟩
      show ((decide (0 ≤ (x.b + u) % 8) && decide ((x.b + u) % 8 ≤ most rows 1 - 1)) && ((decide (0 ≤ g) && decide (g ≤ most rows 3 - 1)) && true)) = true
      rw [okB8 hb (by decide), inR g0 g1]
      rfl
    · refine ⟨_, rfl, .ifr ((x.b + u) % 8) g, rfl, ⟨?_⟩, d5, s15⟩
      show ((decide (0 ≤ (x.b + u) % 8) && decide ((x.b + u) % 8 ≤ most rows 1 - 1)) && ((decide (0 ≤ g) && decide (g ≤ most rows 3 - 1)) && true)) = true
      rw [okB8 hb (by decide), inR g0 g1]
      rfl
    · exact ⟨_, rfl, .stop, rfl, ⟨rfl⟩, d5, s15⟩
  refine seq_wp (if_wp (tV_wp (op2_wp (draw_e (n := 4) rfl rfl d2 (by decide) (by decide) fun u m3 u0 u1 d3 s3 _ => .eq (x := .int 0) (m := m3) rfl ⟨.bl (decide (u = 0)), rfl, _, rfl, ?_⟩))))
  cases decide (u = 0) with
  | true =>
    simp only [if_true]
    refine asg_wp (draw_e (n := rows) rfl rfl d3 (by omega) h2 fun y m4 y0 y1 d4 s4 _ => ⟨_, rfl, ?_⟩)
    exact rest y m4 y0 y1 d4 ((s2.trans s3).trans s4)
  | false =>
    simp only [Bool.false_eq_true, if_false]
    exact sNext_wp (rest g m3 g0 g1 d3 (s2.trans s3))
/-! ### _law_piece -/
structure PieceP (n : Nat) (p : List Row) : Prop where
  one : 1 ≤ p.length
  most : p.length ≤ n
  rows : ∀ r, r ∈ p → r.okB 200 = true
  ends : ∀ r, r ∈ p.take (p.length - 1) → r.ends = false
theorem PieceP.ok {n : Nat} {p : List Row} (h : PieceP n p) (hn : n ≤ 12) : PieceOk p := ⟨h.one, Nat.le_trans h.most hn, h.rows, h.ends⟩
end
end LB

set_option Elab.async false
set_option linter.all false
set_option autoImplicit false
set_option maxRecDepth 100000
set_option maxHeartbeats 1000000
/-! Pure: the laws' own mix, alike, ties. -/
namespace LB
open PySem
noncomputable section
theorem opNM_ok {g : ON} {a : SA} {ρ : Ev} {m m1 : Mem} {xs ys : List D} (ha : a ρ m = .ok xs m1) (hg : g xs m1 = some (.lst ys)) : opNM g a ρ m = .ok (.loc m1.n) (m1.new (.lst ys)) := by
  unfold opNM
  rw [bind_ok ha]
  have h : (fun m => lift (g xs m) m) m1 = .ok (.lst ys) m1 := by
    show lift (g xs m1) m1 = _
    rw [hg]
    rfl
  rw [bind_ok (a := fun m => lift (g xs m) m) h]
  rfl
def f_l_mix : SS := sSeq (sAsg (vr 1) (gNm 2)) (sSeq (sFor (itSeq (vr 0)) (gNm 3) (sAsg (op2 gMod (op2 gAdd (op2 gAdd (op2 gMul (vr 2) (cn (.int 48271))) (op2 gMod (vr 3) (cn (.int 2147483629)))) (cn (.int 1))) (cn (.int 2147483647))) (gNm 2))) (sRet (lsm (argC (vr 2) (argC (opNM gList (argC (vr 0) (argN))) (argC (cn (.int 0)) (argN)))))))
def m_l_mix : Fn := run 4 f_l_mix
theorem le_l_mix (ds : List D) (m : Mem) : LeR m (m_l_mix ds m) (run 4 f_l_mix ds m) := .same _
theorem mix_wp {m : Mem} {ns : List Int} {s : Int} (hs : 0 ≤ s) (hl : ns.length ≤ 1000) : WP (m_l_mix [.scr ns, .int s] m) (fun d m2 => ∃ k c, d = .loc k ∧ Drw k c m2 ∧ Keep m m2) fun _ _ => False := by
  unfold m_l_mix
  refine run_wp ?_
  unfold f_l_mix
  refine seq_then (asg_ok (d := .int s) (m1 := m) (ρ1 := [some (.scr ns), some (.int s), some (.int s), none]) rfl rfl) ?_
  refine seq_wp ?_
  refine for_seq (xs := ns.map D.int) (w := wkSeq (.scr ns)) (m := m) (I := fun i ρ m2 => m2 = m ∧ ∃ (a : Int) (z : Option D), 0 ≤ a ∧ ρ = [some (.scr ns), some (.int s), some (.int a), z]) (itSeq_ok (d := .scr ns) rfl rfl) (fun i ρ m2 _ => wkSeq_const rfl i) ⟨rfl, s, none, hs, rfl⟩ ?_ ?_
  · intro i x ρ m2 hx hI
    obtain ⟨rfl, a, z, ha, rfl⟩ := hI
    rw [List.getElem?_map] at hx
    cases hg : ns[i]? with
    | none =>
      rw [hg] at hx
      cases hx
    | some v =>
      rw [hg] at hx
      cases hx
      refine ⟨[some (.scr ns), some (.int s), some (.int a), some (.int v)], rfl, ?_⟩
      refine .eq (asg_ok (d := .int ((a * 48271 + v % 2147483629 + 1) % 2147483647)) (m1 := m2) (ρ1 := [some (.scr ns), some (.int s), some (.int ((a * 48271 + v % 2147483629 + 1) % 2147483647)), some (.int v)]) (op2_ok (op2_ok (op2_ok (op2_ok rfl rfl (gMul_r _ _ _ (by decide))) (op2_ok rfl rfl (gMod_ok _ _ _ (by decide))) rfl) rfl rfl) rfl (gMod_ok _ _ _ (by decide))) rfl) ?_
      exact ⟨rfl, _, _, Int.emod_nonneg _ (by decide), rfl⟩
  · intro ρ m2 hI
    obtain ⟨rfl, a, z, ha, rfl⟩ := hI
    show WP _ _ _
    let m3 : Mem := m2.new (.lst (ns.map D.int))
    have hc : opNM gList (argC (vr 0) (argN)) [some (.scr ns), some (.int s), some (.int a), z] m2 = .ok (.loc m2.n) m3 := opNM_ok (m1 := m2) (xs := [.scr ns]) rfl rfl
    refine .eq (ret_ok (lsm_ok (m1 := m3) (xs := [.int a, .loc m2.n, .int 0]) (argC_ok (m1 := m2) rfl (argC_ok hc rfl)) (show 3 ≤ 1000 by decide))) ?_
    refine ⟨m3.n, m2.n, rfl, ⟨Nat.lt_succ_self _, Nat.lt_succ_of_lt (Nat.lt_succ_self _), Nat.succ_ne_self _, a, 0, ns, ha, by decide, hl, Mem.new_at _ _, ?_⟩, (Keep.new _ _).trans (.new _ _)⟩
    exact ((Keep.new m3 _).at_ m2.n (Nat.lt_succ_self _)).trans (Mem.new_at _ _)
/-! ### _law_alike -/
def f_l_alike (rec : Fn) : SS := sSeq (sIf (tV (op1 (gIsi2 "tuple" "list") (vr 1))) (sSeq (sIf (LB.tOr (LB.tNot (tV (op1 (gIsi2 "tuple" "list") (vr 0)))) (tV (op2 gNe (op1 (gIsi "list") (vr 0)) (op1 (gIsi "list") (vr 1))))) (sRet (cn (.bl false))) (sNext)) (sSeq (sIf (tV (op2 gNe (opN gLen (argC (vr 0) (argN))) (opN gLen (argC (vr 1) (argN))))) (sRet (cn (.bl false))) (sNext)) (sRet (op2 gEq (comp (itRng1 (argC (opN gLen (argC (vr 1) (argN))) (argN))) (gNm 2) (LB.tNot (tV (callN 2 rec (argC (op2 gIx (vr 0) (vr 2)) (argC (op2 gIx (vr 1) (vr 2)) (argN)))))) (vr 2) [2]) (lsl (argN)))))) (sNext)) (sSeq (sIf (tV (op2 gIsN (vr 1) (cn .non))) (sRet (op2 gIsN (vr 0) (cn .non))) (sNext)) (sSeq (sIf (tV (op1 (gIsi "str") (vr 1))) (sRet (vAnd (op1 (gIsi "str") (vr 0)) (op2 gEq (vr 0) (vr 1)))) (sNext)) (sSeq (sIf (LB.tOr (tV (op1 (gIsi "bool") (vr 1))) (tV (op1 (gIsi "bool") (vr 0)))) (sRet (vAnd (op1 (gIsi "bool") (vr 1)) (vAnd (op1 (gIsi "bool") (vr 0)) (op2 gEq (vr 0) (vr 1))))) (sNext)) (sRet (vAnd (op1 (gIsi "int") (vr 0)) (op2 gEq (vr 0) (vr 1)))))))
def m_l_alike : Nat → Fn
  | 0 => fun _ _ => .bad
  | n + 1 => run 3 (f_l_alike (m_l_alike n))
theorem le_l_alike (n : Nat) (ds : List D) (m : Mem) : LeR m (m_l_alike (n + 1) ds m) (run 3 (f_l_alike (m_l_alike n)) ds m) := .same _
def Al : Nat → Mem → D → D → Prop
  | 0, _, _, _ => False
  | n + 1, m, d, e => (d = .non ∧ e = .non) ∨ (∃ b, d = .bl b ∧ e = .bl b) ∨ (∃ i, d = .int i ∧ e = .int i) ∨ (∃ s, d = .str s ∧ e = .str s) ∨
    (∃ xs ys, d = .tup xs ∧ e = .tup ys ∧ xs.length = ys.length ∧ xs.length ≤ sizeLine ∧ ∀ (i : Nat) (x y : D), xs[i]? = some x → ys[i]? = some y → Al n m x y) ∨
    (∃ xs ys, lstOf m d = some xs ∧ lstOf m e = some ys ∧ xs.length = ys.length ∧ xs.length ≤ sizeLine ∧ ∀ (i : Nat) (x y : D), xs[i]? = some x → ys[i]? = some y → Al n m x y)
theorem isTy_lst {m : Mem} {d : D} {xs : List D} (T : String) (h : lstOf m d = some xs) : isTy m T d = some (T == "list") := by
  cases d with
  | lst _ => rfl
  | loc k =>
    show (if k < m.n then (match m.get k with
      | some (.lst _) => some (T == "list")
      | _ => none) else none) = _
    have h2 : (if k < m.n then (match m.get k with
      | some (.lst xs) => some xs
      | _ => none) else none) = some xs := h
    by_cases c : k < m.n
    · rw [if_pos c] at h2 ⊢
      cases hg : m.get k with
      | none =>
        rw [hg] at h2
        cases h2
      | some o =>
        rw [hg] at h2
        cases o with
        | lst _ => rfl
        | dct _ => cases h2
        | obj _ _ => cases h2
        | dcn _ => cases h2
    · rw [if_neg c] at h2
      cases h2
  | _ => cases h
theorem len_lst {m : Mem} {d : D} {xs : List D} (h : lstOf m d = some xs) : gLen [d] m = some (.int xs.length) := by
  cases d with
  | lst ys =>
    cases h
    rfl
  | loc k =>
    show (if k < m.n then (match m.get k with
      | some (.lst xs) => some (D.int xs.length)
      | some (.dct kvs) => some (D.int kvs.length)
      | _ => none) else none) = _
    have h2 : (if k < m.n then (match m.get k with
      | some (.lst xs) => some xs
      | _ => none) else none) = some xs := h
    by_cases c : k < m.n
    · rw [if_pos c] at h2 ⊢
      cases hg : m.get k with
      | none =>
        rw [hg] at h2
        cases h2
      | some o =>
        rw [hg] at h2
        cases o with
        | lst _ =>
          cases h2
          rfl
        | dct _ => cases h2
        | obj _ _ => cases h2
        | dcn _ => cases h2
    · rw [if_neg c] at h2
      cases h2
  | _ => cases h
theorem sq_lst {m : Mem} {d : D} {xs : List D} (h : lstOf m d = some xs) : sqOf m d = some xs := by
  cases d <;> first
    | exact h
    | (cases h; done)
theorem alike_seq {F : Fn} {m : Mem} {d e : D} {xs ys : List D} {t : Bool} (hd : sqOf m d = some xs) (he : sqOf m e = some ys) (nd : ∀ z, d ≠ .str z) (ne : ∀ z, e ≠ .str z) (ld : gLen [d] m = some (.int xs.length)) (le : gLen [e] m = some (.int ys.length)) (hl : xs.length = ys.length) (hs : xs.length ≤ sizeLine)
    (i1 : gIsi2 "tuple" "list" d m = some (.bl true)) (i2 : gIsi2 "tuple" "list" e m = some (.bl true)) (j1 : gIsi "list" d m = some (.bl t)) (j2 : gIsi "list" e m = some (.bl t)) (hF : ∀ (i : Nat) (x y : D), xs[i]? = some x → ys[i]? = some y → F [x, y] m = .ok (.bl true) m) :
    run 3 (f_l_alike F) [d, e] m = .ok (.bl true) m := by
  refine run_rt (ρ1 := [some d, some e, none]) ?_
  unfold f_l_alike
  refine (seq_rt ?_)
  refine (if_yes (tV_ok (op1_ok rfl i2))).trans ?_
  have hne : gNe (.bl t) (.bl t) m = some (.bl false) := by cases t <;> rfl
  refine (seq_ok ((if_no (m1 := m) (tOr_ok1 (x := false) (tNot_ok (x := true) (tV_ok (op1_ok rfl i1))) fun _ => tV_ok (op2_ok (op1_ok rfl j1) (op1_ok rfl j2) hne))).trans rfl)).trans ?_
  refine (seq_ok ((if_no (m1 := m) (tV_ok (op2_ok (opN_ok (arg1_ok rfl) ld) (opN_ok (arg1_ok rfl) le) ?_))).trans rfl)).trans ?_
  · show (some (decide ((xs.length : Int) = ys.length))).map (fun b => D.bl (!b)) = _
    rw [decide_eq_true (by omega)]
    rfl
  have hsz : sizeLine < 4611686018427387904 := by decide
  have hit := it1_ok (a := argC (opN gLen (argC (vr 1) (argN))) (argN)) (ρ := [some d, some e, none]) (m := m) (m1 := m) (hi := ys.length) (arg1_ok (opN_ok (arg1_ok rfl) le)) (small62_nat (by omega))
  have e1 : ((ys.length : Nat) : Int).toNat = ys.length := Int.toNat_natCast _
  rw [e1] at hit
  have hc := comp_pure (g := gNm 2) (t := LB.tNot (tV (callN 2 F (argC (op2 gIx (vr 0) (vr 2)) (argC (op2 gIx (vr 1) (vr 2)) (argN)))))) (e := vr 2) (own := [2]) (ρ := [some d, some e, none]) (m := m) (xs := (List.range ys.length).map fun j => D.int (0 + (j : Nat))) (fun _ => false) (fun d => d) (by rw [List.length_map, List.length_range]; exact hit) (fun i _ => wkRng_eq 0 ys.length i m) (fun x hx => by
    obtain ⟨k, hk, rfl⟩ := List.mem_map.mp hx
    have hk2 : k < ys.length := List.mem_range.mp hk
    have hk1 : k < xs.length := by omega
    refine ⟨[some d, some e, some (.int (0 + (k : Nat)))], rfl, ?_, fun h => by cases h⟩
    rw [Int.zero_add]
    exact tNot_ok (x := true) (tV_ok ((callN_ok (arg2_ok (op2_ok rfl rfl (gIx_lst hd nd (List.getElem?_eq_getElem hk1))) (op2_ok rfl rfl (gIx_lst he ne (List.getElem?_eq_getElem hk2)))) rfl).trans (hF k _ _ (List.getElem?_eq_getElem hk1) (List.getElem?_eq_getElem hk2))))) (by rw [List.length_map, List.length_range]; omega)
  rw [filt_none] at hc
  refine ret_ok (op2_ok hc (lsl_ok (xs := []) rfl (by decide)) ?_)
  show (eqOf m (.lst []) (.lst [])).map D.bl = _
  rw [eq_nils]
  rfl
theorem vAnd_yes {a b : SE} {ρ : Ev} {m m1 : Mem} (ha : a ρ m = .ok (.bl true) m1) : vAnd a b ρ m = b ρ m1 := by
  unfold vAnd
  rw [bind_ok ha]
  rfl
theorem alike_int {F : Fn} {m : Mem} {i : Int} : run 3 (f_l_alike F) [.int i, .int i] m = .ok (.bl true) m := by
  have e : gEq (.int i) (.int i) m = some (.bl true) := by
    show (some (decide (i = i))).map D.bl = _
    rw [decide_eq_true rfl]
    rfl
  refine run_rt (ρ1 := [some (.int i), some (.int i), none]) ?_
  unfold f_l_alike
  refine (seq_ok ((if_no (m1 := m) rfl).trans rfl)).trans ?_
  refine (seq_ok ((if_no (m1 := m) rfl).trans rfl)).trans ?_
  refine (seq_ok ((if_no (m1 := m) rfl).trans rfl)).trans ?_
  refine (seq_ok ((if_no (m1 := m) rfl).trans rfl)).trans ?_
  exact ret_ok ((vAnd_yes (m1 := m) rfl).trans (op2_ok rfl rfl e))
theorem alike_str {F : Fn} {m : Mem} {s : Str} : run 3 (f_l_alike F) [.str s, .str s] m = .ok (.bl true) m := by
  have e : gEq (.str s) (.str s) m = some (.bl true) := by
    show (some (decide (s = s))).map D.bl = _
    rw [decide_eq_true rfl]
    rfl
  refine run_rt (ρ1 := [some (.str s), some (.str s), none]) ?_
  unfold f_l_alike
  refine (seq_ok ((if_no (m1 := m) rfl).trans rfl)).trans ?_
  refine (seq_ok ((if_no (m1 := m) rfl).trans rfl)).trans ?_
  refine seq_rt ((if_yes (m1 := m) rfl).trans ?_)
  exact ret_ok ((vAnd_yes (m1 := m) rfl).trans (op2_ok rfl rfl e))
theorem alike_ok : ∀ (n : Nat) (m : Mem) (d e : D), Al n m d e → m_l_alike n [d, e] m = .ok (.bl true) m
  | 0, _, _, _, h => h.elim
  | n + 1, m, d, e, h => by
    show run 3 (f_l_alike (m_l_alike n)) [d, e] m = _
    rcases h with ⟨rfl, rfl⟩ | ⟨b, rfl, rfl⟩ | ⟨i, rfl, rfl⟩ | ⟨s, rfl, rfl⟩ | ⟨xs, ys, rfl, rfl, hl, hs, hA⟩ | ⟨xs, ys, hd, he, hl, hs, hA⟩
    · rfl
    · cases b <;> rfl
    · exact alike_int
    · exact alike_str
    · exact alike_seq (t := false) (xs := xs) (ys := ys) rfl rfl (fun _ h => by cases h) (fun _ h => by cases h) rfl rfl hl hs rfl rfl rfl rfl fun i x y h1 h2 => alike_ok n m x y (hA i x y h1 h2)
    · have q1 (d : D) (xs : List D) (hd : lstOf m d = some xs) : gIsi2 "tuple" "list" d m = some (.bl true) := by
        unfold gIsi2
        rw [isTy_lst "tuple" hd, isTy_lst "list" hd]
        rfl
      have q2 (d : D) (xs : List D) (hd : lstOf m d = some xs) : gIsi "list" d m = some (.bl true) := by
        unfold gIsi
        rw [isTy_lst "list" hd]
        rfl
      exact alike_seq (t := true) (sq_lst hd) (sq_lst he) (fun _ h => by rw [h] at hd; cases hd) (fun _ h => by rw [h] at he; cases he) (len_lst hd) (len_lst he) hl hs (q1 d xs hd) (q1 e ys he) (q2 d xs hd) (q2 e ys he) fun i x y h1 h2 => alike_ok n m x y (hA i x y h1 h2)
/-! ### _law_late, _law_looks, _law_far, _law_ties -/
end
end LB

set_option Elab.async false
set_option linter.all false
set_option autoImplicit false
set_option maxRecDepth 100000
set_option maxHeartbeats 1000000
/-! Pure: a run reckoned step by step, by rewriting at the head. -/
namespace LB
open PySem
section
variable {α β γ : Type}
def K (a : M α) (m : Mem) (k : α → Mem → Rs β) : Rs β := match a m with
  | .bad => .bad
  | .ok x m1 => k x m1
  | .ex e m1 => .ex e m1
theorem K_start (a : M α) (m : Mem) : a m = K a m Rs.ok := by unfold K; cases a m <;> rfl
theorem K_ok {a : M α} {m m1 : Mem} {x : α} (h : a m = .ok x m1) (k : α → Mem → Rs β) : K a m k = k x m1 := by unfold K; rw [h]
theorem K_bad {a : M α} {m : Mem} (h : a m = .bad) (k : α → Mem → Rs β) : K a m k = .bad := by unfold K; rw [h]
theorem K_bind (a : M α) (f : α → M β) (m : Mem) (k : β → Mem → Rs γ) : K (M.bind a f) m k = K a m fun x m1 => K (f x) m1 k := by
  unfold K M.bind
  cases a m <;> rfl
/-- what may fail -/
def KO (o : Option α) (m : Mem) (k : α → Mem → Rs β) : Rs β := match o with
  | some d => k d m
  | none => .bad
theorem KO_some (d : α) (m : Mem) (k : α → Mem → Rs β) : KO (some d) m k = k d m := rfl
theorem KO_of {o : Option α} {d : α} (h : o = some d) (m : Mem) (k : α → Mem → Rs β) : KO o m k = k d m := by rw [h]; rfl
theorem K_lift (o : Option α) (m : Mem) (k : α → Mem → Rs β) : K (lift o) m k = KO o m k := by cases o <;> rfl
/-! names -/
def kVr (ρ : Ev) (i : Nat) (m : Mem) (k : D → Mem → Rs β) : Rs β := match ρ[i]? with
  | some (some d) => k d m
  | _ => .bad
theorem K_vr (i : Nat) (ρ : Ev) (m : Mem) (k : D → Mem → Rs β) : K (vr i ρ) m k = kVr ρ i m k := by
  unfold K vr kVr
  split <;> rename_i h <;> split at h <;> simp_all
theorem kVr_0 (d : D) (ρ : Ev) (m : Mem) (k : D → Mem → Rs β) : kVr (some d :: ρ) 0 m k = k d m := rfl
theorem kVr_s (x : Option D) (ρ : Ev) (i : Nat) (m : Mem) (k : D → Mem → Rs β) : kVr (x :: ρ) (i + 1) m k = kVr ρ i m k := by
  unfold kVr
  rw [List.getElem?_cons_succ]
theorem K_cn (d : D) (ρ : Ev) (m : Mem) (k : D → Mem → Rs β) : K (cn d ρ) m k = k d m := rfl
theorem K_pure (x : α) (m : Mem) (k : α → Mem → Rs β) : K (M.pure x) m k = k x m := rfl
/-! operations -/
def K2 (g : O2) (x y : D) (m : Mem) (k : D → Mem → Rs β) : Rs β := KO (g x y m) m k
def kOp2b (g : O2) (x : D) (k : D → Mem → Rs β) : D → Mem → Rs β := fun y m => K2 g x y m k
def kOp2a (g : O2) (b : SE) (ρ : Ev) (k : D → Mem → Rs β) : D → Mem → Rs β := fun x m => K (b ρ) m (kOp2b g x k)
theorem K_op2 (g : O2) (a b : SE) (ρ : Ev) (m : Mem) (k : D → Mem → Rs β) : K (op2 g a b ρ) m k = K (a ρ) m (kOp2a g b ρ k) := by
  unfold op2
  rw [K_bind]
  congr 1
  funext x m1
  rw [K_bind]
  unfold kOp2a
  congr 1
  funext y m2
  exact K_lift _ _ _
theorem kOp2a_at (g : O2) (b : SE) (ρ : Ev) (k : D → Mem → Rs β) (x : D) (m : Mem) : kOp2a g b ρ k x m = K (b ρ) m (kOp2b g x k) := rfl
theorem kOp2b_at (g : O2) (x : D) (k : D → Mem → Rs β) (y : D) (m : Mem) : kOp2b g x k y m = K2 g x y m k := rfl
def K1 (g : O1) (x : D) (m : Mem) (k : D → Mem → Rs β) : Rs β := KO (g x m) m k
def kOp1 (g : O1) (k : D → Mem → Rs β) : D → Mem → Rs β := fun x m => K1 g x m k
theorem K_op1 (g : O1) (a : SE) (ρ : Ev) (m : Mem) (k : D → Mem → Rs β) : K (op1 g a ρ) m k = K (a ρ) m (kOp1 g k) := by
  unfold op1
  rw [K_bind]
  congr 1
  funext x m1
  exact K_lift _ _ _
theorem kOp1_at (g : O1) (k : D → Mem → Rs β) (x : D) (m : Mem) : kOp1 g k x m = K1 g x m k := rfl
/-! arguments -/
def kArg1 (r : SA) (ρ : Ev) (k : List D → Mem → Rs β) : D → Mem → Rs β := fun x m => K (r ρ) m fun xs m1 => k (x :: xs) m1
def kArg2 (x : D) (k : List D → Mem → Rs β) : List D → Mem → Rs β := fun xs m => k (x :: xs) m
theorem K_argN (ρ : Ev) (m : Mem) (k : List D → Mem → Rs β) : K (argN ρ) m k = k [] m := rfl
theorem K_argC (a : SE) (r : SA) (ρ : Ev) (m : Mem) (k : List D → Mem → Rs β) : K (argC a r ρ) m k = K (a ρ) m (kArg1 r ρ k) := by
  unfold argC
  rw [K_bind]
  congr 1
  funext x m1
  rw [K_bind]
  rfl
theorem kArg1_at (r : SA) (ρ : Ev) (k : List D → Mem → Rs β) (x : D) (m : Mem) : kArg1 r ρ k x m = K (r ρ) m (kArg2 x k) := rfl
theorem kArg2_at (x : D) (k : List D → Mem → Rs β) (xs : List D) (m : Mem) : kArg2 x k xs m = k (x :: xs) m := rfl
def KN (g : ON) (xs : List D) (m : Mem) (k : D → Mem → Rs β) : Rs β := KO (g xs m) m k
def kOpN (g : ON) (k : D → Mem → Rs β) : List D → Mem → Rs β := fun xs m => KN g xs m k
theorem K_opN (g : ON) (a : SA) (ρ : Ev) (m : Mem) (k : D → Mem → Rs β) : K (opN g a ρ) m k = K (a ρ) m (kOpN g k) := by
  unfold opN
  rw [K_bind]
  congr 1
  funext x m1
  exact K_lift _ _ _
theorem kOpN_at (g : ON) (k : D → Mem → Rs β) (xs : List D) (m : Mem) : kOpN g k xs m = KN g xs m k := rfl
/-! calls: the arguments' count is looked at by rfl -/
def KF (f : Fn) (ds : List D) (m : Mem) (k : D → Mem → Rs β) : Rs β := K (f ds) m k
def kCall (np : Nat) (f : Fn) (k : D → Mem → Rs β) : List D → Mem → Rs β := fun ds m => if ds.length = np then KF f ds m k else .bad
theorem K_call (np : Nat) (f : Fn) (a : SA) (ρ : Ev) (m : Mem) (k : D → Mem → Rs β) : K (callN np f a ρ) m k = K (a ρ) m (kCall np f k) := by
  unfold callN
  rw [K_bind]
  congr 1
  funext x m1
  unfold kCall KF K
  by_cases h : x.length = np
  · simp only [h, if_true]
  · simp only [h, if_false]
theorem kCall_1 (f : Fn) (k : D → Mem → Rs β) (a : D) (m : Mem) : kCall 1 f k [a] m = KF f [a] m k := rfl
theorem kCall_2 (f : Fn) (k : D → Mem → Rs β) (a b : D) (m : Mem) : kCall 2 f k [a, b] m = KF f [a, b] m k := rfl
theorem kCall_3 (f : Fn) (k : D → Mem → Rs β) (a b c : D) (m : Mem) : kCall 3 f k [a, b, c] m = KF f [a, b, c] m k := rfl
theorem kCall_4 (f : Fn) (k : D → Mem → Rs β) (a b c d : D) (m : Mem) : kCall 4 f k [a, b, c, d] m = KF f [a, b, c, d] m k := rfl
theorem kCall_5 (f : Fn) (k : D → Mem → Rs β) (a b c d e : D) (m : Mem) : kCall 5 f k [a, b, c, d, e] m = KF f [a, b, c, d, e] m k := rfl
theorem KF_ok {f : Fn} {ds : List D} {m m1 : Mem} {d : D} (h : f ds m = .ok d m1) (k : D → Mem → Rs β) : KF f ds m k = k d m1 := K_ok h k
/-! displays -/
def kTpl (k : D → Mem → Rs β) : List D → Mem → Rs β := fun xs m => if xs.length ≤ 1000 then k (.tup xs) m else .bad
theorem K_tpl (a : SA) (ρ : Ev) (m : Mem) (k : D → Mem → Rs β) : K (tpl a ρ) m k = K (a ρ) m (kTpl k) := by
  unfold tpl capE
  rw [K_bind]
  congr 1
  funext x m1
  unfold kTpl K
  by_cases h : x.length ≤ 1000
  · simp only [h, if_true]; rfl
  · simp only [h, if_false]
def kLsl (k : D → Mem → Rs β) : List D → Mem → Rs β := fun xs m => if xs.length ≤ 1000 then k (.lst xs) m else .bad
theorem K_lsl (a : SA) (ρ : Ev) (m : Mem) (k : D → Mem → Rs β) : K (lsl a ρ) m k = K (a ρ) m (kLsl k) := by
  unfold lsl capE
  rw [K_bind]
  congr 1
  funext x m1
  unfold kLsl K
  by_cases h : x.length ≤ 1000
  · simp only [h, if_true]; rfl
  · simp only [h, if_false]
def kLsm (k : D → Mem → Rs β) : List D → Mem → Rs β := fun xs m => if xs.length ≤ 1000 then k (.loc m.n) (m.new (.lst xs)) else .bad
theorem K_lsm (a : SA) (ρ : Ev) (m : Mem) (k : D → Mem → Rs β) : K (lsm a ρ) m k = K (a ρ) m (kLsm k) := by
  unfold lsm capE
  rw [K_bind]
  congr 1
  funext x m1
  unfold kLsm K
  by_cases h : x.length ≤ 1000
  · simp only [h, if_true]; rfl
  · simp only [h, if_false]
theorem K_dctE (ρ : Ev) (m : Mem) (k : D → Mem → Rs β) : K (dctE ρ) m k = k (.loc m.n) (m.new (.dct [])) := rfl
theorem kTpl_0 (k : D → Mem → Rs β) (m : Mem) : kTpl k [] m = k (.tup []) m := rfl
theorem kTpl_1 (k : D → Mem → Rs β) (a : D) (m : Mem) : kTpl k [a] m = k (.tup [a]) m := rfl
theorem kTpl_2 (k : D → Mem → Rs β) (a b : D) (m : Mem) : kTpl k [a, b] m = k (.tup [a, b]) m := rfl
theorem kTpl_3 (k : D → Mem → Rs β) (a b c : D) (m : Mem) : kTpl k [a, b, c] m = k (.tup [a, b, c]) m := rfl
theorem kTpl_4 (k : D → Mem → Rs β) (a b c d : D) (m : Mem) : kTpl k [a, b, c, d] m = k (.tup [a, b, c, d]) m := rfl
theorem kTpl_5 (k : D → Mem → Rs β) (a b c d e : D) (m : Mem) : kTpl k [a, b, c, d, e] m = k (.tup [a, b, c, d, e]) m := rfl
theorem kLsl_at (k : D → Mem → Rs β) (xs : List D) (m : Mem) (h : (Nat.ble xs.length 1000) = true) : kLsl k xs m = k (.lst xs) m := if_pos (Nat.le_of_ble_eq_true h)
theorem kLsl_0 (k : D → Mem → Rs β) (m : Mem) : kLsl k [] m = k (.lst []) m := rfl
theorem kLsl_1 (k : D → Mem → Rs β) (a : D) (m : Mem) : kLsl k [a] m = k (.lst [a]) m := rfl
theorem kLsl_2 (k : D → Mem → Rs β) (a b : D) (m : Mem) : kLsl k [a, b] m = k (.lst [a, b]) m := rfl
theorem kLsl_3 (k : D → Mem → Rs β) (a b c : D) (m : Mem) : kLsl k [a, b, c] m = k (.lst [a, b, c]) m := rfl
theorem kLsl_4 (k : D → Mem → Rs β) (a b c d : D) (m : Mem) : kLsl k [a, b, c, d] m = k (.lst [a, b, c, d]) m := rfl
theorem kLsm_0 (k : D → Mem → Rs β) (m : Mem) : kLsm k [] m = k (.loc m.n) (m.new (.lst [])) := rfl
theorem kLsm_at (k : D → Mem → Rs β) (xs : List D) (m : Mem) (h : (Nat.ble xs.length 1000) = true) : kLsm k xs m = k (.loc m.n) (m.new (.lst xs)) := if_pos (Nat.le_of_ble_eq_true h)
/-! tests -/
def kTV (k : Bool → Mem → Rs β) : D → Mem → Rs β := fun x m => match x with
  | .bl b => k b m
  | _ => .bad
theorem K_tV (a : SE) (ρ : Ev) (m : Mem) (k : Bool → Mem → Rs β) : K (tV a ρ) m k = K (a ρ) m (kTV k) := by
  unfold tV
  rw [K_bind]
  congr 1
  funext x m1
  cases x <;> rfl
theorem kTV_at (k : Bool → Mem → Rs β) (b : Bool) (m : Mem) : kTV k (.bl b) m = k b m := rfl
def kTAnd (b : SB) (ρ : Ev) (k : Bool → Mem → Rs β) : Bool → Mem → Rs β := fun c m => if c = true then K (b ρ) m k else k false m
theorem K_tAnd (a b : SB) (ρ : Ev) (m : Mem) (k : Bool → Mem → Rs β) : K (tAnd a b ρ) m k = K (a ρ) m (kTAnd b ρ k) := by
  unfold tAnd
  rw [K_bind]
  congr 1
  funext x m1
  cases x <;> rfl
theorem kTAnd_t (b : SB) (ρ : Ev) (k : Bool → Mem → Rs β) (m : Mem) : kTAnd b ρ k true m = K (b ρ) m k := rfl
theorem kTAnd_f (b : SB) (ρ : Ev) (k : Bool → Mem → Rs β) (m : Mem) : kTAnd b ρ k false m = k false m := rfl
def kTOr (b : SB) (ρ : Ev) (k : Bool → Mem → Rs β) : Bool → Mem → Rs β := fun c m => if c = true then k true m else K (b ρ) m k
theorem K_tOr (a b : SB) (ρ : Ev) (m : Mem) (k : Bool → Mem → Rs β) : K (tOr a b ρ) m k = K (a ρ) m (kTOr b ρ k) := by
  unfold tOr
  rw [K_bind]
  congr 1
  funext x m1
  cases x <;> rfl
theorem kTOr_t (b : SB) (ρ : Ev) (k : Bool → Mem → Rs β) (m : Mem) : kTOr b ρ k true m = k true m := rfl
theorem kTOr_f (b : SB) (ρ : Ev) (k : Bool → Mem → Rs β) (m : Mem) : kTOr b ρ k false m = K (b ρ) m k := rfl
def kTNot (k : Bool → Mem → Rs β) : Bool → Mem → Rs β := fun c m => k (!c) m
theorem K_tNot (a : SB) (ρ : Ev) (m : Mem) (k : Bool → Mem → Rs β) : K (LB.tNot a ρ) m k = K (a ρ) m (kTNot k) := by
  unfold LB.tNot
  rw [K_bind]
  rfl
theorem kTNot_t (k : Bool → Mem → Rs β) (m : Mem) : kTNot k true m = k false m := rfl
theorem kTNot_f (k : Bool → Mem → Rs β) (m : Mem) : kTNot k false m = k true m := rfl
theorem kTNot_at (k : Bool → Mem → Rs β) (c : Bool) (m : Mem) : kTNot k c m = k (!c) m := rfl
theorem K_tYes (ρ : Ev) (m : Mem) (k : Bool → Mem → Rs β) : K (tYes ρ) m k = k true m := rfl
def kVAnd (b : SE) (ρ : Ev) (k : D → Mem → Rs β) : D → Mem → Rs β := fun x m => match x with
  | .bl c => if c = true then K (b ρ) m k else k (.bl false) m
  | _ => .bad
theorem K_vAnd (a b : SE) (ρ : Ev) (m : Mem) (k : D → Mem → Rs β) : K (vAnd a b ρ) m k = K (a ρ) m (kVAnd b ρ k) := by
  unfold vAnd
  rw [K_bind]
  congr 1
  funext x m1
  rw [K_bind]
  cases x <;> try rfl
  rename_i c
  cases c <;> rfl
theorem kVAnd_t (b : SE) (ρ : Ev) (k : D → Mem → Rs β) (m : Mem) : kVAnd b ρ k (.bl true) m = K (b ρ) m k := rfl
theorem kVAnd_f (b : SE) (ρ : Ev) (k : D → Mem → Rs β) (m : Mem) : kVAnd b ρ k (.bl false) m = k (.bl false) m := rfl
def kVOr (b : SE) (ρ : Ev) (k : D → Mem → Rs β) : D → Mem → Rs β := fun x m => match x with
  | .bl c => if c = true then k (.bl true) m else K (b ρ) m k
  | _ => .bad
theorem K_vOr (a b : SE) (ρ : Ev) (m : Mem) (k : D → Mem → Rs β) : K (vOr a b ρ) m k = K (a ρ) m (kVOr b ρ k) := by
  unfold vOr
  rw [K_bind]
  congr 1
  funext x m1
  rw [K_bind]
  cases x <;> try rfl
  rename_i c
  cases c <;> rfl
theorem kVOr_t (b : SE) (ρ : Ev) (k : D → Mem → Rs β) (m : Mem) : kVOr b ρ k (.bl true) m = k (.bl true) m := rfl
theorem kVOr_f (b : SE) (ρ : Ev) (k : D → Mem → Rs β) (m : Mem) : kVOr b ρ k (.bl false) m = K (b ρ) m k := rfl
def kVNot (k : D → Mem → Rs β) : D → Mem → Rs β := fun x m => match x with
  | .bl c => k (.bl (!c)) m
  | _ => .bad
theorem K_vNot (a : SE) (ρ : Ev) (m : Mem) (k : D → Mem → Rs β) : K (vNot a ρ) m k = K (a ρ) m (kVNot k) := by
  unfold vNot
  rw [K_bind]
  congr 1
  funext x m1
  rw [K_bind]
  cases x <;> rfl
theorem kVNot_at (k : D → Mem → Rs β) (c : Bool) (m : Mem) : kVNot k (.bl c) m = k (.bl (!c)) m := rfl
def kIfE (a b : SE) (ρ : Ev) (k : D → Mem → Rs β) : Bool → Mem → Rs β := fun c m => if c = true then K (a ρ) m k else K (b ρ) m k
theorem K_ifE (t : SB) (a b : SE) (ρ : Ev) (m : Mem) (k : D → Mem → Rs β) : K (ifE t a b ρ) m k = K (t ρ) m (kIfE a b ρ k) := by
  unfold ifE
  rw [K_bind]
  congr 1
  funext x m1
  cases x <;> rfl
theorem kIfE_t (a b : SE) (ρ : Ev) (k : D → Mem → Rs β) (m : Mem) : kIfE a b ρ k true m = K (a ρ) m k := rfl
theorem kIfE_f (a b : SE) (ρ : Ev) (k : D → Mem → Rs β) (m : Mem) : kIfE a b ρ k false m = K (b ρ) m k := rfl
def kChn2 (g' : O2) (c : SE) (ρ : Ev) (y : D) (k : D → Mem → Rs β) : D → Mem → Rs β := fun x m => match x with
  | .bl t => if t = true then K (c ρ) m (kOp2b g' y k) else k (.bl false) m
  | _ => .bad
def kChn1 (g g' : O2) (c : SE) (ρ : Ev) (x : D) (k : D → Mem → Rs β) : D → Mem → Rs β := fun y m => K2 g x y m (kChn2 g' c ρ y k)
def kChn0 (g g' : O2) (b c : SE) (ρ : Ev) (k : D → Mem → Rs β) : D → Mem → Rs β := fun x m => K (b ρ) m (kChn1 g g' c ρ x k)
theorem K_chn (g g' : O2) (a b c : SE) (ρ : Ev) (m : Mem) (k : D → Mem → Rs β) : K (chn g g' a b c ρ) m k = K (a ρ) m (kChn0 g g' b c ρ k) := by
  unfold chn
  rw [K_bind]
  congr 1
  funext x m1
  rw [K_bind]
  unfold kChn0
  congr 1
  funext y m2
  rw [K_bind]
  unfold kChn1 K2
  rw [show (fun m => lift (g x y m) m) = (fun m => (lift (g x y m) : M D) m) from rfl]
  cases h : g x y m2 with
  | none => unfold K lift; simp only [h]; rfl
  | some d =>
    rw [K_ok (x := d) (m1 := m2) (by show lift (g x y m2) m2 = _; rw [h]; rfl), K_bind]
    cases d <;> try rfl
    rename_i t
    cases t
    · rfl
    · show K (M.bind (c ρ) fun z => fun m => lift (g' y z m) m) m2 k = K (c ρ) m2 (kOp2b g' y k)
      rw [K_bind]
      congr 1
      funext z m3
      exact K_lift _ _ _
theorem kChn0_at (g g' : O2) (b c : SE) (ρ : Ev) (k : D → Mem → Rs β) (x : D) (m : Mem) : kChn0 g g' b c ρ k x m = K (b ρ) m (kChn1 g g' c ρ x k) := rfl
theorem kChn1_at (g g' : O2) (c : SE) (ρ : Ev) (x : D) (k : D → Mem → Rs β) (y : D) (m : Mem) : kChn1 g g' c ρ x k y m = K2 g x y m (kChn2 g' c ρ y k) := rfl
theorem kChn2_t (g' : O2) (c : SE) (ρ : Ev) (y : D) (k : D → Mem → Rs β) (m : Mem) : kChn2 g' c ρ y k (.bl true) m = K (c ρ) m (kOp2b g' y k) := rfl
theorem kChn2_f (g' : O2) (c : SE) (ρ : Ev) (y : D) (k : D → Mem → Rs β) (m : Mem) : kChn2 g' c ρ y k (.bl false) m = k (.bl false) m := rfl
/-! slices -/
def kSoS (k : Option Int → Mem → Rs β) : D → Mem → Rs β := fun d m => match d with
  | .int i => k (some i) m
  | _ => .bad
theorem K_soN (ρ : Ev) (m : Mem) (k : Option Int → Mem → Rs β) : K (soN ρ) m k = k none m := rfl
theorem K_soS (a : SE) (ρ : Ev) (m : Mem) (k : Option Int → Mem → Rs β) : K (soS a ρ) m k = K (a ρ) m (kSoS k) := by
  unfold soS
  rw [K_bind]
  congr 1
  funext x m1
  cases x <;> rfl
theorem kSoS_at (k : Option Int → Mem → Rs β) (i : Int) (m : Mem) : kSoS k (.int i) m = k (some i) m := rfl
def KSl (x : D) (l h : Option Int) (m : Mem) (k : D → Mem → Rs β) : Rs β := KO (gSl x l h m) m k
def kSlc2 (x : D) (l : Option Int) (k : D → Mem → Rs β) : Option Int → Mem → Rs β := fun h m => KSl x l h m k
def kSlc1 (x : D) (hi : SO) (ρ : Ev) (k : D → Mem → Rs β) : Option Int → Mem → Rs β := fun l m => K (hi ρ) m (kSlc2 x l k)
def kSlc0 (lo hi : SO) (ρ : Ev) (k : D → Mem → Rs β) : D → Mem → Rs β := fun x m => K (lo ρ) m (kSlc1 x hi ρ k)
theorem K_slc (a : SE) (lo hi : SO) (ρ : Ev) (m : Mem) (k : D → Mem → Rs β) : K (slc a lo hi ρ) m k = K (a ρ) m (kSlc0 lo hi ρ k) := by
  unfold slc
  rw [K_bind]
  congr 1
  funext x m1
  rw [K_bind]
  unfold kSlc0
  congr 1
  funext l m2
  rw [K_bind]
  unfold kSlc1
  congr 1
  funext h m3
  exact K_lift _ _ _
theorem kSlc0_at (lo hi : SO) (ρ : Ev) (k : D → Mem → Rs β) (x : D) (m : Mem) : kSlc0 lo hi ρ k x m = K (lo ρ) m (kSlc1 x hi ρ k) := rfl
theorem kSlc1_at (x : D) (hi : SO) (ρ : Ev) (k : D → Mem → Rs β) (l : Option Int) (m : Mem) : kSlc1 x hi ρ k l m = K (hi ρ) m (kSlc2 x l k) := rfl
theorem kSlc2_at (x : D) (l : Option Int) (k : D → Mem → Rs β) (h : Option Int) (m : Mem) : kSlc2 x l k h m = KSl x l h m k := rfl
theorem KSl_tup (xs : List D) (l h : Option Int) (m : Mem) (k : D → Mem → Rs β) : KSl (.tup xs) l h m k = k (.tup (cutD xs l h)) m := rfl
theorem KSl_lst (xs : List D) (l h : Option Int) (m : Mem) (k : D → Mem → Rs β) : KSl (.lst xs) l h m k = k (.lst (cutD xs l h)) m := rfl
/-! statements -/
abbrev KS (β : Type) := Fl × Ev → Mem → Rs β
theorem K_sNext (ρ : Ev) (m : Mem) (k : KS β) : K (sNext ρ) m k = k (.nx, ρ) m := rfl
def kSeq (b : SS) (k : KS β) : KS β := fun r m => match r with
  | (.nx, ρ1) => K (b ρ1) m k
  | r => k r m
theorem K_sSeq (a b : SS) (ρ : Ev) (m : Mem) (k : KS β) : K (sSeq a b ρ) m k = K (a ρ) m (kSeq b k) := by
  unfold sSeq
  rw [K_bind]
  congr 1
  funext x m1
  obtain ⟨fl, ρ1⟩ := x
  cases fl <;> rfl
theorem kSeq_nx (b : SS) (k : KS β) (ρ : Ev) (m : Mem) : kSeq b k (.nx, ρ) m = K (b ρ) m k := rfl
theorem kSeq_rt (b : SS) (k : KS β) (d : D) (ρ : Ev) (m : Mem) : kSeq b k (.rt d, ρ) m = k (.rt d, ρ) m := rfl
def kRet (ρ : Ev) (k : KS β) : D → Mem → Rs β := fun d m => k (.rt d, ρ) m
theorem K_sRet (a : SE) (ρ : Ev) (m : Mem) (k : KS β) : K (sRet a ρ) m k = K (a ρ) m (kRet ρ k) := by
  unfold sRet
  rw [K_bind]
  rfl
theorem kRet_at (ρ : Ev) (k : KS β) (d : D) (m : Mem) : kRet ρ k d m = k (.rt d, ρ) m := rfl
theorem K_sRetN (ρ : Ev) (m : Mem) (k : KS β) : K (sRetN ρ) m k = k (.rt .non, ρ) m := rfl
def kExp (ρ : Ev) (k : KS β) : D → Mem → Rs β := fun _ m => k (.nx, ρ) m
theorem K_sExp (a : SE) (ρ : Ev) (m : Mem) (k : KS β) : K (sExp a ρ) m k = K (a ρ) m (kExp ρ k) := by
  unfold sExp
  rw [K_bind]
  rfl
theorem kExp_at (ρ : Ev) (k : KS β) (d : D) (m : Mem) : kExp ρ k d m = k (.nx, ρ) m := rfl
def kIf (a b : SS) (ρ : Ev) (k : KS β) : Bool → Mem → Rs β := fun c m => if c = true then K (a ρ) m k else K (b ρ) m k
theorem K_sIf (t : SB) (a b : SS) (ρ : Ev) (m : Mem) (k : KS β) : K (sIf t a b ρ) m k = K (t ρ) m (kIf a b ρ k) := by
  unfold sIf
  rw [K_bind]
  congr 1
  funext x m1
  cases x <;> rfl
theorem kIf_t (a b : SS) (ρ : Ev) (k : KS β) (m : Mem) : kIf a b ρ k true m = K (a ρ) m k := rfl
theorem kIf_f (a b : SS) (ρ : Ev) (k : KS β) (m : Mem) : kIf a b ρ k false m = K (b ρ) m k := rfl
/-! assignments -/
def kUn (acc ρ : Ev) (m : Mem) (k : KS β) : Rs β := k (.nx, acc.reverse ++ ρ) m
def kSet (acc ρ : Ev) (i : Nat) (d : D) (m : Mem) (k : KS β) : Rs β := k (.nx, acc.reverse ++ ρ.set i (some d)) m
theorem kSet_0 (acc ρ : Ev) (x : Option D) (d : D) (m : Mem) (k : KS β) : kSet acc (x :: ρ) 0 d m k = kUn acc (some d :: ρ) m k := rfl
theorem kSet_s (acc ρ : Ev) (x : Option D) (i : Nat) (d : D) (m : Mem) (k : KS β) : kSet acc (x :: ρ) (i + 1) d m k = kSet (x :: acc) ρ i d m k := by
  unfold kSet
  rw [List.set_cons_succ, List.reverse_cons, List.append_assoc]
  rfl
theorem kUn_c (x : Option D) (acc ρ : Ev) (m : Mem) (k : KS β) : kUn (x :: acc) ρ m k = kUn acc (x :: ρ) m k := by
  unfold kUn
  rw [List.reverse_cons, List.append_assoc]
  rfl
theorem kUn_n (ρ : Ev) (m : Mem) (k : KS β) : kUn [] ρ m k = k (.nx, ρ) m := rfl
def kAsg (g : SG) (ρ : Ev) (k : KS β) : D → Mem → Rs β := fun d m => match g d ρ with
  | some ρ1 => k (.nx, ρ1) m
  | none => .bad
theorem K_sAsg (a : SE) (g : SG) (ρ : Ev) (m : Mem) (k : KS β) : K (sAsg a g ρ) m k = K (a ρ) m (kAsg g ρ k) := by
  unfold sAsg
  rw [K_bind]
  congr 1
  funext x m1
  unfold kAsg
  cases h : g x ρ with
  | none => rfl
  | some r => rfl
theorem kAsg_nm (i : Nat) (ρ : Ev) (k : KS β) (d : D) (m : Mem) : kAsg (gNm i) ρ k d m = kSet [] ρ i d m k := rfl
/-- several names -/
def kNms (is : List Nat) (ds : List D) (ρ : Ev) (m : Mem) (k : KS β) : Rs β := match gNms is ds ρ with
  | some ρ1 => k (.nx, ρ1) m
  | none => .bad
def kNmsC (is : List Nat) (ds : List D) (k : KS β) : KS β := fun r m => kNms is ds r.2 m k
theorem kAsg_tp (is : List Nat) (ρ : Ev) (k : KS β) (ds : List D) (m : Mem) : kAsg (gTp is) ρ k (.tup ds) m = kNms is ds ρ m k := rfl
theorem kNms_c (i : Nat) (is : List Nat) (d : D) (ds : List D) (ρ : Ev) (m : Mem) (k : KS β) : kNms (i :: is) (d :: ds) ρ m k = kSet [] ρ i d m (kNmsC is ds k) := rfl
theorem kNmsC_at (is : List Nat) (ds : List D) (k : KS β) (ρ : Ev) (m : Mem) : kNmsC is ds k (.nx, ρ) m = kNms is ds ρ m k := rfl
theorem kNms_n (ρ : Ev) (m : Mem) (k : KS β) : kNms [] [] ρ m k = k (.nx, ρ) m := rfl
def kPar2 (i j : Nat) (x : D) (ρ : Ev) (k : KS β) : D → Mem → Rs β := fun y m => kNms [i, j] [x, y] ρ m k
def kPar1 (i j : Nat) (b : SE) (ρ : Ev) (k : KS β) : D → Mem → Rs β := fun x m => K (b ρ) m (kPar2 i j x ρ k)
theorem K_sPar (i j : Nat) (a b : SE) (ρ : Ev) (m : Mem) (k : KS β) : K (sPar i j a b ρ) m k = K (a ρ) m (kPar1 i j b ρ k) := by
  unfold sPar
  rw [K_bind]
  congr 1
  funext x m1
  rw [K_bind]
  rfl
theorem kPar1_at (i j : Nat) (b : SE) (ρ : Ev) (k : KS β) (x : D) (m : Mem) : kPar1 i j b ρ k x m = K (b ρ) m (kPar2 i j x ρ k) := rfl
theorem kPar2_at (i j : Nat) (x : D) (ρ : Ev) (k : KS β) (y : D) (m : Mem) : kPar2 i j x ρ k y m = kNms [i, j] [x, y] ρ m k := rfl
/-! a def's run -/
def kRun (k : D → Mem → Rs β) : KS β := fun r m => match r with
  | (.rt d, _) => k d m
  | (.nx, _) => k .non m
  | _ => .bad
theorem K_run (n : Nat) (f : SS) (ds : List D) (m : Mem) (k : D → Mem → Rs β) : K (run n f ds) m k = K (f (start n ds)) m (kRun k) := by
  unfold run
  rw [K_bind]
  congr 1
  funext x m1
  obtain ⟨fl, ρ1⟩ := x
  cases fl <;> rfl
theorem kRun_rt (k : D → Mem → Rs β) (d : D) (ρ : Ev) (m : Mem) : kRun k (.rt d, ρ) m = k d m := rfl
theorem kRun_nx (k : D → Mem → Rs β) (ρ : Ev) (m : Mem) : kRun k (.nx, ρ) m = k .non m := rfl
theorem start0 (n : Nat) (ds : List D) : start n ds = ds.map some ++ List.replicate (n - ds.length) none := rfl
end
end LB

set_option Elab.async false
set_option linter.all false
set_option autoImplicit false
set_option maxRecDepth 100000
set_option maxHeartbeats 1000000
/-! Pure: operations, the store, at the head. -/
namespace LB
open PySem
section
variable {α β γ : Type}
/-! numbers -/
theorem K2_add_i (i j : Int) (m : Mem) (k : D → Mem → Rs β) : K2 gAdd (.int i) (.int j) m k = k (.int (i + j)) m := rfl
theorem K2_sub_i (i j : Int) (m : Mem) (k : D → Mem → Rs β) : K2 gSub (.int i) (.int j) m k = k (.int (i - j)) m := rfl
theorem K2_mul_i (i j : Int) (m : Mem) (k : D → Mem → Rs β) (h : (small64 i || small64 j) = true) : K2 gMul (.int i) (.int j) m k = k (.int (i * j)) m := by
  refine KO_of ?_ m k
  exact if_pos h
theorem K2_mod_i (i j : Int) (m : Mem) (k : D → Mem → Rs β) (h : 0 < j) : K2 gMod (.int i) (.int j) m k = k (.int (i % j)) m := by
  refine KO_of ?_ m k
  show (if decide (j ≠ 0) = true then some (D.int (i.fmod j)) else none) = _
  rw [if_pos (decide_eq_true (by omega)), Int.fmod_eq_emod_of_nonneg _ (by omega)]
theorem K2_fdiv_i (i j : Int) (m : Mem) (k : D → Mem → Rs β) (h : 0 < j) (h2 : j < 1073741824) : K2 gFdiv (.int i) (.int j) m k = k (.int (i / j)) m := by
  refine KO_of ?_ m k
  show (if (decide (j ≠ 0) && decide (j.natAbs < 1073741824)) = true then some (D.int (i.fdiv j)) else none) = _
  have h3 : j.natAbs < 1073741824 := by omega
  rw [if_pos (by rw [decide_eq_true (by omega), decide_eq_true h3]; rfl), Int.fdiv_eq_ediv_of_nonneg _ (by omega)]
theorem K2_lt_i (i j : Int) (m : Mem) (k : D → Mem → Rs β) : K2 gLt (.int i) (.int j) m k = k (.bl (decide (i < j))) m := rfl
theorem K2_le_i (i j : Int) (m : Mem) (k : D → Mem → Rs β) : K2 gLe (.int i) (.int j) m k = k (.bl (decide (i ≤ j))) m := rfl
theorem K2_gt_i (i j : Int) (m : Mem) (k : D → Mem → Rs β) : K2 gGt (.int i) (.int j) m k = k (.bl (decide (j < i))) m := rfl
theorem K2_ge_i (i j : Int) (m : Mem) (k : D → Mem → Rs β) : K2 gGe (.int i) (.int j) m k = k (.bl (decide (j ≤ i))) m := rfl
theorem K2_eq_i (i j : Int) (m : Mem) (k : D → Mem → Rs β) : K2 gEq (.int i) (.int j) m k = k (.bl (decide (i = j))) m := rfl
theorem K2_ne_i (i j : Int) (m : Mem) (k : D → Mem → Rs β) : K2 gNe (.int i) (.int j) m k = k (.bl (!decide (i = j))) m := rfl
theorem K2_eq_st (i : Str) (m : Mem) (k : D → Mem → Rs β) : K2 gEq (.str i) (.str i) m k = k (.bl true) m := KO_of (by show some (D.bl (decide (i = i))) = _; rw [decide_eq_true rfl]) m k
theorem K2_eq_sf (i j : Str) (m : Mem) (k : D → Mem → Rs β) (h : decide (i = j) = false) : K2 gEq (.str i) (.str j) m k = k (.bl false) m := KO_of (by show some (D.bl (decide (i = j))) = _; rw [h]) m k
theorem K2_ne_st (i : Str) (m : Mem) (k : D → Mem → Rs β) : K2 gNe (.str i) (.str i) m k = k (.bl false) m := KO_of (by show some (D.bl (!decide (i = i))) = _; rw [decide_eq_true rfl]; rfl) m k
theorem K2_ne_sf (i j : Str) (m : Mem) (k : D → Mem → Rs β) (h : decide (i = j) = false) : K2 gNe (.str i) (.str j) m k = k (.bl true) m := KO_of (by show some (D.bl (!decide (i = j))) = _; rw [h]; rfl) m k
theorem K2_eq_s (i j : Str) (m : Mem) (k : D → Mem → Rs β) : K2 gEq (.str i) (.str j) m k = k (.bl (decide (i = j))) m := rfl
theorem K2_ne_s (i j : Str) (m : Mem) (k : D → Mem → Rs β) : K2 gNe (.str i) (.str j) m k = k (.bl (!decide (i = j))) m := rfl
theorem K2_eq_b (i j : Bool) (m : Mem) (k : D → Mem → Rs β) : K2 gEq (.bl i) (.bl j) m k = k (.bl (decide (i = j))) m := rfl
theorem K2_add_t (xs ys : List D) (m : Mem) (k : D → Mem → Rs β) (h : xs.length + ys.length ≤ sizeLine) : K2 gAdd (.tup xs) (.tup ys) m k = k (.tup (xs ++ ys)) m := KO_of (if_pos h) m k
theorem K2_add_l (xs ys : List D) (m : Mem) (k : D → Mem → Rs β) (h : xs.length + ys.length ≤ sizeLine) : K2 gAdd (.lst xs) (.lst ys) m k = k (.lst (xs ++ ys)) m := KO_of (if_pos h) m k
theorem K1_neg_i (i : Int) (m : Mem) (k : D → Mem → Rs β) : K1 gNeg (.int i) m k = k (.int (-i)) m := rfl
theorem K2_isN_n (m : Mem) (k : D → Mem → Rs β) : K2 gIsN .non .non m k = k (.bl true) m := rfl
theorem K2_isN_i (i : Int) (m : Mem) (k : D → Mem → Rs β) : K2 gIsN (.int i) .non m k = k (.bl false) m := rfl
theorem K2_isN_s (i : Str) (m : Mem) (k : D → Mem → Rs β) : K2 gIsN (.str i) .non m k = k (.bl false) m := rfl
theorem K2_isN_t (i : List D) (m : Mem) (k : D → Mem → Rs β) : K2 gIsN (.tup i) .non m k = k (.bl false) m := rfl
theorem K2_isN_l (i : List D) (m : Mem) (k : D → Mem → Rs β) : K2 gIsN (.lst i) .non m k = k (.bl false) m := rfl
theorem K2_isN_c (i : Nat) (m : Mem) (k : D → Mem → Rs β) : K2 gIsN (.loc i) .non m k = k (.bl false) m := rfl
theorem K2_notN_n (m : Mem) (k : D → Mem → Rs β) : K2 gNotN .non .non m k = k (.bl false) m := rfl
theorem K2_notN_i (i : Int) (m : Mem) (k : D → Mem → Rs β) : K2 gNotN (.int i) .non m k = k (.bl true) m := rfl
theorem K2_notN_s (i : Str) (m : Mem) (k : D → Mem → Rs β) : K2 gNotN (.str i) .non m k = k (.bl true) m := rfl
theorem K2_notN_t (i : List D) (m : Mem) (k : D → Mem → Rs β) : K2 gNotN (.tup i) .non m k = k (.bl true) m := rfl
theorem K2_notN_l (i : List D) (m : Mem) (k : D → Mem → Rs β) : K2 gNotN (.lst i) .non m k = k (.bl true) m := rfl
theorem K2_notN_c (i : Nat) (m : Mem) (k : D → Mem → Rs β) : K2 gNotN (.loc i) .non m k = k (.bl true) m := rfl
/-! places in tuples and lists -/
def KIx (xs : List D) (i : Int) (m : Mem) (k : D → Mem → Rs β) : Rs β := KO (atD xs i) m k
theorem K2_ix_t (xs : List D) (i : Int) (m : Mem) (k : D → Mem → Rs β) : K2 gIx (.tup xs) (.int i) m k = KIx xs i m k := rfl
theorem K2_ix_l (xs : List D) (i : Int) (m : Mem) (k : D → Mem → Rs β) : K2 gIx (.lst xs) (.int i) m k = KIx xs i m k := rfl
theorem KIx_0 (x : D) (r : List D) (m : Mem) (k : D → Mem → Rs β) : KIx (x :: r) 0 m k = k x m := by
  refine KO_of ?_ m k
  show (ixD (r.length + 1) 0).bind (fun j => (x :: r)[j]?) = _
  unfold ixD
  rw [if_pos (Int.le_refl 0), if_pos (by omega)]
  rfl
theorem KIx_1 (x y : D) (r : List D) (m : Mem) (k : D → Mem → Rs β) : KIx (x :: y :: r) 1 m k = k y m := by
  refine KO_of ?_ m k
  show (ixD (r.length + 1 + 1) 1).bind (fun j => (x :: y :: r)[j]?) = _
  unfold ixD
  rw [if_pos (by decide), if_pos (by omega)]
  rfl
theorem KIx_2 (x y z : D) (r : List D) (m : Mem) (k : D → Mem → Rs β) : KIx (x :: y :: z :: r) 2 m k = k z m := by
  refine KO_of ?_ m k
  show (ixD (r.length + 1 + 1 + 1) 2).bind (fun j => (x :: y :: z :: r)[j]?) = _
  unfold ixD
  rw [if_pos (by decide), if_pos (by omega)]
  rfl
theorem KIx_3 (x y z u : D) (r : List D) (m : Mem) (k : D → Mem → Rs β) : KIx (x :: y :: z :: u :: r) 3 m k = k u m := by
  refine KO_of ?_ m k
  show (ixD (r.length + 1 + 1 + 1 + 1) 3).bind (fun j => (x :: y :: z :: u :: r)[j]?) = _
  unfold ixD
  rw [if_pos (by decide), if_pos (by omega)]
  rfl
theorem KIx_4 (x y z u v : D) (r : List D) (m : Mem) (k : D → Mem → Rs β) : KIx (x :: y :: z :: u :: v :: r) 4 m k = k v m := by
  refine KO_of ?_ m k
  show (ixD (r.length + 1 + 1 + 1 + 1 + 1) 4).bind (fun j => (x :: y :: z :: u :: v :: r)[j]?) = _
  unfold ixD
  rw [if_pos (by decide), if_pos (by omega)]
  rfl
theorem KIx_m1a (x : D) (m : Mem) (k : D → Mem → Rs β) : KIx [x] (-1) m k = k x m := rfl
theorem KIx_m1b (x y : D) (m : Mem) (k : D → Mem → Rs β) : KIx [x, y] (-1) m k = k y m := rfl
theorem KIx_m1c (x y z : D) (m : Mem) (k : D → Mem → Rs β) : KIx [x, y, z] (-1) m k = k z m := rfl
theorem KIx_m1d (x y z u : D) (m : Mem) (k : D → Mem → Rs β) : KIx [x, y, z, u] (-1) m k = k u m := rfl
theorem atD_nat {α : Type} (xs : List α) (i : Nat) : atD xs (i : Int) = xs[i]? := by
  unfold atD ixD
  rw [if_pos (Int.natCast_nonneg i)]
  by_cases h : i < xs.length
  · rw [if_pos (by omega)]
    rfl
  · rw [if_neg (by omega), List.getElem?_eq_none (by omega)]
    rfl
theorem KIx_of {xs : List D} {i : Nat} {d : D} (h : xs[i]? = some d) (m : Mem) (k : D → Mem → Rs β) : KIx xs (i : Int) m k = k d m := KO_of (by rw [atD_nat]; exact h) m k
theorem KIx_ofI {xs : List D} {i : Int} {d : D} (h0 : 0 ≤ i) (h : xs[i.toNat]? = some d) (m : Mem) (k : D → Mem → Rs β) : KIx xs i m k = k d m := by
  have e : i = (i.toNat : Int) := by omega
  rw [e]
  exact KIx_of h m k
/-! built-ins -/
theorem KN_len_t (xs : List D) (m : Mem) (k : D → Mem → Rs β) : KN gLen [.tup xs] m k = k (.int xs.length) m := rfl
theorem KN_len_l (xs : List D) (m : Mem) (k : D → Mem → Rs β) : KN gLen [.lst xs] m k = k (.int xs.length) m := rfl
theorem KN_max2 (i j : Int) (m : Mem) (k : D → Mem → Rs β) : KN gMax2 [.int i, .int j] m k = k (.int (max i j)) m := by
  refine KO_of ?_ m k
  show some (D.int (if j > i then j else i)) = _
  congr 2
  rw [Int.max_def]
  split <;> split <;> omega
theorem KN_min2 (i j : Int) (m : Mem) (k : D → Mem → Rs β) : KN gMin2 [.int i, .int j] m k = k (.int (min i j)) m := by
  refine KO_of ?_ m k
  show some (D.int (if j < i then j else i)) = _
  congr 2
  rw [Int.min_def]
  split <;> split <;> omega
theorem KN_int_i (i : Int) (m : Mem) (k : D → Mem → Rs β) : KN gInt [.int i] m k = k (.int i) m := rfl
theorem KN_int_t (m : Mem) (k : D → Mem → Rs β) : KN gInt [.bl true] m k = k (.int 1) m := rfl
theorem KN_int_f (m : Mem) (k : D → Mem → Rs β) : KN gInt [.bl false] m k = k (.int 0) m := rfl
theorem KN_int_b (b : Bool) (m : Mem) (k : D → Mem → Rs β) : KN gInt [.bl b] m k = k (.int (if b = true then 1 else 0)) m := rfl
theorem KN_tuple_l (xs : List D) (m : Mem) (k : D → Mem → Rs β) : KN gTuple [.lst xs] m k = k (.tup xs) m := rfl
theorem KN_tuple_t (xs : List D) (m : Mem) (k : D → Mem → Rs β) : KN gTuple [.tup xs] m k = k (.tup xs) m := rfl
theorem KN_maxl (ns : List Int) (m : Mem) (k : D → Mem → Rs β) : KN gMax [.lst (ns.map D.int)] m k = KO ((maxL ns).map D.int) m k := by
  unfold KN
  congr 1
  show (intsOf (ns.map D.int)).bind (fun ns => (maxL ns).map D.int) = _
  rw [intsOf_map]
  rfl
theorem KN_suml (ns : List Int) (m : Mem) (k : D → Mem → Rs β) : KN gSum [.lst (ns.map D.int)] m k = k (.int ns.sum) m := by
  refine KO_of ?_ m k
  show (intsOf (ns.map D.int)).map (fun ns => D.int ns.sum) = _
  rw [intsOf_map]
  rfl
theorem K1_isi_n (T : String) (m : Mem) (k : D → Mem → Rs β) : K1 (gIsi T) .non m k = k (.bl false) m := rfl
theorem K1_isi_b (T : String) (b : Bool) (m : Mem) (k : D → Mem → Rs β) : K1 (gIsi T) (.bl b) m k = k (.bl (T == "bool" || T == "int")) m := rfl
theorem K1_isi_i (T : String) (i : Int) (m : Mem) (k : D → Mem → Rs β) : K1 (gIsi T) (.int i) m k = k (.bl (T == "int")) m := rfl
theorem K1_isi_s (T : String) (i : Str) (m : Mem) (k : D → Mem → Rs β) : K1 (gIsi T) (.str i) m k = k (.bl (T == "str")) m := rfl
theorem K1_isi_t (T : String) (i : List D) (m : Mem) (k : D → Mem → Rs β) : K1 (gIsi T) (.tup i) m k = k (.bl (T == "tuple")) m := rfl
theorem K1_isi_l (T : String) (i : List D) (m : Mem) (k : D → Mem → Rs β) : K1 (gIsi T) (.lst i) m k = k (.bl (T == "list")) m := rfl
/-! the store -/
theorem Mem.put_n (m : Mem) (c : Nat) (o : MO) : (m.put c o).n = m.n := rfl
theorem Mem.new_n (m : Mem) (o : MO) : (m.new o).n = m.n + 1 := rfl
theorem Mem.kill_n (m : Mem) (c : Nat) : (m.kill c).n = m.n := rfl
/-- what stands at c in mm, m going on -/
def KG (c : Nat) (mm : Mem) (m : Mem) (k : MO → Mem → Rs β) : Rs β := if c < m.n then KO (mm.get c) m k else .bad
theorem KG_of {c : Nat} {mm : Mem} {o : MO} (h : mm.get c = some o) (m : Mem) (k : MO → Mem → Rs β) (hn : c < m.n) : KG c mm m k = k o m := by
  unfold KG
  rw [if_pos hn, h]
  rfl
theorem KG_put_eq (c : Nat) (mm : Mem) (o : MO) (m : Mem) (k : MO → Mem → Rs β) (hn : c < m.n) : KG c (mm.put c o) m k = k o m := KG_of (if_pos rfl) m k hn
theorem KG_put_ne (c j : Nat) (mm : Mem) (o : MO) (m : Mem) (k : MO → Mem → Rs β) (h : c ≠ j) : KG c (mm.put j o) m k = KG c mm m k := by
  unfold KG
  rw [show (mm.put j o).get c = mm.get c from if_neg h]
theorem KG_new_eq (mm : Mem) (o : MO) (m : Mem) (k : MO → Mem → Rs β) (hn : mm.n < m.n) : KG mm.n (mm.new o) m k = k o m := KG_of (if_pos rfl) m k hn
theorem KG_new_ne (c : Nat) (mm : Mem) (o : MO) (m : Mem) (k : MO → Mem → Rs β) (h : c ≠ mm.n) : KG c (mm.new o) m k = KG c mm m k := by
  unfold KG
  rw [show (mm.new o).get c = mm.get c from if_neg h]
theorem KG_kill_ne (c j : Nat) (mm : Mem) (m : Mem) (k : MO → Mem → Rs β) (h : c ≠ j) : KG c (mm.kill j) m k = KG c mm m k := by
  unfold KG
  rw [show (mm.kill j).get c = mm.get c from if_neg h]
def kIxL (i : Int) (k : D → Mem → Rs β) : MO → Mem → Rs β := fun o m => match o with
  | .lst xs => KIx xs i m k
  | _ => .bad
theorem lst_KG {α : Type} (c : Nat) (m : Mem) (f : List D → Option α) (k : α → Mem → Rs β) : KO ((lstOf m (.loc c)).bind f) m k = KG c m m (fun o m => match o with
  | .lst xs => KO (f xs) m k
  | _ => .bad) := by
  unfold KG
  show KO ((if c < m.n then (match m.get c with
    | some (.lst xs) => some xs
    | _ => none) else none).bind f) m k = _
  by_cases h : c < m.n
  · rw [if_pos h, if_pos h]
    cases hg : m.get c with
    | none => rfl
    | some o => cases o <;> rfl
  · rw [if_neg h, if_neg h]
    rfl
theorem K2_ix_c (c : Nat) (i : Int) (m : Mem) (k : D → Mem → Rs β) : K2 gIx (.loc c) (.int i) m k = KG c m m (kIxL i k) := lst_KG c m (fun xs => atD xs i) k
theorem kIxL_at (i : Int) (k : D → Mem → Rs β) (xs : List D) (m : Mem) : kIxL i k (.lst xs) m = KIx xs i m k := rfl
def kLenL (k : D → Mem → Rs β) : MO → Mem → Rs β := fun o m => match o with
  | .lst xs => k (.int xs.length) m
  | .dct kvs => k (.int kvs.length) m
  | _ => .bad
theorem KN_len_c (c : Nat) (m : Mem) (k : D → Mem → Rs β) : KN gLen [.loc c] m k = KG c m m (kLenL k) := by
  unfold KG
  show KO (if c < m.n then (match m.get c with
    | some (.lst xs) => some (.int xs.length)
    | some (.dct kvs) => some (.int kvs.length)
    | _ => none) else none) m k = _
  by_cases h : c < m.n
  · rw [if_pos h, if_pos h]
    cases hg : m.get c with
    | none => rfl
    | some o => cases o <;> rfl
  · rw [if_neg h, if_neg h]
    rfl
theorem kLenL_l (k : D → Mem → Rs β) (xs : List D) (m : Mem) : kLenL k (.lst xs) m = k (.int xs.length) m := rfl
theorem kLenL_d (k : D → Mem → Rs β) (xs : List (KeyS × D)) (m : Mem) : kLenL k (.dct xs) m = k (.int xs.length) m := rfl
def kTupL (k : D → Mem → Rs β) : MO → Mem → Rs β := fun o m => match o with
  | .lst xs => k (.tup xs) m
  | _ => .bad
theorem KN_tuple_c (c : Nat) (m : Mem) (k : D → Mem → Rs β) : KN gTuple [.loc c] m k = KG c m m (kTupL k) := by
  have h := lst_KG c m (fun xs => some (D.tup xs)) k
  unfold KN
  rw [show gTuple [.loc c] m = ((lstOf m (.loc c)).bind fun xs => some (D.tup xs)) from by show (lstOf m (.loc c)).map D.tup = _; cases lstOf m (.loc c) <;> rfl, h]
  rfl
theorem kTupL_at (k : D → Mem → Rs β) (xs : List D) (m : Mem) : kTupL k (.lst xs) m = k (.tup xs) m := rfl
def kMaxL (k : D → Mem → Rs β) : MO → Mem → Rs β := fun o m => match o with
  | .lst xs => KN gMax [.lst xs] m k
  | _ => .bad
theorem KN_max_c (c : Nat) (m : Mem) (k : D → Mem → Rs β) : KN gMax [.loc c] m k = KG c m m (kMaxL k) := lst_KG c m (fun xs => (intsOf xs).bind fun ns => (maxL ns).map D.int) k
theorem kMaxL_at (k : D → Mem → Rs β) (xs : List D) (m : Mem) : kMaxL k (.lst xs) m = KN gMax [.lst xs] m k := rfl
def kSlL (l h : Option Int) (k : D → Mem → Rs β) : MO → Mem → Rs β := fun o m => match o with
  | .lst xs => k (.lst (cutD xs l h)) m
  | _ => .bad
theorem KSl_c (c : Nat) (l h : Option Int) (m : Mem) (k : D → Mem → Rs β) : KSl (.loc c) l h m k = KG c m m (kSlL l h k) := by
  have z := lst_KG c m (fun xs => some (D.lst (cutD xs l h))) k
  unfold KSl
  rw [show gSl (.loc c) l h m = ((lstOf m (.loc c)).bind fun xs => some (D.lst (cutD xs l h))) from by show (lstOf m (.loc c)).map _ = _; cases lstOf m (.loc c) <;> rfl, z]
  rfl
theorem kSlL_at (l h : Option Int) (k : D → Mem → Rs β) (xs : List D) (m : Mem) : kSlL l h k (.lst xs) m = k (.lst (cutD xs l h)) m := rfl
/-! lists that change -/
def kApp3 (c : Nat) (d : D) (k : D → Mem → Rs β) : MO → Mem → Rs β := fun o m => match o with
  | .lst xs => if xs.length < sizeLine then k .non (m.put c (.lst (xs ++ [d]))) else .bad
  | _ => .bad
def kApp2 (l : D) (k : D → Mem → Rs β) : D → Mem → Rs β := fun d m => match l with
  | .loc c => KG c m m (kApp3 c d k)
  | _ => .bad
def kApp1b (c : Nat) (e : SE) (ρ : Ev) (k : D → Mem → Rs β) : MO → Mem → Rs β := fun o m => match o with
  | .lst _ => K (e ρ) m (kApp2 (.loc c) k)
  | _ => .bad
def kApp1 (e : SE) (ρ : Ev) (k : D → Mem → Rs β) : D → Mem → Rs β := fun l m => match l with
  | .loc c => KG c m m (kApp1b c e ρ k)
  | ld => K (M.bind (chkL ld) fun _ => M.bind (e ρ) fun ed => M.bind (updL ld fun xs => if xs.length < sizeLine then some (xs ++ [ed]) else none) fun _ => M.pure .non) m k
theorem K_updL (c : Nat) (f : List D → Option (List D)) (m : Mem) (k : Unit → Mem → Rs β) : K (updL (.loc c) f) m k = KG c m m (fun o m => match o with
  | .lst xs => (match f xs with
    | some ys => k () (m.put c (.lst ys))
    | none => .bad)
  | _ => .bad) := by
  unfold KG
  by_cases h : c < m.n
  · rw [if_pos h]
    cases hg : m.get c with
    | none => exact K_bad (by unfold updL; simp only [h, if_true, hg]) _
    | some o =>
      cases o with
      | lst xs =>
        rw [KO_some]
        cases hf : f xs with
        | none => 
          rw [K_bad (by unfold updL; simp only [h, if_true, hg, hf]) _]
          simp only [hf]
        | some ys =>
          rw [K_ok (x := ()) (m1 := m.put c (.lst ys)) (by unfold updL; simp only [h, if_true, hg, hf]) _]
          simp only [hf]
      | dct _ => exact K_bad (by unfold updL; simp only [h, if_true, hg]) _
      | obj _ _ => exact K_bad (by unfold updL; simp only [h, if_true, hg]) _
      | dcn _ => exact K_bad (by unfold updL; simp only [h, if_true, hg]) _
  · rw [if_neg h]
    exact K_bad (by unfold updL; simp only [h, if_false]) _
theorem KG_congr {c : Nat} {mm m : Mem} {k k' : MO → Mem → Rs β} (h : ∀ o, k o m = k' o m) : KG c mm m k = KG c mm m k' := by
  unfold KG
  by_cases hn : c < m.n
  · rw [if_pos hn, if_pos hn]
    cases mm.get c with
    | none => rfl
    | some o => exact h o
  · rw [if_neg hn, if_neg hn]
theorem K_appE (l e : SE) (ρ : Ev) (m : Mem) (k : D → Mem → Rs β) : K (appE l e ρ) m k = K (l ρ) m (kApp1 e ρ k) := by
  unfold appE
  rw [K_bind]
  congr 1
  funext x m1
  rw [K_bind]
  cases x with
  | loc c =>
    show _ = KG c m1 m1 (kApp1b c e ρ k)
    have h1 : ∀ kk : Unit → Mem → Rs β, K (chkL (.loc c)) m1 kk = KO ((lstOf m1 (.loc c)).bind fun _ => some ()) m1 kk := by
      intro kk
      cases hl : lstOf m1 (.loc c) with
      | none => exact K_bad (by unfold chkL; rw [hl]; rfl) _
      | some xs => exact K_ok (by unfold chkL; rw [hl]; rfl) _
    rw [h1, lst_KG]
    refine KG_congr fun o => ?_
    cases o with
    | dct _ => rfl
    | obj _ _ => rfl
    | dcn _ => rfl
    | lst xs =>
      show K (M.bind (e ρ) fun ed => M.bind (updL (.loc c) fun xs => if xs.length < sizeLine then some (xs ++ [ed]) else none) fun _ => M.pure .non) m1 k = K (e ρ) m1 (kApp2 (.loc c) k)
      rw [K_bind]
      congr 1
      funext d m2
      rw [K_bind, K_updL]
      refine KG_congr fun o => ?_
      cases o with
      | dct _ => rfl
      | obj _ _ => rfl
      | dcn _ => rfl
      | lst ys =>
        unfold kApp3
        by_cases hl : ys.length < sizeLine
        · simp only [hl, if_true]
          rfl
        · simp only [hl, if_false]
  | _ => rfl
theorem kApp1_at (e : SE) (ρ : Ev) (k : D → Mem → Rs β) (c : Nat) (m : Mem) : kApp1 e ρ k (.loc c) m = KG c m m (kApp1b c e ρ k) := rfl
theorem kApp1b_at (c : Nat) (e : SE) (ρ : Ev) (k : D → Mem → Rs β) (xs : List D) (m : Mem) : kApp1b c e ρ k (.lst xs) m = K (e ρ) m (kApp2 (.loc c) k) := rfl
theorem kApp2_at (c : Nat) (k : D → Mem → Rs β) (d : D) (m : Mem) : kApp2 (.loc c) k d m = KG c m m (kApp3 c d k) := rfl
theorem kApp3_at (c : Nat) (d : D) (k : D → Mem → Rs β) (xs : List D) (m : Mem) (h : xs.length < sizeLine) : kApp3 c d k (.lst xs) m = k .non (m.put c (.lst (xs ++ [d]))) := if_pos h
/-! xs[i] = e -/
def kPut4 (c : Nat) (i : Int) (d : D) (ρ : Ev) (k : KS β) : MO → Mem → Rs β := fun o m => match o with
  | .lst xs => KO (ixD xs.length i) m fun j m => k (.nx, ρ) (m.put c (.lst (xs.set j d)))
  | _ => .bad
def kPut3 (d : D) (l : D) (ρ : Ev) (k : KS β) : D → Mem → Rs β := fun i m => match l, i with
  | .loc c, .int i => KG c m m (kPut4 c i d ρ k)
  | l, i => K (M.bind (lputK l i d) fun _ => M.pure (.nx, ρ)) m k
def kPut2 (i : SE) (d : D) (ρ : Ev) (k : KS β) : D → Mem → Rs β := fun l m => K (i ρ) m (kPut3 d l ρ k)
def kPut1 (l i : SE) (ρ : Ev) (k : KS β) : D → Mem → Rs β := fun d m => K (l ρ) m (kPut2 i d ρ k)
theorem K_sLput (l i e : SE) (ρ : Ev) (m : Mem) (k : KS β) : K (sLput l i e ρ) m k = K (e ρ) m (kPut1 l i ρ k) := by
  unfold sLput
  rw [K_bind]
  congr 1
  funext d m1
  rw [K_bind]
  unfold kPut1
  congr 1
  funext x m2
  rw [K_bind]
  unfold kPut2
  congr 1
  funext y m3
  unfold kPut3
  split
  · rename_i c v
    rw [K_bind]
    show K (updL (.loc c) fun xs => (ixD xs.length v).map fun j => xs.set j d) m3 _ = _
    rw [K_updL]
    refine KG_congr fun o => ?_
    cases o with
    | dct _ => rfl
    | obj _ _ => rfl
    | dcn _ => rfl
    | lst xs =>
      unfold kPut4
      show (match (ixD xs.length v).map fun j => xs.set j d with
        | some ys => _
        | none => _) = KO (ixD xs.length v) m3 _
      cases ixD xs.length v <;> rfl
  · rfl
theorem kPut1_at (l i : SE) (ρ : Ev) (k : KS β) (d : D) (m : Mem) : kPut1 l i ρ k d m = K (l ρ) m (kPut2 i d ρ k) := rfl
theorem kPut2_at (i : SE) (d : D) (ρ : Ev) (k : KS β) (l : D) (m : Mem) : kPut2 i d ρ k l m = K (i ρ) m (kPut3 d l ρ k) := rfl
theorem kPut3_at (d : D) (c : Nat) (ρ : Ev) (k : KS β) (i : Int) (m : Mem) : kPut3 d (.loc c) ρ k (.int i) m = KG c m m (kPut4 c i d ρ k) := rfl
theorem kPut4_at (c : Nat) (i : Int) (d : D) (ρ : Ev) (k : KS β) (xs : List D) (m : Mem) (h0 : 0 ≤ i) (h1 : i < xs.length) : kPut4 c i d ρ k (.lst xs) m = k (.nx, ρ) (m.put c (.lst (xs.set i.toNat d))) := by
  have e : ixD xs.length i = some i.toNat := by
    unfold ixD
    rw [if_pos h0, if_pos h1]
  unfold kPut4
  simp only [e]
  rfl
/-! dicts -/
def kDgD (x : KeyS) (k : D → Mem → Rs β) : MO → Mem → Rs β := fun o m => match o with
  | .dct kvs => KO (valK kvs x) m k
  | _ => .bad
theorem dct_KG {α : Type} (c : Nat) (m : Mem) (f : List (KeyS × D) → Option α) (k : α → Mem → Rs β) : KO ((dctOf m (.loc c)).bind f) m k = KG c m m (fun o m => match o with
  | .dct xs => KO (f xs) m k
  | _ => .bad) := by
  unfold KG
  show KO ((if c < m.n then (match m.get c with
    | some (.dct xs) => some xs
    | _ => none) else none).bind f) m k = _
  by_cases h : c < m.n
  · rw [if_pos h, if_pos h]
    cases hg : m.get c with
    | none => rfl
    | some o => cases o <;> rfl
  · rw [if_neg h, if_neg h]
    rfl
theorem K2_dget_i (c : Nat) (i : Int) (m : Mem) (k : D → Mem → Rs β) : K2 gDget (.loc c) (.int i) m k = KG c m m (kDgD (.inl i) k) := dct_KG c m (fun kvs => valK kvs (.inl i)) k
theorem K2_dget_s (c : Nat) (i : Str) (m : Mem) (k : D → Mem → Rs β) : K2 gDget (.loc c) (.str i) m k = KG c m m (kDgD (.inr i) k) := dct_KG c m (fun kvs => valK kvs (.inr i)) k
def KVk (kvs : List (KeyS × D)) (x : KeyS) (m : Mem) (k : D → Mem → Rs β) : Rs β := KO (valK kvs x) m k
theorem kDgD_at (x : KeyS) (k : D → Mem → Rs β) (kvs : List (KeyS × D)) (m : Mem) : kDgD x k (.dct kvs) m = KVk kvs x m k := rfl
theorem valK_hd (x : KeyS) (v : D) (r : List (KeyS × D)) : valK ((x, v) :: r) x = some v := by
  unfold valK
  rw [List.find?_cons, show decide (x = x) = true from decide_eq_true rfl]
  rfl
theorem valK_tl {x y : KeyS} (v : D) (r : List (KeyS × D)) (h : ¬ y = x) : valK ((y, v) :: r) x = valK r x := by
  unfold valK
  rw [List.find?_cons, show decide (y = x) = false from decide_eq_false h]
theorem KVk_eq (x : KeyS) (v : D) (r : List (KeyS × D)) (m : Mem) (k : D → Mem → Rs β) : KVk ((x, v) :: r) x m k = k v m := KO_of (valK_hd x v r) m k
theorem KVk_ne (a b : Str) (v : D) (r : List (KeyS × D)) (m : Mem) (k : D → Mem → Rs β) (h : (a == b) = false) : KVk ((.inr a, v) :: r) (.inr b) m k = KVk r (.inr b) m k := by
  unfold KVk
  rw [valK_tl v r (fun e => by rw [Sum.inr.inj e, beq_self_eq_true] at h; cases h)]
def KVd (kvs : List (KeyS × D)) (x : KeyS) (d : D) (m : Mem) (k : D → Mem → Rs β) : Rs β := k ((valK kvs x).getD d) m
theorem KVd_eq (x : KeyS) (v d : D) (r : List (KeyS × D)) (m : Mem) (k : D → Mem → Rs β) : KVd ((x, v) :: r) x d m k = k v m := by
  unfold KVd
  rw [valK_hd]
  rfl
theorem KVd_ne (a b : Str) (v d : D) (r : List (KeyS × D)) (m : Mem) (k : D → Mem → Rs β) (h : (a == b) = false) : KVd ((.inr a, v) :: r) (.inr b) d m k = KVd r (.inr b) d m k := by
  unfold KVd
  rw [valK_tl v r (fun e => by rw [Sum.inr.inj e, beq_self_eq_true] at h; cases h)]
theorem KVd_n (x : KeyS) (d : D) (m : Mem) (k : D → Mem → Rs β) : KVd [] x d m k = k d m := rfl
def kDg4 (x : D) (key : D) (k : D → Mem → Rs β) : MO → Mem → Rs β := fun o m => match o with
  | .dct kvs => KO ((keyOf key).map fun q => (valK kvs q).getD x) m k
  | _ => .bad
def kDg3 (c : Nat) (key : D) (k : D → Mem → Rs β) : D → Mem → Rs β := fun x m => KG c m m (kDg4 x key k)
def kDg2 (c : Nat) (x : SE) (ρ : Ev) (k : D → Mem → Rs β) : D → Mem → Rs β := fun key m => K (x ρ) m (kDg3 c key k)
def kDg1b (c : Nat) (i x : SE) (ρ : Ev) (k : D → Mem → Rs β) : MO → Mem → Rs β := fun o m => match o with
  | .dct _ => K (i ρ) m (kDg2 c x ρ k)
  | _ => .bad
def kDg1 (i x : SE) (ρ : Ev) (k : D → Mem → Rs β) : D → Mem → Rs β := fun d m => match d with
  | .loc c => KG c m m (kDg1b c i x ρ k)
  | _ => .bad
theorem K_dget2 (d i x : SE) (ρ : Ev) (m : Mem) (k : D → Mem → Rs β) : K (dget2 d i x ρ) m k = K (d ρ) m (kDg1 i x ρ k) := by
  unfold dget2
  rw [K_bind]
  congr 1
  funext y m1
  rw [K_bind]
  cases y with
  | loc c =>
    have h1 : ∀ kk : Unit → Mem → Rs β, K (fun m => if isDct m (.loc c) = true then Rs.ok () m else .bad) m1 kk = KO ((dctOf m1 (.loc c)).bind fun _ => some ()) m1 kk := by
      intro kk
      cases hl : dctOf m1 (.loc c) with
      | none => exact K_bad (by unfold isDct; simp only [hl]; rfl) _
      | some xs => exact K_ok (x := ()) (m1 := m1) (by unfold isDct; simp only [hl]; rfl) _
    rw [h1, dct_KG]
    refine KG_congr fun o => ?_
    cases o with
    | lst _ => rfl
    | obj _ _ => rfl
    | dcn _ => rfl
    | dct xs =>
      show K (M.bind (i ρ) fun kk => M.bind (x ρ) fun xx => fun m => lift ((dctOf m (.loc c)).bind fun kvs => (keyOf kk).map fun k => (valK kvs k).getD xx) m) m1 k = K (i ρ) m1 (kDg2 c x ρ k)
      rw [K_bind]
      congr 1
      funext a m2
      rw [K_bind]
      unfold kDg2
      congr 1
      funext b m3
      show K (lift ((dctOf m3 (.loc c)).bind fun kvs => (keyOf a).map fun k => (valK kvs k).getD b)) m3 k = _
      rw [K_lift, dct_KG]
      rfl
  | _ => rfl
theorem kDg1_at (i x : SE) (ρ : Ev) (k : D → Mem → Rs β) (c : Nat) (m : Mem) : kDg1 i x ρ k (.loc c) m = KG c m m (kDg1b c i x ρ k) := rfl
theorem kDg1b_at (c : Nat) (i x : SE) (ρ : Ev) (k : D → Mem → Rs β) (kvs : List (KeyS × D)) (m : Mem) : kDg1b c i x ρ k (.dct kvs) m = K (i ρ) m (kDg2 c x ρ k) := rfl
theorem kDg2_at (c : Nat) (x : SE) (ρ : Ev) (k : D → Mem → Rs β) (key : D) (m : Mem) : kDg2 c x ρ k key m = K (x ρ) m (kDg3 c key k) := rfl
theorem kDg3_at (c : Nat) (key : D) (k : D → Mem → Rs β) (x : D) (m : Mem) : kDg3 c key k x m = KG c m m (kDg4 x key k) := rfl
theorem kDg4_i (x : D) (i : Int) (k : D → Mem → Rs β) (kvs : List (KeyS × D)) (m : Mem) : kDg4 x (.int i) k (.dct kvs) m = k ((valK kvs (.inl i)).getD x) m := rfl
theorem kDg4_s (x : D) (i : Str) (k : D → Mem → Rs β) (kvs : List (KeyS × D)) (m : Mem) : kDg4 x (.str i) k (.dct kvs) m = KVd kvs (.inr i) x m k := rfl
/-! d[k] = v -/
def kDp4 (c : Nat) (key : KeyS) (v : D) (ρ : Ev) (k : KS β) : MO → Mem → Rs β := fun o m => match o with
  | .dct kvs => if kvs.length < sizeLine then k (.nx, ρ) (m.put c (.dct (putKD kvs key v))) else .bad
  | _ => .bad
def kDp3 (v d : D) (ρ : Ev) (k : KS β) : D → Mem → Rs β := fun kd m => match d, keyOf kd with
  | .loc c, some key => KG c m m (kDp4 c key v ρ k)
  | _, _ => .bad
def kDp2 (i : SE) (v : D) (ρ : Ev) (k : KS β) : D → Mem → Rs β := fun d m => K (i ρ) m (kDp3 v d ρ k)
def kDp1 (d i : SE) (ρ : Ev) (k : KS β) : D → Mem → Rs β := fun v m => K (d ρ) m (kDp2 i v ρ k)
theorem K_sDput (d i v : SE) (ρ : Ev) (m : Mem) (k : KS β) : K (sDput d i v ρ) m k = K (v ρ) m (kDp1 d i ρ k) := by
  unfold sDput
  rw [K_bind]
  congr 1
  funext x m1
  rw [K_bind]
  unfold kDp1
  congr 1
  funext y m2
  rw [K_bind]
  unfold kDp2
  congr 1
  funext z m3
  unfold kDp3 K
  cases y with
  | loc c =>
    cases hz : keyOf z with
    | none => simp only [hz]
    | some q =>
      simp only [hz]
      unfold KG
      by_cases h : c < m3.n
      · simp only [h, if_true]
        cases hg : m3.get c with
        | none => rfl
        | some o =>
          cases o with
          | lst _ => rfl
          | obj _ _ => rfl
          | dcn _ => rfl
          | dct kvs =>
            rw [KO_some]
            unfold kDp4
            by_cases hl : kvs.length < sizeLine
            · simp only [hl, if_true]
            · simp only [hl, if_false]
      · simp only [h, if_false]
  | _ => rfl
theorem kDp1_at (d i : SE) (ρ : Ev) (k : KS β) (v : D) (m : Mem) : kDp1 d i ρ k v m = K (d ρ) m (kDp2 i v ρ k) := rfl
theorem kDp2_at (i : SE) (v : D) (ρ : Ev) (k : KS β) (d : D) (m : Mem) : kDp2 i v ρ k d m = K (i ρ) m (kDp3 v d ρ k) := rfl
theorem kDp3_i (v : D) (c : Nat) (ρ : Ev) (k : KS β) (i : Int) (m : Mem) : kDp3 v (.loc c) ρ k (.int i) m = KG c m m (kDp4 c (.inl i) v ρ k) := rfl
theorem kDp3_s (v : D) (c : Nat) (ρ : Ev) (k : KS β) (i : Str) (m : Mem) : kDp3 v (.loc c) ρ k (.str i) m = KG c m m (kDp4 c (.inr i) v ρ k) := rfl
theorem kDp4_at (c : Nat) (key : KeyS) (v : D) (ρ : Ev) (k : KS β) (kvs : List (KeyS × D)) (m : Mem) (h : kvs.length < sizeLine) : kDp4 c key v ρ k (.dct kvs) m = k (.nx, ρ) (m.put c (.dct (putKD kvs key v))) := if_pos h
/-! objects -/
def kFldO (c : Nat) (f : Str) (k : D → Mem → Rs β) : MO → Mem → Rs β := fun o m => match o with
  | .obj c2 fs => if c2 = c then KO (fs.lookup f) m k else .bad
  | _ => .bad
theorem obj_KG {α : Type} (o c : Nat) (m : Mem) (f : List (Str × D) → Option α) (k : α → Mem → Rs β) : KO ((objOf m c (.loc o)).bind f) m k = KG o m m (fun x m => match x with
  | .obj c2 fs => if c2 = c then KO (f fs) m k else .bad
  | _ => .bad) := by
  unfold KG
  show KO ((if o < m.n then (match m.get o with
    | some (.obj c2 fs) => if c2 = c then some fs else none
    | _ => none) else none).bind f) m k = _
  by_cases h : o < m.n
  · rw [if_pos h, if_pos h]
    cases hg : m.get o with
    | none => rfl
    | some x =>
      cases x with
      | lst _ => rfl
      | dct _ => rfl
      | dcn _ => rfl
      | obj c2 fs =>
        show KO ((if c2 = c then some fs else none).bind f) m k = (if c2 = c then KO (f fs) m k else .bad)
        by_cases hc : c2 = c
        · rw [if_pos hc, if_pos hc]
          rfl
        · rw [if_neg hc, if_neg hc]
          rfl
  · rw [if_neg h, if_neg h]
    rfl
theorem K1_fld (c o : Nat) (f : Str) (m : Mem) (k : D → Mem → Rs β) : K1 (gFld c f) (.loc o) m k = KG o m m (kFldO c f k) := obj_KG o c m (fun fs => fs.lookup f) k
def KFl (fs : List (Str × D)) (f : Str) (m : Mem) (k : D → Mem → Rs β) : Rs β := KO (fs.lookup f) m k
theorem kFldO_at (c : Nat) (f : Str) (k : D → Mem → Rs β) (fs : List (Str × D)) (m : Mem) : kFldO c f k (.obj c fs) m = KFl fs f m k := if_pos rfl
theorem KFl_eq (f : Str) (d : D) (r : List (Str × D)) (m : Mem) (k : D → Mem → Rs β) : KFl ((f, d) :: r) f m k = k d m := by
  refine KO_of ?_ m k
  rw [List.lookup_cons, beq_self_eq_true]
theorem KFl_ne (f g : Str) (d : D) (r : List (Str × D)) (m : Mem) (k : D → Mem → Rs β) (h : (f == g) = false) : KFl ((g, d) :: r) f m k = KFl r f m k := by
  unfold KFl
  rw [List.lookup_cons, h]
def kFp3 (c : Nat) (f : Str) (v : D) (o : Nat) (ρ : Ev) (k : KS β) : MO → Mem → Rs β := fun x m => match x with
  | .obj c2 fs => if c2 = c then (if fs.length < 1000 then k (.nx, ρ) (m.put o (.obj c (putFD f v fs))) else .bad) else .bad
  | _ => .bad
def kFp2 (c : Nat) (f : Str) (v : D) (ρ : Ev) (k : KS β) : D → Mem → Rs β := fun d m => match d with
  | .loc o => KG o m m (kFp3 c f v o ρ k)
  | _ => .bad
def kFp1 (c : Nat) (f : Str) (o : SE) (ρ : Ev) (k : KS β) : D → Mem → Rs β := fun v m => K (o ρ) m (kFp2 c f v ρ k)
theorem K_sFput (c : Nat) (f : Str) (o e : SE) (ρ : Ev) (m : Mem) (k : KS β) : K (sFput c f o e ρ) m k = K (e ρ) m (kFp1 c f o ρ k) := by
  unfold sFput
  rw [K_bind]
  congr 1
  funext v m1
  rw [K_bind]
  unfold kFp1
  congr 1
  funext d m2
  rw [K_bind]
  cases d with
  | loc a =>
    have h1 : ∀ kk : Unit → Mem → Rs β, K (fputK c f v (.loc a)) m2 kk = KO ((objOf m2 c (.loc a)).bind fun fs => if fs.length < 1000 then some (m2.put a (.obj c (putFD f v fs))) else none) m2 fun m3 _ => kk () m3 := by
      intro kk
      cases ho : objOf m2 c (.loc a) with
      | none => exact K_bad (by unfold fputK; simp only [ho]) _
      | some fs =>
        by_cases h : fs.length < 1000
        · rw [K_ok (x := ()) (m1 := m2.put a (.obj c (putFD f v fs))) (by unfold fputK; simp only [ho, h, if_true]) _]
          show _ = KO (if fs.length < 1000 then some (m2.put a (.obj c (putFD f v fs))) else none) m2 _
          rw [if_pos h]
          rfl
        · rw [K_bad (by unfold fputK; simp only [ho, h, if_false]) _]
          show _ = KO (if fs.length < 1000 then some (m2.put a (.obj c (putFD f v fs))) else none) m2 _
          rw [if_neg h]
          rfl
    rw [h1, obj_KG]
    unfold kFp2
    refine KG_congr fun x => ?_
    cases x with
    | lst _ => rfl
    | dct _ => rfl
    | dcn _ => rfl
    | obj c2 fs =>
      show (if c2 = c then KO (if fs.length < 1000 then some (m2.put a (.obj c (putFD f v fs))) else none) m2 _ else .bad) = (if c2 = c then (if fs.length < 1000 then k (.nx, ρ) (m2.put a (.obj c (putFD f v fs))) else .bad) else .bad)
      by_cases hc : c2 = c
      · rw [if_pos hc, if_pos hc]
        by_cases h : fs.length < 1000
        · rw [if_pos h, if_pos h]
          rfl
        · rw [if_neg h, if_neg h]
          rfl
      · rw [if_neg hc, if_neg hc]
  | _ => rfl
theorem kFp1_at (c : Nat) (f : Str) (o : SE) (ρ : Ev) (k : KS β) (v : D) (m : Mem) : kFp1 c f o ρ k v m = K (o ρ) m (kFp2 c f v ρ k) := rfl
theorem kFp2_at (c : Nat) (f : Str) (v : D) (ρ : Ev) (k : KS β) (o : Nat) (m : Mem) : kFp2 c f v ρ k (.loc o) m = KG o m m (kFp3 c f v o ρ k) := rfl
def kPu (acc fs : List (Str × D)) (c o : Nat) (ρ : Ev) (k : KS β) (m : Mem) : Rs β := k (.nx, ρ) (m.put o (.obj c (acc.reverse ++ fs)))
def kPf (acc fs : List (Str × D)) (c : Nat) (f : Str) (v : D) (o : Nat) (ρ : Ev) (k : KS β) (m : Mem) : Rs β := kPu acc (putFD f v fs) c o ρ k m
theorem kFp3_at (c : Nat) (f : Str) (v : D) (o : Nat) (ρ : Ev) (k : KS β) (fs : List (Str × D)) (m : Mem) (h : fs.length < 1000) : kFp3 c f v o ρ k (.obj c fs) m = kPf [] fs c f v o ρ k m := by
  show (if c = c then (if fs.length < 1000 then k (.nx, ρ) (m.put o (.obj c (putFD f v fs))) else .bad) else .bad) = _
  rw [if_pos rfl, if_pos h]
  rfl
theorem kPf_n (acc : List (Str × D)) (c : Nat) (f : Str) (v : D) (o : Nat) (ρ : Ev) (k : KS β) (m : Mem) : kPf acc [] c f v o ρ k m = kPu acc [(f, v)] c o ρ k m := rfl
theorem kPf_eq (acc r : List (Str × D)) (x : D) (c : Nat) (f : Str) (v : D) (o : Nat) (ρ : Ev) (k : KS β) (m : Mem) : kPf acc ((f, x) :: r) c f v o ρ k m = kPu acc ((f, v) :: r) c o ρ k m := by
  unfold kPf
  rw [putFD, if_pos rfl]
theorem kPu_c (acc r : List (Str × D)) (x : Str × D) (c o : Nat) (ρ : Ev) (k : KS β) (m : Mem) : kPu (x :: acc) r c o ρ k m = kPu acc (x :: r) c o ρ k m := by
  unfold kPu
  rw [List.reverse_cons, List.append_assoc]
  rfl
theorem kPu_n (r : List (Str × D)) (c o : Nat) (ρ : Ev) (k : KS β) (m : Mem) : kPu [] r c o ρ k m = k (.nx, ρ) (m.put o (.obj c r)) := rfl
theorem kPf_ne (acc r : List (Str × D)) (g : Str) (x : D) (c : Nat) (f : Str) (v : D) (o : Nat) (ρ : Ev) (k : KS β) (m : Mem) (h : (f == g) = false) : kPf acc ((g, x) :: r) c f v o ρ k m = kPf ((g, x) :: acc) r c f v o ρ k m := by
  unfold kPf
  rw [putFD, if_neg (by intro e; rw [e, beq_self_eq_true] at h; cases h), kPu_c]
/-! methods -/
def kMt3 (np : Nat) (f : Fn) (d : D) (k : D → Mem → Rs β) : List D → Mem → Rs β := fun ds m => if ds.length + 1 = np then KF f (d :: ds) m k else .bad
def kMt2 (c np : Nat) (mt : Str) (f : Fn) (a : SA) (ρ : Ev) (d : D) (k : D → Mem → Rs β) : MO → Mem → Rs β := fun x m => match x with
  | .obj c2 fs => if c2 = c then (if (fs.lookup mt).isNone = true then K (a ρ) m (kMt3 np f d k) else .bad) else .bad
  | _ => .bad
def kMt1 (c np : Nat) (mt : Str) (f : Fn) (a : SA) (ρ : Ev) (k : D → Mem → Rs β) : D → Mem → Rs β := fun d m => match d with
  | .loc o => KG o m m (kMt2 c np mt f a ρ d k)
  | _ => .bad
theorem K_callM (c np : Nat) (mt : Str) (f : Fn) (o : SE) (a : SA) (ρ : Ev) (m : Mem) (k : D → Mem → Rs β) : K (callM c np mt f o a ρ) m k = K (o ρ) m (kMt1 c np mt f a ρ k) := by
  unfold callM
  rw [K_bind]
  congr 1
  funext d m1
  rw [K_bind]
  cases d with
  | loc a1 =>
    have h1 : ∀ kk : Unit → Mem → Rs β, K (chkO c mt (.loc a1)) m1 kk = KO ((objOf m1 c (.loc a1)).bind fun fs => if (fs.lookup mt).isNone = true then some () else none) m1 kk := by
      intro kk
      cases ho : objOf m1 c (.loc a1) with
      | none => exact K_bad (by unfold chkO; simp only [ho]) _
      | some fs =>
        by_cases h : (fs.lookup mt).isNone = true
        · rw [K_ok (x := ()) (m1 := m1) (by unfold chkO; simp only [ho, h, if_true]) _]
          show _ = KO (if (fs.lookup mt).isNone = true then some () else none) m1 _
          rw [if_pos h]
          rfl
        · rw [K_bad (by unfold chkO; simp only [ho, h, Bool.false_eq_true, if_false]) _]
          show _ = KO (if (fs.lookup mt).isNone = true then some () else none) m1 _
          rw [if_neg h]
          rfl
    rw [h1, obj_KG]
    unfold kMt1
    refine KG_congr fun x => ?_
    cases x with
    | lst _ => rfl
    | dct _ => rfl
    | dcn _ => rfl
    | obj c2 fs =>
      show (if c2 = c then KO (if (fs.lookup mt).isNone = true then some () else none) m1 _ else .bad) = (if c2 = c then (if (fs.lookup mt).isNone = true then K (a ρ) m1 (kMt3 np f (.loc a1) k) else .bad) else .bad)
      by_cases hc : c2 = c
      · rw [if_pos hc, if_pos hc]
        by_cases h : (fs.lookup mt).isNone = true
        · rw [if_pos h, if_pos h]
          show K (M.bind (a ρ) fun ds m => if ds.length + 1 = np then f (.loc a1 :: ds) m else .bad) m1 k = _
          rw [K_bind]
          congr 1
          funext ds m2
          unfold kMt3 KF K
          by_cases hl : ds.length + 1 = np
          · simp only [hl, if_true]
          · simp only [hl, if_false]
        · rw [if_neg h, if_neg h]
          rfl
      · rw [if_neg hc, if_neg hc]
  | _ => rfl
theorem kMt1_at (c np : Nat) (mt : Str) (f : Fn) (a : SA) (ρ : Ev) (k : D → Mem → Rs β) (o : Nat) (m : Mem) : kMt1 c np mt f a ρ k (.loc o) m = KG o m m (kMt2 c np mt f a ρ (.loc o) k) := rfl
def kNo (fs : List (Str × D)) (mt : Str) (np : Nat) (f : Fn) (a : SA) (ρ : Ev) (d : D) (k : D → Mem → Rs β) (m : Mem) : Rs β := if (fs.lookup mt).isNone = true then K (a ρ) m (kMt3 np f d k) else .bad
theorem kMt2_at (c np : Nat) (mt : Str) (f : Fn) (a : SA) (ρ : Ev) (d : D) (k : D → Mem → Rs β) (fs : List (Str × D)) (m : Mem) : kMt2 c np mt f a ρ d k (.obj c fs) m = kNo fs mt np f a ρ d k m := if_pos rfl
theorem kNo_n (mt : Str) (np : Nat) (f : Fn) (a : SA) (ρ : Ev) (d : D) (k : D → Mem → Rs β) (m : Mem) : kNo [] mt np f a ρ d k m = K (a ρ) m (kMt3 np f d k) := rfl
theorem kNo_c (g : Str) (x : D) (r : List (Str × D)) (mt : Str) (np : Nat) (f : Fn) (a : SA) (ρ : Ev) (d : D) (k : D → Mem → Rs β) (m : Mem) (h : (mt == g) = false) : kNo ((g, x) :: r) mt np f a ρ d k m = kNo r mt np f a ρ d k m := by
  unfold kNo
  rw [List.lookup_cons, h]
theorem kMt3_0 (f : Fn) (d : D) (k : D → Mem → Rs β) (m : Mem) : kMt3 1 f d k [] m = KF f [d] m k := rfl
theorem kMt3_1 (f : Fn) (d : D) (k : D → Mem → Rs β) (x : D) (m : Mem) : kMt3 2 f d k [x] m = KF f [d, x] m k := rfl
theorem kMt3_2 (f : Fn) (d : D) (k : D → Mem → Rs β) (x y : D) (m : Mem) : kMt3 3 f d k [x, y] m = KF f [d, x, y] m k := rfl
theorem kMt3_3 (f : Fn) (d : D) (k : D → Mem → Rs β) (x y z : D) (m : Mem) : kMt3 4 f d k [x, y, z] m = KF f [d, x, y, z] m k := rfl
theorem kMt3_4 (f : Fn) (d : D) (k : D → Mem → Rs β) (x y z u : D) (m : Mem) : kMt3 5 f d k [x, y, z, u] m = KF f [d, x, y, z, u] m k := rfl
/-! new objects -/
def kMk2 (n : Nat) (k : D → Mem → Rs β) : D → Mem → Rs β := fun d m => match d with
  | .non => k (.loc n) m
  | _ => .bad
def kMk (c np : Nat) (f : Fn) (k : D → Mem → Rs β) : List D → Mem → Rs β := fun ds m => if ds.length + 1 = np then KF f (.loc m.n :: ds) (m.new (.obj c [])) (kMk2 m.n k) else .bad
theorem K_mkE (c np : Nat) (f : Fn) (a : SA) (ρ : Ev) (m : Mem) (k : D → Mem → Rs β) : K (mkE c np f a ρ) m k = K (a ρ) m (kMk c np f k) := by
  unfold mkE
  rw [K_bind]
  congr 1
  funext ds m1
  unfold kMk
  by_cases h : ds.length + 1 = np
  · rw [if_pos h]
    have e : K (fun m => if ds.length + 1 = np then M.bind (f (.loc m.n :: ds)) (mkK m.n) (m.new (.obj c [])) else .bad) m1 k = K (M.bind (f (.loc m1.n :: ds)) (mkK m1.n)) (m1.new (.obj c [])) k := by
      unfold K
      simp only [h, if_true]
    rw [e, K_bind]
    unfold KF
    congr 1
    funext d m2
    cases d <;> rfl
  · rw [if_neg h]
    unfold K
    simp only [h, if_false]
theorem kMk_1 (c : Nat) (f : Fn) (k : D → Mem → Rs β) (x : D) (m : Mem) : kMk c 2 f k [x] m = KF f [.loc m.n, x] (m.new (.obj c [])) (kMk2 m.n k) := rfl
theorem kMk_2 (c : Nat) (f : Fn) (k : D → Mem → Rs β) (x y : D) (m : Mem) : kMk c 3 f k [x, y] m = KF f [.loc m.n, x, y] (m.new (.obj c [])) (kMk2 m.n k) := rfl
theorem kMk_3 (c : Nat) (f : Fn) (k : D → Mem → Rs β) (x y z : D) (m : Mem) : kMk c 4 f k [x, y, z] m = KF f [.loc m.n, x, y, z] (m.new (.obj c [])) (kMk2 m.n k) := rfl
theorem kMk2_at (n : Nat) (k : D → Mem → Rs β) (m : Mem) : kMk2 n k .non m = k (.loc n) m := rfl
end
end LB

set_option Elab.async false
set_option linter.all false
set_option autoImplicit false
set_option maxRecDepth 100000
set_option maxHeartbeats 1000000
/-! Pure: loops and comprehensions at the head. -/
namespace LB
open PySem
section
variable {α β γ Y : Type}
theorem WP_K {a : M α} {m : Mem} {k : α → Mem → Rs β} {q : β → Mem → Prop} {e : Er → Mem → Prop} (h : WP (a m) (fun x m1 => WP (k x m1) q e) e) : WP (K a m k) q e := by
  obtain ⟨h⟩ := h
  refine ⟨?_⟩
  unfold K
  cases ha : a m with
  | bad => rw [ha] at h; exact h
  | ok x m1 => rw [ha] at h; exact h.h
  | ex x m1 => rw [ha] at h; exact h
theorem WP_iff {x : α} {m : Mem} {q : α → Mem → Prop} {e : Er → Mem → Prop} : WP (.ok x m) q e ↔ q x m := ⟨fun h => h.h, fun h => ⟨h⟩⟩
/-- the callee's word, then on -/
theorem WP_F {f : Fn} {ds : List D} {m : Mem} {k : D → Mem → Rs β} {q0 : D → Mem → Prop} {q : β → Mem → Prop} {e : Er → Mem → Prop} (h : WP (f ds m) q0 fun _ _ => False) (hk : ∀ d m1, q0 d m1 → WP (k d m1) q e) : WP (KF f ds m k) q e := WP_K (h.any fun d m1 z => hk d m1 z)
/-! ### walks -/
def kFor (g : SG) (body : SS) (ρ : Ev) (k : KS β) : Wk × Nat → Mem → Rs β := fun w m => K (forG w.1 g body w.2 0 ρ) m k
theorem K_sFor (it : SI) (g : SG) (body : SS) (ρ : Ev) (m : Mem) (k : KS β) : K (sFor it g body ρ) m k = K (it ρ) m (kFor g body ρ k) := by
  unfold sFor
  rw [K_bind]
  rfl
theorem kFor_at (g : SG) (body : SS) (ρ : Ev) (k : KS β) (w : Wk) (n : Nat) (m : Mem) : kFor g body ρ k (w, n) m = K (forG w g body n 0 ρ) m k := rfl
def rng1F (ds : List D) : M (Wk × Nat) := fun m => match ds with
  | [.int hi] => if small62 hi = true then .ok (wkRng 0 hi.toNat, hi.toNat) m else .bad
  | _ => .bad
def kRng1 (k : Wk × Nat → Mem → Rs β) : List D → Mem → Rs β := fun ds m => K (rng1F ds) m k
theorem K_itRng1 (a : SA) (ρ : Ev) (m : Mem) (k : Wk × Nat → Mem → Rs β) : K (itRng1 a ρ) m k = K (a ρ) m (kRng1 k) := by
  unfold itRng1
  rw [K_bind]
  rfl
theorem kRng1_at (k : Wk × Nat → Mem → Rs β) (hi : Int) (m : Mem) (h : small62 hi = true) : kRng1 k [.int hi] m = k (wkRng 0 hi.toNat, hi.toNat) m := K_ok (if_pos h) k
theorem kRng1_nat (k : Wk × Nat → Mem → Rs β) (n : Nat) (m : Mem) (h : n < 4611686018427387904) : kRng1 k [.int (n : Int)] m = k (wkRng 0 n, n) m := by
  rw [kRng1_at _ _ _ (small62_nat h)]
  rfl
def rng2F (ds : List D) : M (Wk × Nat) := fun m => match ds with
  | [.int lo, .int hi] => if small62 lo = true ∧ small62 hi = true then .ok (wkRng lo (hi - lo).toNat, (hi - lo).toNat) m else .bad
  | _ => .bad
def kRng2 (k : Wk × Nat → Mem → Rs β) : List D → Mem → Rs β := fun ds m => K (rng2F ds) m k
theorem K_itRng2 (a : SA) (ρ : Ev) (m : Mem) (k : Wk × Nat → Mem → Rs β) : K (itRng2 a ρ) m k = K (a ρ) m (kRng2 k) := by
  unfold itRng2
  rw [K_bind]
  rfl
theorem kRng2_at (k : Wk × Nat → Mem → Rs β) (lo hi : Int) (m : Mem) (h : small62 lo = true) (h2 : small62 hi = true) : kRng2 k [.int lo, .int hi] m = k (wkRng lo (hi - lo).toNat, (hi - lo).toNat) m := K_ok (if_pos ⟨h, h2⟩) k
def kSeqI (k : Wk × Nat → Mem → Rs β) : D → Mem → Rs β := fun d m => KO (sqOf m d) m fun xs m => k (wkSeq d, xs.length) m
theorem K_itSeq (a : SE) (ρ : Ev) (m : Mem) (k : Wk × Nat → Mem → Rs β) : K (itSeq a ρ) m k = K (a ρ) m (kSeqI k) := by
  unfold itSeq
  rw [K_bind]
  congr 1
  funext d m1
  unfold kSeqI
  cases h : sqOf m1 d with
  | none => exact K_bad (by simp only [h]) _
  | some xs => exact K_ok (by simp only [h]) _
theorem kSeqI_t (k : Wk × Nat → Mem → Rs β) (xs : List D) (m : Mem) : kSeqI k (.tup xs) m = k (wkSeq (.tup xs), xs.length) m := rfl
theorem kSeqI_l (k : Wk × Nat → Mem → Rs β) (xs : List D) (m : Mem) : kSeqI k (.lst xs) m = k (wkSeq (.lst xs), xs.length) m := rfl
def kSeqL (c : Nat) (k : Wk × Nat → Mem → Rs β) : MO → Mem → Rs β := fun o m => match o with
  | .lst xs => k (wkSeq (.loc c), xs.length) m
  | _ => .bad
theorem kSeqI_c (k : Wk × Nat → Mem → Rs β) (c : Nat) (m : Mem) : kSeqI k (.loc c) m = KG c m m (kSeqL c k) := by
  have h := lst_KG c m (fun xs => some xs) (fun xs m => k (wkSeq (.loc c), xs.length) m)
  unfold kSeqI
  rw [show sqOf m (.loc c) = ((lstOf m (.loc c)).bind fun xs => some xs) from by show lstOf m (.loc c) = _; cases lstOf m (.loc c) <;> rfl, h]
  rfl
theorem kSeqL_at (c : Nat) (k : Wk × Nat → Mem → Rs β) (xs : List D) (m : Mem) : kSeqL c k (.lst xs) m = k (wkSeq (.loc c), xs.length) m := rfl
/-- a name is given, then the body -/
def bodyG (g : SG) (body : SS) (x : D) : SS := fun ρ m => match g x ρ with
  | none => .bad
  | some ρ1 => body ρ1 m
theorem K_bodyG_nm (i : Nat) (body : SS) (d : D) (ρ : Ev) (m : Mem) (k : KS β) : K (bodyG (gNm i) body d ρ) m k = kSet [] ρ i d m (kSeq body k) := rfl
theorem K_bodyG_tp (is : List Nat) (body : SS) (ds : List D) (ρ : Ev) (m : Mem) (k : KS β) : K (bodyG (gTp is) body (.tup ds) ρ) m k = kNms is ds ρ m (kSeq body k) := by
  unfold kNms
  show K (fun m => match gNms is ds ρ with
    | none => .bad
    | some ρ1 => body ρ1 m) m k = _
  cases h : gNms is ds ρ with
  | none => exact K_bad (by simp only [h]) _
  | some r => rfl
theorem W_for {w : Wk} {g : SG} {body : SS} {xs : List D} {n : Nat} {ρ : Ev} {m : Mem} {k : KS β} {q : β → Mem → Prop} {e : Er → Mem → Prop} (I : Nat → Ev → Mem → Prop) (hn : n = xs.length) (hw : ∀ i ρ m, I i ρ m → w i m = some (xs[i]?)) (h0 : I 0 ρ m)
    (hs : ∀ i x ρ m, xs[i]? = some x → I i ρ m → WP (K (bodyG g body x ρ) m Rs.ok) (afterB (I (i + 1)) fun r m => WP (k r m) q e) e) (hq : ∀ ρ m, I xs.length ρ m → WP (k (.nx, ρ) m) q e) : WP (K (forG w g body n 0 ρ) m k) q e := by
  subst hn
  refine WP_K (forG_wp (xs := xs) (I := I) hw (fun i x ρ m hx hI => ?_) hq _ 0 ρ m (Nat.le_refl _) (Nat.zero_le _) h0)
  have z := hs i x ρ m hx hI
  rw [← K_start] at z
  unfold bodyG at z
  cases hg : g x ρ with
  | none =>
    rw [hg] at z
    exact z.h.elim
  | some ρ1 =>
    rw [hg] at z
    exact ⟨ρ1, rfl, z⟩
theorem W_rng {lo : Int} {n : Nat} {g : SG} {body : SS} {ρ : Ev} {m : Mem} {k : KS β} {q : β → Mem → Prop} {e : Er → Mem → Prop} (I : Nat → Ev → Mem → Prop) (h0 : I 0 ρ m)
    (hs : ∀ i ρ m, i < n → I i ρ m → WP (K (bodyG g body (.int (lo + (i : Nat))) ρ) m Rs.ok) (afterB (I (i + 1)) fun r m => WP (k r m) q e) e) (hq : ∀ ρ m, I n ρ m → WP (k (.nx, ρ) m) q e) : WP (K (forG (wkRng lo n) g body n 0 ρ) m k) q e := by
  refine W_for (xs := (List.range n).map fun j => D.int (lo + (j : Nat))) I (by rw [List.length_map, List.length_range]) (fun i ρ m _ => wkRng_eq lo n i m) h0 (fun i x ρ m hx hI => ?_) (fun ρ m h => hq ρ m (by rw [List.length_map, List.length_range] at h; exact h))
  rw [List.getElem?_map] at hx
  by_cases h : i < n
  · rw [List.getElem?_range h] at hx
    cases hx
    exact hs i ρ m h hI
  · rw [List.getElem?_eq_none (by rw [List.length_range]; omega)] at hx
    cases hx
/-- things of one kind side by side -/
theorem W_seq {w : Wk} {g : SG} {body : SS} {ys : List Y} {enc : Y → D} {n : Nat} {ρ : Ev} {m : Mem} {k : KS β} {q : β → Mem → Prop} {e : Er → Mem → Prop} (I : Nat → Ev → Mem → Prop) (hn : n = ys.length) (hw : ∀ i ρ m, I i ρ m → w i m = some ((ys.map enc)[i]?)) (h0 : I 0 ρ m)
    (hs : ∀ i y ρ m, ys[i]? = some y → I i ρ m → WP (K (bodyG g body (enc y) ρ) m Rs.ok) (afterB (I (i + 1)) fun r m => WP (k r m) q e) e) (hq : ∀ ρ m, I ys.length ρ m → WP (k (.nx, ρ) m) q e) : WP (K (forG w g body n 0 ρ) m k) q e := by
  refine W_for (xs := ys.map enc) I (by rw [List.length_map]; exact hn) hw h0 (fun i x ρ m hx hI => ?_) (fun ρ m h => hq ρ m (by rw [List.length_map] at h; exact h))
  rw [List.getElem?_map] at hx
  cases hy : ys[i]? with
  | none => rw [hy] at hx; cases hx
  | some y =>
    rw [hy] at hx
    cases hx
    exact hs i y ρ m hy hI
/-! ### while -/
theorem K_sWhile (fuel : Ev → Mem → Nat) (t : SB) (body : SS) (ρ : Ev) (m : Mem) (k : KS β) : K (sWhile fuel t body ρ) m k = K (whileG t body (fuel ρ m) ρ) m k := rfl
/-! ### comprehensions -/
def kComp (g : SG) (t : SB) (e : SE) (ρ0 : Ev) (k : List D → Mem → Rs β) : Wk × Nat → Mem → Rs β := fun w m => K (compG w.1 g t e ρ0 w.2 0 []) m k
theorem K_compL (it : SI) (g : SG) (t : SB) (e : SE) (own : List Nat) (ρ : Ev) (m : Mem) (k : List D → Mem → Rs β) : K (compL it g t e own ρ) m k = K (it ρ) m (kComp g t e (wipeE ρ own) k) := by
  unfold compL
  rw [K_bind]
  rfl
theorem kComp_at (g : SG) (t : SB) (e : SE) (ρ0 : Ev) (k : List D → Mem → Rs β) (w : Wk) (n : Nat) (m : Mem) : kComp g t e ρ0 k (w, n) m = K (compG w g t e ρ0 n 0 []) m k := rfl
def kLst (k : D → Mem → Rs β) : List D → Mem → Rs β := fun ys m => k (.lst ys) m
def kLstM (k : D → Mem → Rs β) : List D → Mem → Rs β := fun ys m => k (.loc m.n) (m.new (.lst ys))
theorem K_comp (it : SI) (g : SG) (t : SB) (e : SE) (own : List Nat) (ρ : Ev) (m : Mem) (k : D → Mem → Rs β) : K (comp it g t e own ρ) m k = K (it ρ) m (kComp g t e (wipeE ρ own) (kLst k)) := by
  unfold comp
  rw [K_bind, K_compL]
  rfl
theorem K_compM (it : SI) (g : SG) (t : SB) (e : SE) (own : List Nat) (ρ : Ev) (m : Mem) (k : D → Mem → Rs β) : K (compM it g t e own ρ) m k = K (it ρ) m (kComp g t e (wipeE ρ own) (kLstM k)) := by
  unfold compM
  rw [K_bind, K_compL]
  rfl
theorem kLst_at (k : D → Mem → Rs β) (ys : List D) (m : Mem) : kLst k ys m = k (.lst ys) m := rfl
theorem kLstM_at (k : D → Mem → Rs β) (ys : List D) (m : Mem) : kLstM k ys m = k (.loc m.n) (m.new (.lst ys)) := rfl
/-- a name is given, then an expression -/
def exG (g : SG) (e : Ev → M α) (x : D) : Ev → M α := fun ρ m => match g x ρ with
  | none => .bad
  | some ρ1 => e ρ1 m
def kEx (e : Ev → M α) (k : α → Mem → Rs β) : KS β := fun r m => K (e r.2) m k
theorem kEx_at (e : Ev → M α) (k : α → Mem → Rs β) (ρ : Ev) (m : Mem) : kEx e k (.nx, ρ) m = K (e ρ) m k := rfl
theorem K_exG_nm (i : Nat) (e : Ev → M α) (d : D) (ρ : Ev) (m : Mem) (k : α → Mem → Rs β) : K (exG (gNm i) e d ρ) m k = kSet [] ρ i d m (kEx e k) := rfl
theorem K_exG_tp (is : List Nat) (e : Ev → M α) (ds : List D) (ρ : Ev) (m : Mem) (k : α → Mem → Rs β) : K (exG (gTp is) e (.tup ds) ρ) m k = kNms is ds ρ m (kEx e k) := by
  unfold kNms
  show K (fun m => match gNms is ds ρ with
    | none => .bad
    | some ρ1 => e ρ1 m) m k = _
  cases h : gNms is ds ρ with
  | none => exact K_bad (by simp only [h]) _
  | some r => rfl
/-- one that changes nothing, with a test -/
theorem C_filter {w : Wk} {g : SG} {t : SB} {e : SE} {ρ0 : Ev} {m : Mem} {n : Nat} {k : List D → Mem → Rs β} (ys : List Y) (enc : Y → D) (p : Y → Bool) (f : Y → D) (hn : n = ys.length) (hl : ys.length ≤ sizeLine) (hw : ∀ i, i ≤ ys.length → w i m = some ((ys.map enc)[i]?))
    (ht : ∀ y, y ∈ ys → K (exG g t (enc y) ρ0) m Rs.ok = .ok (p y) m) (he : ∀ y, y ∈ ys → p y = true → K (exG g e (enc y) ρ0) m Rs.ok = .ok (f y) m) : K (compG w g t e ρ0 n 0 []) m k = k ((ys.filter p).map f) m := by
  subst hn
  have hz : ∀ (zs : List Y) (i : Nat) (acc : List D), zs = ys.drop i → i ≤ ys.length → acc.length + ys.length ≤ sizeLine + i → ∀ fuel, ys.length ≤ fuel + i → compG w g t e ρ0 fuel i acc m = .ok (acc ++ (zs.filter p).map f) m := by
    intro zs
    induction zs with
    | nil =>
      intro i acc hz hi hs fuel hf
      have hi2 : i = ys.length := by
        have h1 : (ys.drop i).length = 0 := by rw [← hz]; rfl
        rw [List.length_drop] at h1
        omega
      have h2 : w i m = some none := by
        rw [hw i hi, hi2, List.getElem?_eq_none (by rw [List.length_map]; exact Nat.le_refl _)]
      unfold compG
      cases fuel <;> simp [h2]
    | cons y zs ih =>
      intro i acc hz hi hs fuel hf
      have hlt : i < ys.length := by
        by_cases h : i < ys.length
        · exact h
        · rw [List.drop_eq_nil_of_le (by omega)] at hz
          cases hz
      have hd := List.drop_eq_getElem_cons hlt
      rw [← hz] at hd
      obtain ⟨rfl, hz2⟩ := List.cons.inj hd
      have h2 : w i m = some (some (enc ys[i])) := by
        rw [hw i hi, List.getElem?_map, List.getElem?_eq_getElem hlt]
        rfl
      obtain ⟨fuel, rfl⟩ : ∃ u, fuel = u + 1 := ⟨fuel - 1, by omega⟩
      unfold compG
      rw [h2]
      have ht1 := ht ys[i] (List.getElem_mem hlt)
      rw [← K_start] at ht1
      unfold exG at ht1
      cases hg : g (enc ys[i]) ρ0 with
      | none =>
        rw [hg] at ht1
        cases ht1
      | some ρ1 =>
        rw [hg] at ht1
        simp only [hg]
        rw [bind_ok (noex_ok ht1)]
        cases hp : p ys[i] with
        | true =>
          have he1 := he ys[i] (List.getElem_mem hlt) hp
          rw [← K_start] at he1
          unfold exG at he1
          rw [hg] at he1
          simp only [if_true]
          have hc : acc.length < sizeLine := by omega
          rw [bind_ok (noex_ok he1)]
          simp only [hc, if_true]
          rw [ih (i + 1) _ hz2 (by omega) (by rw [List.length_append, List.length_singleton]; omega) fuel (by omega), List.filter_cons_of_pos hp]
          simp
        | false =>
          simp only [Bool.false_eq_true, if_false]
          rw [ih (i + 1) _ hz2 (by omega) (by omega) fuel (by omega), List.filter_cons_of_neg (by rw [hp]; exact Bool.false_ne_true)]
  refine K_ok ?_ k
  have z := hz ys 0 [] rfl (Nat.zero_le _) (by simpa using hl) ys.length (Nat.le_refl _)
  rw [z, List.nil_append]
/-- one that changes nothing, all taken -/
theorem C_map {w : Wk} {g : SG} {e : SE} {ρ0 : Ev} {m : Mem} {n : Nat} {k : List D → Mem → Rs β} (ys : List Y) (enc : Y → D) (f : Y → D) (hn : n = ys.length) (hl : ys.length ≤ sizeLine) (hw : ∀ i, i ≤ ys.length → w i m = some ((ys.map enc)[i]?))
    (hg : ∀ y, y ∈ ys → (g (enc y) ρ0).isSome = true) (he : ∀ y, y ∈ ys → K (exG g e (enc y) ρ0) m Rs.ok = .ok (f y) m) : K (compG w g LB.tYes e ρ0 n 0 []) m k = k (ys.map f) m := by
  have z := C_filter (k := k) (t := LB.tYes) ys enc (fun _ => true) f hn hl hw (fun y hy => by
    rw [← K_start]
    unfold exG
    cases h : g (enc y) ρ0 with
    | none =>
      have z := hg y hy
      rw [h] at z
      cases z
    | some r => rfl) (fun y hy _ => he y hy)
  rw [z]
  congr 2
  exact List.filter_eq_self.mpr fun _ _ => rfl
end
end LB

set_option Elab.async false
set_option linter.all false
set_option autoImplicit false
set_option maxRecDepth 100000
set_option maxHeartbeats 1000000
/-! Pure: more operations at the head. -/
namespace LB
open PySem
section
variable {α β γ Y : Type}
def kAlc (k : D → Mem → Rs β) : D → Mem → Rs β := fun d m => match d with
  | .lst ys => k (.loc m.n) (m.new (.lst ys))
  | _ => .bad
theorem kAlc_at (k : D → Mem → Rs β) (ys : List D) (m : Mem) : kAlc k (.lst ys) m = k (.loc m.n) (m.new (.lst ys)) := rfl
def kOpNM (g : ON) (k : D → Mem → Rs β) : List D → Mem → Rs β := fun xs m => KN g xs m (kAlc k)
theorem K_opNM (g : ON) (a : SA) (ρ : Ev) (m : Mem) (k : D → Mem → Rs β) : K (opNM g a ρ) m k = K (a ρ) m (kOpNM g k) := by
  unfold opNM
  rw [K_bind]
  congr 1
  funext xs m1
  rw [K_bind]
  show K (lift (g xs m1)) m1 _ = _
  unfold kOpNM KN
  rw [K_lift]
  cases hg : g xs m1 with
  | none => rfl
  | some d => cases d <;> rfl
theorem kOpNM_at (g : ON) (k : D → Mem → Rs β) (xs : List D) (m : Mem) : kOpNM g k xs m = KN g xs m (kAlc k) := rfl
theorem KN_list_l2 (xs : List D) (m : Mem) (k : D → Mem → Rs β) : KN gList [.lst xs] m k = k (.lst xs) m := rfl
theorem KN_list_t2 (xs : List D) (m : Mem) (k : D → Mem → Rs β) : KN gList [.tup xs] m k = k (.lst xs) m := rfl
def kListL (k : D → Mem → Rs β) : MO → Mem → Rs β := fun o m => match o with
  | .lst xs => k (.lst xs) m
  | _ => .bad
theorem KN_list_c (c : Nat) (m : Mem) (k : D → Mem → Rs β) : KN gList [.loc c] m k = KG c m m (kListL k) := by
  have h := lst_KG c m (fun xs => some (D.lst xs)) k
  unfold KN
  rw [show gList [.loc c] m = ((lstOf m (.loc c)).bind fun xs => some (D.lst xs)) from by show (lstOf m (.loc c)).map D.lst = _; cases lstOf m (.loc c) <;> rfl, h]
  rfl
theorem kListL_at (k : D → Mem → Rs β) (xs : List D) (m : Mem) : kListL k (.lst xs) m = k (.lst xs) m := rfl
def kOp2Mb (g : O2) (x : D) (k : D → Mem → Rs β) : D → Mem → Rs β := fun y m => K2 g x y m (kAlc k)
def kOp2Ma (g : O2) (b : SE) (ρ : Ev) (k : D → Mem → Rs β) : D → Mem → Rs β := fun x m => K (b ρ) m (kOp2Mb g x k)
theorem K_op2M (g : O2) (a b : SE) (ρ : Ev) (m : Mem) (k : D → Mem → Rs β) : K (op2M g a b ρ) m k = K (a ρ) m (kOp2Ma g b ρ k) := by
  unfold op2M
  rw [K_bind]
  congr 1
  funext x m1
  rw [K_bind]
  unfold kOp2Ma
  congr 1
  funext y m2
  rw [K_bind]
  unfold kOp2Mb K2
  cases hg : g x y m2 with
  | none => 
    rw [K_bad (a := fun m => lift (g x y m) m) (by show lift (g x y m2) m2 = _; rw [hg]; rfl)]
    rfl
  | some d =>
    rw [K_ok (a := fun m => lift (g x y m) m) (x := d) (m1 := m2) (by show lift (g x y m2) m2 = _; rw [hg]; rfl)]
    cases d <;> rfl
theorem kOp2Ma_at (g : O2) (b : SE) (ρ : Ev) (k : D → Mem → Rs β) (x : D) (m : Mem) : kOp2Ma g b ρ k x m = K (b ρ) m (kOp2Mb g x k) := rfl
theorem kOp2Mb_at (g : O2) (x : D) (k : D → Mem → Rs β) (y : D) (m : Mem) : kOp2Mb g x k y m = K2 g x y m (kAlc k) := rfl
theorem flat_one {x : α} : ∀ n : Nat, (List.replicate n [x]).flatten = List.replicate n x
  | 0 => rfl
  | n + 1 => by rw [List.replicate_succ, List.flatten_cons, flat_one n, List.replicate_succ]; rfl
theorem K2_rep1 (x : D) (i : Int) (m : Mem) (k : D → Mem → Rs β) (h1 : 0 ≤ i) (h2 : i ≤ 1000000) : K2 gRep (.lst [x]) (.int i) m k = k (.lst (List.replicate i.toNat x)) m := by
  refine KO_of ?_ m k
  show (if -(2 ^ 63) ≤ i ∧ i < 2 ^ 63 ∧ [x].length * i.toNat ≤ sizeLine then some (D.lst (List.replicate i.toNat [x]).flatten) else none) = _
  rw [if_pos ⟨by omega, by omega, by
    have h3 : i.toNat ≤ 1000000 := by omega
    have h4 : (1000000 : Nat) ≤ sizeLine := by decide
    rw [List.length_singleton, Nat.one_mul]
    omega⟩, flat_one]
/-! dicts displayed -/
def kPr3 (x y : D) (k : List (D × D) → Mem → Rs β) : List (D × D) → Mem → Rs β := fun r m => k ((x, y) :: r) m
def kPr2 (x : D) (r : List (SE × SE)) (ρ : Ev) (k : List (D × D) → Mem → Rs β) : D → Mem → Rs β := fun y m => K (prE r ρ) m (kPr3 x y k)
def kPr1 (b : SE) (r : List (SE × SE)) (ρ : Ev) (k : List (D × D) → Mem → Rs β) : D → Mem → Rs β := fun x m => K (b ρ) m (kPr2 x r ρ k)
theorem K_prE_n (ρ : Ev) (m : Mem) (k : List (D × D) → Mem → Rs β) : K (prE [] ρ) m k = k [] m := rfl
theorem K_prE_c (a b : SE) (r : List (SE × SE)) (ρ : Ev) (m : Mem) (k : List (D × D) → Mem → Rs β) : K (prE ((a, b) :: r) ρ) m k = K (a ρ) m (kPr1 b r ρ k) := by
  rw [prE]
  rw [K_bind]
  congr 1
  funext x m1
  rw [K_bind]
  unfold kPr1
  congr 1
  funext y m2
  rw [K_bind]
  rfl
theorem kPr1_at (b : SE) (r : List (SE × SE)) (ρ : Ev) (k : List (D × D) → Mem → Rs β) (x : D) (m : Mem) : kPr1 b r ρ k x m = K (b ρ) m (kPr2 x r ρ k) := rfl
theorem kPr2_at (x : D) (r : List (SE × SE)) (ρ : Ev) (k : List (D × D) → Mem → Rs β) (y : D) (m : Mem) : kPr2 x r ρ k y m = K (prE r ρ) m (kPr3 x y k) := rfl
theorem kPr3_at (x y : D) (k : List (D × D) → Mem → Rs β) (r : List (D × D)) (m : Mem) : kPr3 x y k r m = k ((x, y) :: r) m := rfl
def kDsp (k : D → Mem → Rs β) : List (D × D) → Mem → Rs β := fun xs m => KO (keysOf xs) m fun kvs m => if kvs.length ≤ 15 then k (.loc m.n) (m.new (.dct (mergeD [] kvs))) else .bad
theorem K_dspE (ps : List (SE × SE)) (ρ : Ev) (m : Mem) (k : D → Mem → Rs β) : K (dspE ps ρ) m k = K (prE ps ρ) m (kDsp k) := by
  unfold dspE
  rw [K_bind]
  congr 1
  funext xs m1
  unfold kDsp
  cases h : keysOf xs with
  | none => exact K_bad (by unfold dspK; simp only [h]) _
  | some kvs =>
    rw [KO_some]
    by_cases hl : kvs.length ≤ 15
    · rw [if_pos hl]
      exact K_ok (x := D.loc m1.n) (m1 := m1.new (.dct (mergeD [] kvs))) (by unfold dspK; simp only [h, hl, if_true]; rfl) _
    · rw [if_neg hl]
      exact K_bad (by unfold dspK; simp only [h, hl, if_false]) _
theorem kDsp_of {xs : List (D × D)} {kvs kvs2 : List (KeyS × D)} (h : keysOf xs = some kvs) (hl : kvs.length ≤ 15) (h2 : mergeD [] kvs = kvs2) (k : D → Mem → Rs β) (m : Mem) : kDsp k xs m = k (.loc m.n) (m.new (.dct kvs2)) := by
  unfold kDsp
  rw [h, KO_some, if_pos hl, h2]
theorem kDsp_s1 (a : Str) (x : D) (k : D → Mem → Rs β) (m : Mem) : kDsp k [(.str a, x)] m = k (.loc m.n) (m.new (.dct [(.inr a, x)])) := rfl
theorem inr_ne {a b : Str} (h : (a == b) = false) : ¬ (Sum.inr a : KeyS) = .inr b := fun e => by
  rw [Sum.inr.inj e, beq_self_eq_true] at h
  cases h
theorem kDsp_s2 (a b : Str) (x y : D) (k : D → Mem → Rs β) (m : Mem) (h : (a == b) = false) : kDsp k [(.str a, x), (.str b, y)] m = k (.loc m.n) (m.new (.dct [(.inr a, x), (.inr b, y)])) := kDsp_of (kvs := [(.inr a, x), (.inr b, y)]) rfl (by simp) (by simp [mergeD, putKD, inr_ne h]) k m
theorem kDsp_s3 (a b c : Str) (x y z : D) (k : D → Mem → Rs β) (m : Mem) (h : (a == b) = false) (h2 : (a == c) = false) (h3 : (b == c) = false) : kDsp k [(.str a, x), (.str b, y), (.str c, z)] m = k (.loc m.n) (m.new (.dct [(.inr a, x), (.inr b, y), (.inr c, z)])) := kDsp_of (kvs := [(.inr a, x), (.inr b, y), (.inr c, z)]) rfl (by simp) (by simp [mergeD, putKD, inr_ne h, inr_ne h2, inr_ne h3]) k m
theorem kDsp_s4 (a b c d : Str) (x y z u : D) (k : D → Mem → Rs β) (m : Mem) (h : (a == b) = false) (h2 : (a == c) = false) (h3 : (b == c) = false) (h4 : (a == d) = false) (h5 : (b == d) = false) (h6 : (c == d) = false) : kDsp k [(.str a, x), (.str b, y), (.str c, z), (.str d, u)] m = k (.loc m.n) (m.new (.dct [(.inr a, x), (.inr b, y), (.inr c, z), (.inr d, u)])) := kDsp_of (kvs := [(.inr a, x), (.inr b, y), (.inr c, z), (.inr d, u)]) rfl (by simp) (by simp [mergeD, putKD, inr_ne h, inr_ne h2, inr_ne h3, inr_ne h4, inr_ne h5, inr_ne h6]) k m
/-! frozen -/
def kFrzL (c : Nat) (k : D → Mem → Rs β) : MO → Mem → Rs β := fun o m => match o with
  | .lst xs => k (.lst xs) (m.kill c)
  | _ => .bad
def kFrz (k : D → Mem → Rs β) : D → Mem → Rs β := fun d m => match d with
  | .loc c => KG c m m (kFrzL c k)
  | d => k d m
theorem K_frz (a : SE) (ρ : Ev) (m : Mem) (k : D → Mem → Rs β) : K (frz a ρ) m k = K (a ρ) m (kFrz k) := by
  unfold frz
  rw [K_bind]
  congr 1
  funext d m1
  cases d with
  | loc c =>
    show K (frzD (.loc c)) m1 k = KG c m1 m1 (kFrzL c k)
    unfold KG
    by_cases h : c < m1.n
    · rw [if_pos h]
      cases hg : m1.get c with
      | none => exact K_bad (by unfold frzD; simp only [hg]) _
      | some o =>
        cases o with
        | lst xs => exact K_ok (x := D.lst xs) (m1 := m1.kill c) (by unfold frzD; simp only [hg, h, if_true]) _
        | dct _ => exact K_bad (by unfold frzD; simp only [hg]) _
        | obj _ _ => exact K_bad (by unfold frzD; simp only [hg]) _
        | dcn _ => exact K_bad (by unfold frzD; simp only [hg]) _
    · rw [if_neg h]
      refine K_bad ?_ _
      unfold frzD
      cases hg : m1.get c with
      | none => simp only [hg]
      | some o => cases o <;> simp only [hg, h, if_false]
  | _ => rfl
theorem kFrz_c (k : D → Mem → Rs β) (c : Nat) (m : Mem) : kFrz k (.loc c) m = KG c m m (kFrzL c k) := rfl
theorem kFrz_l (k : D → Mem → Rs β) (xs : List D) (m : Mem) : kFrz k (.lst xs) m = k (.lst xs) m := rfl
theorem kFrz_t (k : D → Mem → Rs β) (xs : List D) (m : Mem) : kFrz k (.tup xs) m = k (.tup xs) m := rfl
theorem kFrz_n (k : D → Mem → Rs β) (m : Mem) : kFrz k .non m = k .non m := rfl
theorem kFrzL_at (c : Nat) (k : D → Mem → Rs β) (xs : List D) (m : Mem) : kFrzL c k (.lst xs) m = k (.lst xs) (m.kill c) := rfl
/-! extend, clear, reverse, pop -/
def kExt3 (c : Nat) (ys : List D) (k : D → Mem → Rs β) : MO → Mem → Rs β := fun o m => match o with
  | .lst xs => if xs.length + ys.length ≤ sizeLine then k .non (m.put c (.lst (xs ++ ys))) else .bad
  | _ => .bad
def kExt2 (l : D) (k : D → Mem → Rs β) : D → Mem → Rs β := fun d m => K (extK l d) m k
def kExt1 (e : SE) (ρ : Ev) (k : D → Mem → Rs β) : D → Mem → Rs β := fun l m => K (chkL l) m fun _ m => K (e ρ) m (kExt2 l k)
def kExt1b (c : Nat) (e : SE) (ρ : Ev) (k : D → Mem → Rs β) : MO → Mem → Rs β := fun o m => match o with
  | .lst _ => K (e ρ) m (kExt2 (.loc c) k)
  | _ => .bad
theorem K_chkL_c (c : Nat) (m : Mem) (kk : Unit → Mem → Rs β) : K (chkL (.loc c)) m kk = KO ((lstOf m (.loc c)).bind fun _ => some ()) m kk := by
  cases hl : lstOf m (.loc c) with
  | none => exact K_bad (by unfold chkL; rw [hl]; rfl) _
  | some xs => exact K_ok (by unfold chkL; rw [hl]; rfl) _
theorem K_extE (l e : SE) (ρ : Ev) (m : Mem) (k : D → Mem → Rs β) : K (extE l e ρ) m k = K (l ρ) m (kExt1 e ρ k) := by
  unfold extE
  rw [K_bind]
  congr 1
  funext x m1
  rw [K_bind]
  unfold kExt1
  congr 1
  funext _ m2
  rw [K_bind]
  rfl
theorem kExt1_at (e : SE) (ρ : Ev) (k : D → Mem → Rs β) (c : Nat) (m : Mem) : kExt1 e ρ k (.loc c) m = KG c m m (kExt1b c e ρ k) := by
  unfold kExt1
  rw [K_chkL_c, lst_KG]
  refine KG_congr fun o => ?_
  cases o <;> rfl
theorem kExt1b_at (c : Nat) (e : SE) (ρ : Ev) (k : D → Mem → Rs β) (xs : List D) (m : Mem) : kExt1b c e ρ k (.lst xs) m = K (e ρ) m (kExt2 (.loc c) k) := rfl
theorem kExt2_at (c : Nat) (k : D → Mem → Rs β) (ys : List D) (m : Mem) : kExt2 (.loc c) k (.lst ys) m = KG c m m (kExt3 c ys k) := by
  unfold kExt2
  have e1 : K (extK (.loc c) (.lst ys)) m k = K (M.bind (updL (.loc c) fun xs => if xs.length + ys.length ≤ sizeLine then some (xs ++ ys) else none) fun _ => M.pure .non) m k := rfl
  rw [e1, K_bind, K_updL]
  refine KG_congr fun o => ?_
  cases o with
  | dct _ => rfl
  | obj _ _ => rfl
  | dcn _ => rfl
  | lst xs =>
    unfold kExt3
    by_cases h : xs.length + ys.length ≤ sizeLine
    · simp only [h, if_true]
      rfl
    · simp only [h, if_false]
theorem kExt3_at (c : Nat) (ys : List D) (k : D → Mem → Rs β) (xs : List D) (m : Mem) (h : xs.length + ys.length ≤ sizeLine) : kExt3 c ys k (.lst xs) m = k .non (m.put c (.lst (xs ++ ys))) := if_pos h
def mt0F (g : List D → Option (List D × D)) (ld : D) : M D := fun m => match (lstOf m ld).bind g with
  | some (_, d) => M.bind (updL ld fun xs => (g xs).map (·.1)) (fun _ => M.pure d) m
  | none => .bad
def kMt0 (g : List D → Option (List D × D)) (k : D → Mem → Rs β) : D → Mem → Rs β := fun d m => K (mt0F g d) m k
def kMt0L (c : Nat) (g : List D → Option (List D × D)) (k : D → Mem → Rs β) : MO → Mem → Rs β := fun o m => match o with
  | .lst xs => (match g xs with
    | some (ys, d) => k d (m.put c (.lst ys))
    | none => .bad)
  | _ => .bad
theorem K_mt0E (g : List D → Option (List D × D)) (l : SE) (ρ : Ev) (m : Mem) (k : D → Mem → Rs β) : K (mt0E g l ρ) m k = K (l ρ) m (kMt0 g k) := by
  unfold mt0E
  rw [K_bind]
  rfl
theorem kMt0_at (g : List D → Option (List D × D)) (k : D → Mem → Rs β) (c : Nat) (m : Mem) : kMt0 g k (.loc c) m = KG c m m (kMt0L c g k) := by
  unfold kMt0 KG
  by_cases h : c < m.n
  · rw [if_pos h]
    cases hg : m.get c with
    | none => exact K_bad (by unfold mt0F; rw [show lstOf m (.loc c) = none from by show (if c < m.n then _ else _) = _; rw [if_pos h, hg]]; rfl) _
    | some o =>
      cases o with
      | dct _ => exact K_bad (by unfold mt0F; rw [show lstOf m (.loc c) = none from by show (if c < m.n then _ else _) = _; rw [if_pos h, hg]]; rfl) _
      | obj _ _ => exact K_bad (by unfold mt0F; rw [show lstOf m (.loc c) = none from by show (if c < m.n then _ else _) = _; rw [if_pos h, hg]]; rfl) _
      | dcn _ => exact K_bad (by unfold mt0F; rw [show lstOf m (.loc c) = none from by show (if c < m.n then _ else _) = _; rw [if_pos h, hg]]; rfl) _
      | lst xs =>
        have hl : lstOf m (.loc c) = some xs := by show (if c < m.n then _ else _) = _; rw [if_pos h, hg]
        rw [KO_some]
        show _ = (match g xs with
          | some (ys, d) => k d (m.put c (.lst ys))
          | none => .bad)
        cases hx : g xs with
        | none => exact K_bad (by unfold mt0F; rw [hl]; show (match g xs with | some (_, d) => _ | none => _) = _; rw [hx]) _
        | some p =>
          obtain ⟨ys, d⟩ := p
          refine K_ok (x := d) (m1 := m.put c (.lst ys)) ?_ k
          unfold mt0F
          rw [hl]
          show (match g xs with | some (_, d) => _ | none => _) = _
          rw [hx]
          show M.bind (updL (.loc c) fun xs => (g xs).map (·.1)) (fun _ => M.pure d) m = _
          have hu : updL (.loc c) (fun xs => (g xs).map (·.1)) m = .ok () (m.put c (.lst ys)) := by
            unfold updL
            simp only [h, if_true, hg, hx, Option.map]
          rw [bind_ok hu]
          rfl
  · rw [if_neg h]
    exact K_bad (by unfold mt0F; rw [show lstOf m (.loc c) = none from by show (if c < m.n then _ else _) = _; rw [if_neg h]]; rfl) _
theorem kMt0L_clear (c : Nat) (k : D → Mem → Rs β) (xs : List D) (m : Mem) : kMt0L c gClear k (.lst xs) m = k .non (m.put c (.lst [])) := rfl
theorem kMt0L_rev (c : Nat) (k : D → Mem → Rs β) (xs : List D) (m : Mem) : kMt0L c gReverse k (.lst xs) m = k .non (m.put c (.lst xs.reverse)) := rfl
/-! in a display of texts or numbers, settled at once -/
theorem K2_in_t (x : D) (xs : List D) (m : Mem) (k : D → Mem → Rs β) (h : inOf x xs = some true) : K2 gIn x (.tup xs) m k = k (.bl true) m := KO_of (by show (inOf x xs).map D.bl = _; rw [h]; rfl) m k
theorem K2_in_f (x : D) (xs : List D) (m : Mem) (k : D → Mem → Rs β) (h : inOf x xs = some false) : K2 gIn x (.tup xs) m k = k (.bl false) m := KO_of (by show (inOf x xs).map D.bl = _; rw [h]; rfl) m k
theorem K2_notIn_t (x : D) (xs : List D) (m : Mem) (k : D → Mem → Rs β) (h : inOf x xs = some true) : K2 gNotIn x (.tup xs) m k = k (.bl false) m := KO_of (by show (inOf x xs).map (fun b => D.bl (!b)) = _; rw [h]; rfl) m k
theorem K2_notIn_f (x : D) (xs : List D) (m : Mem) (k : D → Mem → Rs β) (h : inOf x xs = some false) : K2 gNotIn x (.tup xs) m k = k (.bl true) m := KO_of (by show (inOf x xs).map (fun b => D.bl (!b)) = _; rw [h]; rfl) m k
/-! zip, enumerate, texts -/
def kZp2 (d : D) (k : Wk × Nat → Mem → Rs β) : D → Mem → Rs β := fun e m => KO (wlkOf m d) m fun xs m => KO (wlkOf m e) m fun ys m => k (wkZp d e, min xs.length ys.length) m
def kZp1 (b : SE) (ρ : Ev) (k : Wk × Nat → Mem → Rs β) : D → Mem → Rs β := fun d m => K (b ρ) m (kZp2 d k)
theorem K_itZp (a b : SE) (ρ : Ev) (m : Mem) (k : Wk × Nat → Mem → Rs β) : K (itZp a b ρ) m k = K (a ρ) m (kZp1 b ρ k) := by
  unfold itZp
  rw [K_bind]
  congr 1
  funext d m1
  rw [K_bind]
  unfold kZp1
  congr 1
  funext e m2
  unfold kZp2
  cases h1 : wlkOf m2 d with
  | none => exact K_bad (by simp only [h1]) _
  | some xs =>
    rw [KO_some]
    cases h2 : wlkOf m2 e with
    | none => exact K_bad (by simp only [h1, h2]) _
    | some ys => exact K_ok (by simp only [h1, h2]) _
theorem kZp1_at (b : SE) (ρ : Ev) (k : Wk × Nat → Mem → Rs β) (d : D) (m : Mem) : kZp1 b ρ k d m = K (b ρ) m (kZp2 d k) := rfl
theorem kZp2_of {d e : D} {xs ys : List D} {m : Mem} (h1 : wlkOf m d = some xs) (h2 : wlkOf m e = some ys) (k : Wk × Nat → Mem → Rs β) : kZp2 d k e m = k (wkZp d e, min xs.length ys.length) m := by
  unfold kZp2
  rw [h1, KO_some, h2]
  rfl
def kEnI (k : Wk × Nat → Mem → Rs β) : D → Mem → Rs β := fun d m => KO (wlkOf m d) m fun xs m => k (wkEn d, xs.length) m
theorem K_itEn (a : SE) (ρ : Ev) (m : Mem) (k : Wk × Nat → Mem → Rs β) : K (itEn a ρ) m k = K (a ρ) m (kEnI k) := by
  unfold itEn
  rw [K_bind]
  congr 1
  funext d m1
  unfold kEnI
  cases h : wlkOf m1 d with
  | none => exact K_bad (by simp only [h]) _
  | some xs => exact K_ok (by simp only [h]) _
theorem kEnI_t (k : Wk × Nat → Mem → Rs β) (xs : List D) (m : Mem) : kEnI k (.tup xs) m = k (wkEn (.tup xs), xs.length) m := rfl
theorem kEnI_l (k : Wk × Nat → Mem → Rs β) (xs : List D) (m : Mem) : kEnI k (.lst xs) m = k (wkEn (.lst xs), xs.length) m := rfl
/-! not in, in: dicts -/
def kDinD (x : KeyS) (k : D → Mem → Rs β) : MO → Mem → Rs β := fun o m => match o with
  | .dct kvs => k (.bl (valK kvs x).isSome) m
  | _ => .bad
theorem K2_din_i (c : Nat) (i : Int) (m : Mem) (k : D → Mem → Rs β) : K2 gDin (.int i) (.loc c) m k = KG c m m (kDinD (.inl i) k) := dct_KG c m (fun kvs => some (D.bl (valK kvs (.inl i)).isSome)) k
theorem kDinD_at (x : KeyS) (k : D → Mem → Rs β) (kvs : List (KeyS × D)) (m : Mem) : kDinD x k (.dct kvs) m = k (.bl (valK kvs x).isSome) m := rfl
/-! store once more -/
theorem Mem.put_new' (m : Mem) (o u : MO) : (m.new o).put m.n u = m.new u := Mem.put_new m o u
end
end LB

set_option Elab.async false
set_option linter.all false
set_option autoImplicit false
set_option maxRecDepth 100000
set_option maxHeartbeats 1000000
/-! Pure: rows and mills at the head (printed by gen/mkr.py). -/
namespace LB
open PySem
noncomputable section
section
variable {β : Type}
theorem KR_put_0 (b n : Int) (m : Mem) (k : D → Mem → Rs β) : K2 gIx (Row.put b n).enc (.int 0) m k = k (.str (Str.ofString "put")) m := rfl
theorem KR_put_1 (b n : Int) (m : Mem) (k : D → Mem → Rs β) : K2 gIx (Row.put b n).enc (.int 1) m k = k (.int b) m := rfl
theorem KR_put_2 (b n : Int) (m : Mem) (k : D → Mem → Rs β) : K2 gIx (Row.put b n).enc (.int 2) m k = k (.int n) m := rfl
theorem KR_put_l (b n : Int) (m : Mem) (k : D → Mem → Rs β) : K2 gIx (Row.put b n).enc (.int (-1)) m k = k (.int n) m := rfl
theorem KR_put_into (b n : Int) (m : Mem) (k : D → Mem → Rs β) : KF m_put_into [(Row.put b n).enc] m k = k (.int b) m := KF_ok (put_into_row _ m) k
theorem KR_put_end (b n : Int) (m : Mem) (k : D → Mem → Rs β) : KF m_is_end [(Row.put b n).enc] m k = k (.bl false) m := KF_ok (is_end_row _ m) k
theorem KR_put_looked (b n : Int) (m : Mem) (k : D → Mem → Rs β) : KF m_looked_at [(Row.put b n).enc] m k = k (.lst []) m := KF_ok (looked_at_row _ m) k
theorem KR_put_cut (b n : Int) (m : Mem) (k : D → Mem → Rs β) : KSl (Row.put b n).enc (some 1) none m k = k (.tup [.int b, .int n]) m := rfl
theorem KR_move_0 (b c : Int) (m : Mem) (k : D → Mem → Rs β) : K2 gIx (Row.move b c).enc (.int 0) m k = k (.str (Str.ofString "move")) m := rfl
theorem KR_move_1 (b c : Int) (m : Mem) (k : D → Mem → Rs β) : K2 gIx (Row.move b c).enc (.int 1) m k = k (.int b) m := rfl
theorem KR_move_2 (b c : Int) (m : Mem) (k : D → Mem → Rs β) : K2 gIx (Row.move b c).enc (.int 2) m k = k (.int c) m := rfl
theorem KR_move_l (b c : Int) (m : Mem) (k : D → Mem → Rs β) : K2 gIx (Row.move b c).enc (.int (-1)) m k = k (.int c) m := rfl
theorem KR_move_into (b c : Int) (m : Mem) (k : D → Mem → Rs β) : KF m_put_into [(Row.move b c).enc] m k = k (.int b) m := KF_ok (put_into_row _ m) k
theorem KR_move_end (b c : Int) (m : Mem) (k : D → Mem → Rs β) : KF m_is_end [(Row.move b c).enc] m k = k (.bl false) m := KF_ok (is_end_row _ m) k
theorem KR_move_looked (b c : Int) (m : Mem) (k : D → Mem → Rs β) : KF m_looked_at [(Row.move b c).enc] m k = k (.lst [.int c]) m := KF_ok (looked_at_row _ m) k
theorem KR_move_cut (b c : Int) (m : Mem) (k : D → Mem → Rs β) : KSl (Row.move b c).enc (some 1) none m k = k (.tup [.int b, .int c]) m := rfl
theorem KR_add_0 (b c d : Int) (m : Mem) (k : D → Mem → Rs β) : K2 gIx (Row.add b c d).enc (.int 0) m k = k (.str (Str.ofString "add")) m := rfl
theorem KR_add_1 (b c d : Int) (m : Mem) (k : D → Mem → Rs β) : K2 gIx (Row.add b c d).enc (.int 1) m k = k (.int b) m := rfl
theorem KR_add_2 (b c d : Int) (m : Mem) (k : D → Mem → Rs β) : K2 gIx (Row.add b c d).enc (.int 2) m k = k (.int c) m := rfl
theorem KR_add_3 (b c d : Int) (m : Mem) (k : D → Mem → Rs β) : K2 gIx (Row.add b c d).enc (.int 3) m k = k (.int d) m := rfl
theorem KR_add_l (b c d : Int) (m : Mem) (k : D → Mem → Rs β) : K2 gIx (Row.add b c d).enc (.int (-1)) m k = k (.int d) m := rfl
theorem KR_add_into (b c d : Int) (m : Mem) (k : D → Mem → Rs β) : KF m_put_into [(Row.add b c d).enc] m k = k (.int b) m := KF_ok (put_into_row _ m) k
theorem KR_add_end (b c d : Int) (m : Mem) (k : D → Mem → Rs β) : KF m_is_end [(Row.add b c d).enc] m k = k (.bl false) m := KF_ok (is_end_row _ m) k
theorem KR_add_looked (b c d : Int) (m : Mem) (k : D → Mem → Rs β) : KF m_looked_at [(Row.add b c d).enc] m k = k (.lst [.int c, .int d]) m := KF_ok (looked_at_row _ m) k
theorem KR_add_cut (b c d : Int) (m : Mem) (k : D → Mem → Rs β) : KSl (Row.add b c d).enc (some 1) none m k = k (.tup [.int b, .int c, .int d]) m := rfl
theorem KR_take_0 (b c d : Int) (m : Mem) (k : D → Mem → Rs β) : K2 gIx (Row.take b c d).enc (.int 0) m k = k (.str (Str.ofString "take")) m := rfl
theorem KR_take_1 (b c d : Int) (m : Mem) (k : D → Mem → Rs β) : K2 gIx (Row.take b c d).enc (.int 1) m k = k (.int b) m := rfl
theorem KR_take_2 (b c d : Int) (m : Mem) (k : D → Mem → Rs β) : K2 gIx (Row.take b c d).enc (.int 2) m k = k (.int c) m := rfl
theorem KR_take_3 (b c d : Int) (m : Mem) (k : D → Mem → Rs β) : K2 gIx (Row.take b c d).enc (.int 3) m k = k (.int d) m := rfl
theorem KR_take_l (b c d : Int) (m : Mem) (k : D → Mem → Rs β) : K2 gIx (Row.take b c d).enc (.int (-1)) m k = k (.int d) m := rfl
theorem KR_take_into (b c d : Int) (m : Mem) (k : D → Mem → Rs β) : KF m_put_into [(Row.take b c d).enc] m k = k (.int b) m := KF_ok (put_into_row _ m) k
theorem KR_take_end (b c d : Int) (m : Mem) (k : D → Mem → Rs β) : KF m_is_end [(Row.take b c d).enc] m k = k (.bl false) m := KF_ok (is_end_row _ m) k
theorem KR_take_looked (b c d : Int) (m : Mem) (k : D → Mem → Rs β) : KF m_looked_at [(Row.take b c d).enc] m k = k (.lst [.int c, .int d]) m := KF_ok (looked_at_row _ m) k
theorem KR_take_cut (b c d : Int) (m : Mem) (k : D → Mem → Rs β) : KSl (Row.take b c d).enc (some 1) none m k = k (.tup [.int b, .int c, .int d]) m := rfl
theorem KR_times_0 (b c d : Int) (m : Mem) (k : D → Mem → Rs β) : K2 gIx (Row.times b c d).enc (.int 0) m k = k (.str (Str.ofString "times")) m := rfl
theorem KR_times_1 (b c d : Int) (m : Mem) (k : D → Mem → Rs β) : K2 gIx (Row.times b c d).enc (.int 1) m k = k (.int b) m := rfl
theorem KR_times_2 (b c d : Int) (m : Mem) (k : D → Mem → Rs β) : K2 gIx (Row.times b c d).enc (.int 2) m k = k (.int c) m := rfl
theorem KR_times_3 (b c d : Int) (m : Mem) (k : D → Mem → Rs β) : K2 gIx (Row.times b c d).enc (.int 3) m k = k (.int d) m := rfl
theorem KR_times_l (b c d : Int) (m : Mem) (k : D → Mem → Rs β) : K2 gIx (Row.times b c d).enc (.int (-1)) m k = k (.int d) m := rfl
theorem KR_times_into (b c d : Int) (m : Mem) (k : D → Mem → Rs β) : KF m_put_into [(Row.times b c d).enc] m k = k (.int b) m := KF_ok (put_into_row _ m) k
theorem KR_times_end (b c d : Int) (m : Mem) (k : D → Mem → Rs β) : KF m_is_end [(Row.times b c d).enc] m k = k (.bl false) m := KF_ok (is_end_row _ m) k
theorem KR_times_looked (b c d : Int) (m : Mem) (k : D → Mem → Rs β) : KF m_looked_at [(Row.times b c d).enc] m k = k (.lst [.int c, .int d]) m := KF_ok (looked_at_row _ m) k
theorem KR_times_cut (b c d : Int) (m : Mem) (k : D → Mem → Rs β) : KSl (Row.times b c d).enc (some 1) none m k = k (.tup [.int b, .int c, .int d]) m := rfl
theorem KR_get_0 (b c : Int) (m : Mem) (k : D → Mem → Rs β) : K2 gIx (Row.get b c).enc (.int 0) m k = k (.str (Str.ofString "get")) m := rfl
theorem KR_get_1 (b c : Int) (m : Mem) (k : D → Mem → Rs β) : K2 gIx (Row.get b c).enc (.int 1) m k = k (.int b) m := rfl
theorem KR_get_2 (b c : Int) (m : Mem) (k : D → Mem → Rs β) : K2 gIx (Row.get b c).enc (.int 2) m k = k (.int c) m := rfl
theorem KR_get_l (b c : Int) (m : Mem) (k : D → Mem → Rs β) : K2 gIx (Row.get b c).enc (.int (-1)) m k = k (.int c) m := rfl
theorem KR_get_into (b c : Int) (m : Mem) (k : D → Mem → Rs β) : KF m_put_into [(Row.get b c).enc] m k = k (.int b) m := KF_ok (put_into_row _ m) k
theorem KR_get_end (b c : Int) (m : Mem) (k : D → Mem → Rs β) : KF m_is_end [(Row.get b c).enc] m k = k (.bl false) m := KF_ok (is_end_row _ m) k
theorem KR_get_looked (b c : Int) (m : Mem) (k : D → Mem → Rs β) : KF m_looked_at [(Row.get b c).enc] m k = k (.lst [.int c]) m := KF_ok (looked_at_row _ m) k
theorem KR_get_cut (b c : Int) (m : Mem) (k : D → Mem → Rs β) : KSl (Row.get b c).enc (some 1) none m k = k (.tup [.int b, .int c]) m := rfl
theorem KR_set_0 (b c : Int) (m : Mem) (k : D → Mem → Rs β) : K2 gIx (Row.set b c).enc (.int 0) m k = k (.str (Str.ofString "set")) m := rfl
theorem KR_set_1 (b c : Int) (m : Mem) (k : D → Mem → Rs β) : K2 gIx (Row.set b c).enc (.int 1) m k = k (.int b) m := rfl
theorem KR_set_2 (b c : Int) (m : Mem) (k : D → Mem → Rs β) : K2 gIx (Row.set b c).enc (.int 2) m k = k (.int c) m := rfl
theorem KR_set_l (b c : Int) (m : Mem) (k : D → Mem → Rs β) : K2 gIx (Row.set b c).enc (.int (-1)) m k = k (.int c) m := rfl
theorem KR_set_into (b c : Int) (m : Mem) (k : D → Mem → Rs β) : KF m_put_into [(Row.set b c).enc] m k = k .non m := KF_ok (put_into_row _ m) k
theorem KR_set_end (b c : Int) (m : Mem) (k : D → Mem → Rs β) : KF m_is_end [(Row.set b c).enc] m k = k (.bl false) m := KF_ok (is_end_row _ m) k
theorem KR_set_looked (b c : Int) (m : Mem) (k : D → Mem → Rs β) : KF m_looked_at [(Row.set b c).enc] m k = k (.lst [.int b, .int c]) m := KF_ok (looked_at_row _ m) k
theorem KR_set_cut (b c : Int) (m : Mem) (k : D → Mem → Rs β) : KSl (Row.set b c).enc (some 1) none m k = k (.tup [.int b, .int c]) m := rfl
theorem KR_say_0 (b : Int) (m : Mem) (k : D → Mem → Rs β) : K2 gIx (Row.say b).enc (.int 0) m k = k (.str (Str.ofString "say")) m := rfl
theorem KR_say_1 (b : Int) (m : Mem) (k : D → Mem → Rs β) : K2 gIx (Row.say b).enc (.int 1) m k = k (.int b) m := rfl
theorem KR_say_l (b : Int) (m : Mem) (k : D → Mem → Rs β) : K2 gIx (Row.say b).enc (.int (-1)) m k = k (.int b) m := rfl
theorem KR_say_into (b : Int) (m : Mem) (k : D → Mem → Rs β) : KF m_put_into [(Row.say b).enc] m k = k .non m := KF_ok (put_into_row _ m) k
theorem KR_say_end (b : Int) (m : Mem) (k : D → Mem → Rs β) : KF m_is_end [(Row.say b).enc] m k = k (.bl false) m := KF_ok (is_end_row _ m) k
theorem KR_say_looked (b : Int) (m : Mem) (k : D → Mem → Rs β) : KF m_looked_at [(Row.say b).enc] m k = k (.lst [.int b]) m := KF_ok (looked_at_row _ m) k
theorem KR_say_cut (b : Int) (m : Mem) (k : D → Mem → Rs β) : KSl (Row.say b).enc (some 1) none m k = k (.tup [.int b]) m := rfl
theorem KR_rest_0 (m : Mem) (k : D → Mem → Rs β) : K2 gIx (Row.rest).enc (.int 0) m k = k (.str (Str.ofString "rest")) m := rfl
theorem KR_rest_l (m : Mem) (k : D → Mem → Rs β) : K2 gIx (Row.rest).enc (.int (-1)) m k = k (.str (Str.ofString "rest")) m := rfl
theorem KR_rest_into (m : Mem) (k : D → Mem → Rs β) : KF m_put_into [(Row.rest).enc] m k = k .non m := KF_ok (put_into_row _ m) k
theorem KR_rest_end (m : Mem) (k : D → Mem → Rs β) : KF m_is_end [(Row.rest).enc] m k = k (.bl false) m := KF_ok (is_end_row _ m) k
theorem KR_rest_looked (m : Mem) (k : D → Mem → Rs β) : KF m_looked_at [(Row.rest).enc] m k = k (.lst []) m := KF_ok (looked_at_row _ m) k
theorem KR_rest_cut (m : Mem) (k : D → Mem → Rs β) : KSl (Row.rest).enc (some 1) none m k = k (.tup []) m := rfl
theorem KR_go_0 (r : Int) (m : Mem) (k : D → Mem → Rs β) : K2 gIx (Row.go r).enc (.int 0) m k = k (.str (Str.ofString "go")) m := rfl
theorem KR_go_1 (r : Int) (m : Mem) (k : D → Mem → Rs β) : K2 gIx (Row.go r).enc (.int 1) m k = k (.int r) m := rfl
theorem KR_go_l (r : Int) (m : Mem) (k : D → Mem → Rs β) : K2 gIx (Row.go r).enc (.int (-1)) m k = k (.int r) m := rfl
theorem KR_go_into (r : Int) (m : Mem) (k : D → Mem → Rs β) : KF m_put_into [(Row.go r).enc] m k = k .non m := KF_ok (put_into_row _ m) k
theorem KR_go_end (r : Int) (m : Mem) (k : D → Mem → Rs β) : KF m_is_end [(Row.go r).enc] m k = k (.bl true) m := KF_ok (is_end_row _ m) k
theorem KR_go_looked (r : Int) (m : Mem) (k : D → Mem → Rs β) : KF m_looked_at [(Row.go r).enc] m k = k (.lst []) m := KF_ok (looked_at_row _ m) k
theorem KR_go_cut (r : Int) (m : Mem) (k : D → Mem → Rs β) : KSl (Row.go r).enc (some 1) none m k = k (.tup [.int r]) m := rfl
theorem KR_ifr_0 (b r : Int) (m : Mem) (k : D → Mem → Rs β) : K2 gIx (Row.ifr b r).enc (.int 0) m k = k (.str (Str.ofString "if")) m := rfl
theorem KR_ifr_1 (b r : Int) (m : Mem) (k : D → Mem → Rs β) : K2 gIx (Row.ifr b r).enc (.int 1) m k = k (.int b) m := rfl
theorem KR_ifr_2 (b r : Int) (m : Mem) (k : D → Mem → Rs β) : K2 gIx (Row.ifr b r).enc (.int 2) m k = k (.int r) m := rfl
theorem KR_ifr_l (b r : Int) (m : Mem) (k : D → Mem → Rs β) : K2 gIx (Row.ifr b r).enc (.int (-1)) m k = k (.int r) m := rfl
theorem KR_ifr_into (b r : Int) (m : Mem) (k : D → Mem → Rs β) : KF m_put_into [(Row.ifr b r).enc] m k = k .non m := KF_ok (put_into_row _ m) k
theorem KR_ifr_end (b r : Int) (m : Mem) (k : D → Mem → Rs β) : KF m_is_end [(Row.ifr b r).enc] m k = k (.bl true) m := KF_ok (is_end_row _ m) k
theorem KR_ifr_looked (b r : Int) (m : Mem) (k : D → Mem → Rs β) : KF m_looked_at [(Row.ifr b r).enc] m k = k (.lst [.int b]) m := KF_ok (looked_at_row _ m) k
theorem KR_ifr_cut (b r : Int) (m : Mem) (k : D → Mem → Rs β) : KSl (Row.ifr b r).enc (some 1) none m k = k (.tup [.int b, .int r]) m := rfl
theorem KR_stop_0 (m : Mem) (k : D → Mem → Rs β) : K2 gIx (Row.stop).enc (.int 0) m k = k (.str (Str.ofString "stop")) m := rfl
theorem KR_stop_l (m : Mem) (k : D → Mem → Rs β) : K2 gIx (Row.stop).enc (.int (-1)) m k = k (.str (Str.ofString "stop")) m := rfl
theorem KR_stop_into (m : Mem) (k : D → Mem → Rs β) : KF m_put_into [(Row.stop).enc] m k = k .non m := KF_ok (put_into_row _ m) k
theorem KR_stop_end (m : Mem) (k : D → Mem → Rs β) : KF m_is_end [(Row.stop).enc] m k = k (.bl true) m := KF_ok (is_end_row _ m) k
theorem KR_stop_looked (m : Mem) (k : D → Mem → Rs β) : KF m_looked_at [(Row.stop).enc] m k = k (.lst []) m := KF_ok (looked_at_row _ m) k
theorem KR_stop_cut (m : Mem) (k : D → Mem → Rs β) : KSl (Row.stop).enc (some 1) none m k = k (.tup []) m := rfl
theorem KR_late (r : Row) (t : Mill) (m : Mem) (k : D → Mem → Rs β) : KF m_late [r.enc, t.enc] m k = k (.int (r.late t)) m := KF_ok (late_row r t m) k
theorem KR_far (r s : Row) (t : Mill) (m : Mem) (k : D → Mem → Rs β) : KF m_far_of [r.enc, s.enc, t.enc] m k = k (far r s t) m := KF_ok (far_of_row r s t m) k
theorem KR_num (i lo hi : Int) (m : Mem) (k : D → Mem → Rs β) : KF m_is_number [.int i, .int lo, .int hi] m k = k (.bl (numB i lo hi)) m := KF_ok (is_number_int i lo hi m) k
theorem KR_mill_0 (t : Mill) (m : Mem) (k : D → Mem → Rs β) : K2 gIx t.enc (.int 0) m k = k (.int t.a) m := rfl
theorem KR_mill_1 (t : Mill) (m : Mem) (k : D → Mem → Rs β) : K2 gIx t.enc (.int 1) m k = k (.int t.b) m := rfl
theorem KR_mill_2 (t : Mill) (m : Mem) (k : D → Mem → Rs β) : K2 gIx t.enc (.int 2) m k = k (.int t.c) m := rfl
theorem KR_mill_3 (t : Mill) (m : Mem) (k : D → Mem → Rs β) : K2 gIx t.enc (.int 3) m k = k (.int t.j) m := rfl
theorem KR_pi_len (p : List Row) (m : Mem) (k : D → Mem → Rs β) : KN gLen [encP p] m k = k (.int p.length) m := by
  rw [show (p.length : Int) = ((p.map Row.enc).length : Int) from by rw [List.length_map]]
  rfl
theorem KA_0 (r : Row) (m : Mem) (k : D → Mem → Rs β) : K2 gIx r.enc (.int 0) m k = k (.str r.word) m := by cases r <;> rfl
theorem KA_stop (r : Row) (m : Mem) (k : D → Mem → Rs β) : K2 gEq (.str r.word) (.str (Str.ofString "stop")) m k = k (.bl r.stops) m := by cases r <;> rfl
theorem KA_goes (r : Row) (m : Mem) (k : D → Mem → Rs β) : K2 gIn (.str r.word) (.tup [.str (Str.ofString "go"), .str (Str.ofString "if")]) m k = k (.bl r.goes) m := by cases r <;> rfl
theorem KA_ends (r : Row) (m : Mem) (k : D → Mem → Rs β) : K2 gIn (.str r.word) (.tup [.str (Str.ofString "go"), .str (Str.ofString "if"), .str (Str.ofString "stop")]) m k = k (.bl r.ends) m := by cases r <;> rfl
end
end
end LB

set_option Elab.async false
set_option linter.all false
set_option autoImplicit false
set_option maxRecDepth 100000
set_option maxHeartbeats 1000000
/-! Pure: methods with one argument, at the head. -/
namespace LB
open PySem
section
variable {α β γ Y : Type}
def kM1b (g : O2) (d : D) (k : D → Mem → Rs β) : D → Mem → Rs β := fun y m => K2 g d y m k
def kM1 (chk : D → Mem → Bool) (g : O2) (e : SE) (ρ : Ev) (k : D → Mem → Rs β) : D → Mem → Rs β := fun d m => K (chkD chk d) m fun _ m => K (e ρ) m (kM1b g d k)
theorem K_mt1E (chk : D → Mem → Bool) (g : O2) (o e : SE) (ρ : Ev) (m : Mem) (k : D → Mem → Rs β) : K (mt1E chk g o e ρ) m k = K (o ρ) m (kM1 chk g e ρ k) := by
  unfold mt1E
  rw [K_bind]
  congr 1
  funext d m1
  rw [K_bind]
  unfold kM1
  congr 1
  funext _ m2
  rw [K_bind]
  congr 1
  funext y m3
  exact K_lift _ _ _
theorem kM1_l (g : O2) (e : SE) (ρ : Ev) (k : D → Mem → Rs β) (xs : List D) (m : Mem) : kM1 isLst g e ρ k (.lst xs) m = K (e ρ) m (kM1b g (.lst xs) k) := by
  unfold kM1
  exact K_ok (x := ()) (m1 := m) rfl _
theorem kM1_s (g : O2) (e : SE) (ρ : Ev) (k : D → Mem → Rs β) (x : Str) (m : Mem) : kM1 isStr g e ρ k (.str x) m = K (e ρ) m (kM1b g (.str x) k) := by
  unfold kM1
  exact K_ok (x := ()) (m1 := m) rfl _
theorem kM1b_at (g : O2) (d : D) (k : D → Mem → Rs β) (y : D) (m : Mem) : kM1b g d k y m = K2 g d y m k := rfl
/-- a comprehension whose items change the store -/
theorem W_comp {w : Wk} {g : SG} {e : SE} {ρ0 : Ev} {ys : List Y} {enc : Y → D} {n : Nat} {m : Mem} {k : List D → Mem → Rs β} {q : β → Mem → Prop} {E : Er → Mem → Prop} (I : Nat → List D → Mem → Prop) (hn : n = ys.length) (hw : ∀ i acc m, I i acc m → w i m = some ((ys.map enc)[i]?)) (h0 : I 0 [] m)
    (hs : ∀ i y acc m, ys[i]? = some y → I i acc m → WP (K (exG g e (enc y) ρ0) m Rs.ok) (fun d m1 => acc.length < sizeLine ∧ I (i + 1) (acc ++ [d]) m1) fun _ _ => False) (hq : ∀ acc m, I ys.length acc m → WP (k acc m) q E) : WP (K (compG w g LB.tYes e ρ0 n 0 []) m k) q E := by
  subst hn
  refine WP_K ((compG_wp (xs := ys.map enc) (I := I) hw (fun i x acc m hx hI => ?_) (E := E) _ 0 [] m (by rw [List.length_map]; exact Nat.le_refl _) (Nat.zero_le _) h0).mono fun acc m2 h => ?_)
  · rw [List.getElem?_map] at hx
    cases hy : ys[i]? with
    | none => rw [hy] at hx; cases hx
    | some y =>
      rw [hy] at hx
      cases hx
      have z := hs i y acc m hy hI
      rw [← K_start] at z
      unfold exG at z
      cases hg : g (enc y) ρ0 with
      | none =>
        rw [hg] at z
        exact z.h.elim
      | some ρ1 =>
        rw [hg] at z
        exact ⟨ρ1, rfl, z⟩
  · rw [List.length_map] at h
    exact hq acc m2 h
def kIsiL (T : String) (k : D → Mem → Rs β) : MO → Mem → Rs β := fun o m => match o with
  | .lst _ => k (.bl (T == "list")) m
  | _ => .bad
theorem K1_isi_c (T : String) (c : Nat) (m : Mem) (k : D → Mem → Rs β) : K1 (gIsi T) (.loc c) m k = KG c m m (kIsiL T k) := by
  have e : isTy m T (.loc c) = (lstOf m (.loc c)).bind fun _ => some (T == "list") := by
    show (if c < m.n then (match m.get c with
      | some (.lst _) => some (T == "list")
      | _ => none) else none) = (if c < m.n then (match m.get c with
      | some (.lst xs) => some xs
      | _ => none) else none).bind _
    by_cases h : c < m.n
    · rw [if_pos h, if_pos h]
      cases m.get c with
      | none => rfl
      | some o => cases o <;> rfl
    · rw [if_neg h, if_neg h]
      rfl
  have h := lst_KG c m (fun _ => some (D.bl (T == "list"))) k
  unfold K1
  rw [show gIsi T (.loc c) m = (lstOf m (.loc c)).bind fun _ => some (D.bl (T == "list")) from by
    show (isTy m T (.loc c)).map D.bl = _
    rw [e]
    cases lstOf m (.loc c) <;> rfl, h]
  refine KG_congr fun o => ?_
  cases o <;> rfl
theorem kIsiL_at (T : String) (k : D → Mem → Rs β) (xs : List D) (m : Mem) : kIsiL T k (.lst xs) m = k (.bl (T == "list")) m := rfl
theorem KN_minl (ns : List Int) (m : Mem) (k : D → Mem → Rs β) : KN gMin [.lst (ns.map D.int)] m k = KO ((minL ns).map D.int) m k := by
  unfold KN
  congr 1
  show (intsOf (ns.map D.int)).bind (fun ns => (minL ns).map D.int) = _
  rw [intsOf_map]
  rfl
end
end LB

set_option Elab.async false
set_option linter.all false
set_option autoImplicit false
set_option maxRecDepth 100000
set_option maxHeartbeats 1000000
/-! Pure: small things that many laws want. -/
namespace LB
open PySem
noncomputable section
local macro_rules | `(tactic| simp_arith [$as,*]) => `(tactic| simp -implicitDefEqProofs (disch := first | assumption | decide | omega | (simp only [List.length_cons, List.length_nil, Mem.put_n, Mem.new_n, Mem.kill_n]; omega)) only [↓KO_some, ↓K_vr, ↓kVr_0, ↓kVr_s, ↓K_cn, ↓K_pure, ↓K_op2, ↓kOp2a_at, ↓kOp2b_at, ↓K_op1, ↓kOp1_at, ↓K_argN, ↓K_argC, ↓kArg1_at, ↓kArg2_at, ↓K_opN, ↓kOpN_at, ↓K_call, ↓kCall_1, ↓kCall_2, ↓kCall_3, ↓kCall_4, ↓kCall_5, ↓K_tpl, ↓K_lsl, ↓K_lsm, ↓K_dctE, ↓kTpl_0, ↓kTpl_1, ↓kTpl_2, ↓kTpl_3, ↓kTpl_4, ↓kTpl_5, ↓kLsl_0, ↓kLsl_1, ↓kLsl_2, ↓kLsl_3, ↓kLsl_4, ↓kLsm_0, ↓K_tV, ↓kTV_at, ↓K_tAnd, ↓kTAnd_t, ↓kTAnd_f, ↓K_tOr, ↓kTOr_t, ↓kTOr_f, ↓K_tNot, ↓kTNot_t, ↓kTNot_f, ↓kTNot_at, ↓K_tYes, ↓K_vAnd, ↓kVAnd_t, ↓kVAnd_f, ↓K_vOr, ↓kVOr_t, ↓kVOr_f, ↓K_vNot, ↓kVNot_at, ↓K_ifE, ↓kIfE_t, ↓kIfE_f, ↓K_chn, ↓kChn0_at, ↓kChn1_at, ↓kChn2_t, ↓kChn2_f, ↓K_soN, ↓K_soS, ↓kSoS_at, ↓K_slc, ↓kSlc0_at, ↓kSlc1_at, ↓kSlc2_at, ↓KSl_tup, ↓KSl_lst, ↓K_sNext, ↓K_sSeq, ↓kSeq_nx, ↓kSeq_rt, ↓K_sRet, ↓kRet_at, ↓K_sRetN, ↓K_sExp, ↓kExp_at, ↓K_sIf, ↓kIf_t, ↓kIf_f, ↓kSet_0, ↓kSet_s, ↓kUn_c, ↓kUn_n, ↓K_sAsg, ↓kAsg_nm, ↓kAsg_tp, ↓kNms_c, ↓kNmsC_at, ↓kNms_n, ↓K_sPar, ↓kPar1_at, ↓kPar2_at, ↓K_run, ↓kRun_rt, ↓kRun_nx, ↓K2_add_i, ↓K2_sub_i, ↓K2_mul_i, ↓K2_mod_i, ↓K2_fdiv_i, ↓K2_lt_i, ↓K2_le_i, ↓K2_gt_i, ↓K2_ge_i, ↓K2_eq_i, ↓K2_ne_i, ↓K2_eq_st, ↓K2_eq_sf, ↓K2_ne_st, ↓K2_ne_sf, ↓K2_eq_b, ↓K2_add_t, ↓K2_add_l, ↓K1_neg_i, ↓K2_isN_n, ↓K2_isN_i, ↓K2_isN_s, ↓K2_isN_t, ↓K2_isN_l, ↓K2_isN_c, ↓K2_notN_n, ↓K2_notN_i, ↓K2_notN_s, ↓K2_notN_t, ↓K2_notN_l, ↓K2_notN_c, ↓K2_ix_t, ↓K2_ix_l, ↓KIx_0, ↓KIx_1, ↓KIx_2, ↓KIx_3, ↓KIx_4, ↓KIx_m1a, ↓KIx_m1b, ↓KIx_m1c, ↓KIx_m1d, ↓KN_len_t, ↓KN_len_l, ↓KN_max2, ↓KN_min2, ↓KN_int_i, ↓KN_int_t, ↓KN_int_f, ↓KN_tuple_l, ↓KN_tuple_t, ↓KN_maxl, ↓KN_suml, ↓K1_isi_n, ↓K1_isi_b, ↓K1_isi_i, ↓K1_isi_s, ↓K1_isi_t, ↓K1_isi_l, ↓KG_put_eq, ↓KG_put_ne, ↓KG_new_eq, ↓KG_new_ne, ↓KG_kill_ne, ↓K2_ix_c, ↓kIxL_at, ↓KN_len_c, ↓kLenL_l, ↓kLenL_d, ↓KN_tuple_c, ↓kTupL_at, ↓KN_max_c, ↓kMaxL_at, ↓KSl_c, ↓kSlL_at, ↓K_appE, ↓kApp1_at, ↓kApp1b_at, ↓kApp2_at, ↓kApp3_at, ↓K_sLput, ↓kPut1_at, ↓kPut2_at, ↓kPut3_at, ↓kPut4_at, ↓K2_dget_i, ↓K2_dget_s, ↓kDgD_at, ↓KVk_eq, ↓KVk_ne, ↓KVd_eq, ↓KVd_ne, ↓KVd_n, ↓K_dget2, ↓kDg1_at, ↓kDg1b_at, ↓kDg2_at, ↓kDg3_at, ↓kDg4_i, ↓kDg4_s, ↓K_sDput, ↓kDp1_at, ↓kDp2_at, ↓kDp3_i, ↓kDp3_s, ↓kDp4_at, ↓K1_fld, ↓kFldO_at, ↓KFl_eq, ↓KFl_ne, ↓K_sFput, ↓kFp1_at, ↓kFp2_at, ↓kFp3_at, ↓kPf_n, ↓kPf_eq, ↓kPu_c, ↓kPu_n, ↓kPf_ne, ↓K_callM, ↓kMt1_at, ↓kMt2_at, ↓kNo_n, ↓kNo_c, ↓kMt3_0, ↓kMt3_1, ↓kMt3_2, ↓kMt3_3, ↓kMt3_4, ↓K_mkE, ↓kMk_1, ↓kMk_2, ↓kMk_3, ↓kMk2_at, ↓K_sFor, ↓kFor_at, ↓K_itRng1, ↓kRng1_nat, ↓K_itRng2, ↓kRng2_at, ↓K_itSeq, ↓kSeqI_t, ↓kSeqI_l, ↓kSeqI_c, ↓kSeqL_at, ↓K_bodyG_nm, ↓K_bodyG_tp, ↓K_sWhile, ↓kComp_at, ↓K_comp, ↓K_compM, ↓kLst_at, ↓kLstM_at, ↓kEx_at, ↓K_exG_nm, ↓K_exG_tp, ↓kAlc_at, ↓K_opNM, ↓kOpNM_at, ↓KN_list_l2, ↓KN_list_t2, ↓KN_list_c, ↓kListL_at, ↓K_op2M, ↓kOp2Ma_at, ↓kOp2Mb_at, ↓K2_rep1, ↓K_prE_n, ↓K_prE_c, ↓kPr1_at, ↓kPr2_at, ↓kPr3_at, ↓K_dspE, ↓kDsp_s1, ↓kDsp_s2, ↓kDsp_s3, ↓kDsp_s4, ↓K_frz, ↓kFrz_c, ↓kFrz_l, ↓kFrz_t, ↓kFrz_n, ↓kFrzL_at, ↓K_extE, ↓kExt1_at, ↓kExt1b_at, ↓kExt2_at, ↓kExt3_at, ↓K_mt0E, ↓kMt0_at, ↓kMt0L_clear, ↓kMt0L_rev, ↓K2_in_t, ↓K2_in_f, ↓K2_notIn_t, ↓K2_notIn_f, ↓K_itZp, ↓kZp1_at, ↓K_itEn, ↓kEnI_t, ↓kEnI_l, ↓K2_din_i, ↓kDinD_at, ↓KR_put_0, ↓KR_put_1, ↓KR_put_2, ↓KR_put_l, ↓KR_put_into, ↓KR_put_end, ↓KR_put_looked, ↓KR_put_cut, ↓KR_move_0, ↓KR_move_1, ↓KR_move_2, ↓KR_move_l, ↓KR_move_into, ↓KR_move_end, ↓KR_move_looked, ↓KR_move_cut, ↓KR_add_0, ↓KR_add_1, ↓KR_add_2, ↓KR_add_3, ↓KR_add_l, ↓KR_add_into, ↓KR_add_end, ↓KR_add_looked, ↓KR_add_cut, ↓KR_take_0, ↓KR_take_1, ↓KR_take_2, ↓KR_take_3, ↓KR_take_l, ↓KR_take_into, ↓KR_take_end, ↓KR_take_looked, ↓KR_take_cut, ↓KR_times_0, ↓KR_times_1, ↓KR_times_2, ↓KR_times_3, ↓KR_times_l, ↓KR_times_into, ↓KR_times_end, ↓KR_times_looked, ↓KR_times_cut, ↓KR_get_0, ↓KR_get_1, ↓KR_get_2, ↓KR_get_l, ↓KR_get_into, ↓KR_get_end, ↓KR_get_looked, ↓KR_get_cut, ↓KR_set_0, ↓KR_set_1, ↓KR_set_2, ↓KR_set_l, ↓KR_set_into, ↓KR_set_end, ↓KR_set_looked, ↓KR_set_cut, ↓KR_say_0, ↓KR_say_1, ↓KR_say_l, ↓KR_say_into, ↓KR_say_end, ↓KR_say_looked, ↓KR_say_cut, ↓KR_rest_0, ↓KR_rest_l, ↓KR_rest_into, ↓KR_rest_end, ↓KR_rest_looked, ↓KR_rest_cut, ↓KR_go_0, ↓KR_go_1, ↓KR_go_l, ↓KR_go_into, ↓KR_go_end, ↓KR_go_looked, ↓KR_go_cut, ↓KR_ifr_0, ↓KR_ifr_1, ↓KR_ifr_2, ↓KR_ifr_l, ↓KR_ifr_into, ↓KR_ifr_end, ↓KR_ifr_looked, ↓KR_ifr_cut, ↓KR_stop_0, ↓KR_stop_l, ↓KR_stop_into, ↓KR_stop_end, ↓KR_stop_looked, ↓KR_stop_cut, ↓KR_late, ↓KR_far, ↓KR_num, ↓KR_mill_0, ↓KR_mill_1, ↓KR_mill_2, ↓KR_mill_3, ↓KR_pi_len, ↓KA_stop, ↓KA_goes, ↓KA_ends, ↓K_mt1E, ↓kM1_l, ↓kM1_s, ↓kM1b_at, ↓K1_isi_c, ↓kIsiL_at, ↓KN_minl, start0, List.map_cons, List.map_nil, List.length_cons, List.length_nil, List.replicate_succ, List.replicate_zero, Nat.reduceSub, Nat.reduceAdd, wipeE, List.set_cons_zero, List.set_cons_succ, List.cons_append, List.nil_append, $as,*])
theorem KIx_nats (xs : List Nat) {v : Int} (h0 : 0 ≤ v) (h1 : v < xs.length) : ∃ w, w ∈ xs ∧ ∀ {β : Type} (m : Mem) (k : D → Mem → Rs β), KIx (xs.map fun n => D.int (n : Nat)) v m k = k (.int (w : Nat)) m := by
  have hj : v.toNat < xs.length := by omega
  refine ⟨xs[v.toNat], List.getElem_mem hj, fun m k => KIx_ofI h0 ?_ m k⟩
  rw [List.getElem?_map, List.getElem?_eq_getElem hj]
  rfl
theorem Al_int {m : Mem} {n : Nat} (i : Int) : Al (n + 1) m (.int i) (.int i) := .inr (.inr (.inl ⟨i, rfl, rfl⟩))
theorem Al_str {m : Mem} {n : Nat} (i : Str) : Al (n + 1) m (.str i) (.str i) := .inr (.inr (.inr (.inl ⟨i, rfl, rfl⟩)))
theorem Al_non {m : Mem} {n : Nat} : Al (n + 1) m .non .non := .inl ⟨rfl, rfl⟩
theorem Al_tup {m : Mem} {n : Nat} {xs ys : List D} (hl : xs.length = ys.length) (hs : xs.length ≤ sizeLine) (h : ∀ (i : Nat) (x y : D), xs[i]? = some x → ys[i]? = some y → Al n m x y) : Al (n + 1) m (.tup xs) (.tup ys) := .inr (.inr (.inr (.inr (.inl ⟨xs, ys, rfl, rfl, hl, hs, h⟩))))
end
end LB

set_option Elab.async false
set_option linter.all false
set_option autoImplicit false
set_option maxRecDepth 100000
set_option maxHeartbeats 1000000
/-! Pure: drawn programs; need_program. -/
namespace LB
open PySem
noncomputable section
def f_l_plain : SS := sSeq (sAsg (callN 1 m_l_boxes (argC (vr 0) (argN))) (gNm 2)) (sSeq (sAsg (op2 gAdd (cn (.int 1)) (callN 2 m_l_next (argC (vr 0) (argC (vr 1) (argN))))) (gNm 3)) (sSeq (sAsg (op2 gIx (lsl (argC (cn (.int 3)) (argC (cn (.int 5)) (argC (cn (.int 12)) (argN))))) (callN 2 m_l_next (argC (vr 0) (argC (cn (.int 3)) (argN))))) (gNm 4)) (sRet (opN gTuple (argC (comp (itRng1 (argC (vr 3) (argN))) (gNm 5) (LB.tYes) (ifE (tV (op2 gEq (callN 2 m_l_next (argC (vr 0) (argC (vr 4) (argN)))) (cn (.int 0)))) (callN 4 m_l_jump (argC (vr 0) (argC (vr 2) (argC (vr 5) (argC (vr 3) (argN)))))) (callN 2 m_l_deed (argC (vr 0) (argC (vr 2) (argN))))) [5]) (argN))))))
def m_l_plain : Fn := run 6 f_l_plain
theorem le_l_plain (ds : List D) (m : Mem) : LeR m (m_l_plain ds m) (run 6 f_l_plain ds m) := .same _
structure ProgOk (p : List Row) : Prop where
  one : 1 ≤ p.length
  most : p.length ≤ 200
  rows : ∀ r, r ∈ p → r.okB p.length = true
structure ProgP (n : Nat) (p : List Row) : Prop where
  one : 1 ≤ p.length
  most : p.length ≤ n
  rows : ∀ r, r ∈ p → r.okB p.length = true
theorem plain_wp {k c : Nat} {m : Mem} {n : Nat} (h : Drw k c m) (h0 : 0 < n) (h1 : n ≤ 1000) : WP (m_l_plain [.loc k, .int n] m) (Rq k c m encP (ProgP n)) fun _ _ => False := by
  unfold m_l_plain
  refine run_wp ?_
  unfold f_l_plain
  refine seq_wp ?_
  refine asg_wp ?_
  refine callN_wp ?_
  refine .eq (x := [.loc k]) (m := m) rfl ?_
  refine ⟨rfl, ?_⟩
  refine (boxes_wp h).any fun d m2 z => ?_
  obtain ⟨x, rfl, hx, d2, s2⟩ := z
  refine ⟨[some (.loc k), some (.int n), some x.enc, none, none, none], rfl, ?_⟩
  refine seq_wp (asg_wp (op2_wp (.eq (x := .int 1) (m := m2) rfl ?_)))
  refine draw_e (n := (n : Int)) rfl rfl d2 (by omega) (by omega) fun v m3 v0 v1 d3 s3 _ => ?_
  obtain ⟨u, rfl⟩ : ∃ u : Nat, v = (u : Int) := ⟨v.toNat, by omega⟩
  refine ⟨.int (1 + (u : Int)), rfl, ?_⟩
  refine ⟨[some (.loc k), some (.int n), some x.enc, some (.int (1 + (u : Int))), none, none], rfl, ?_⟩
  refine seq_wp (asg_wp (op2_wp (.eq (x := .lst [.int 3, .int 5, .int 12]) (m := m3) rfl ?_)))
  refine draw_e (n := 3) rfl rfl d3 (by decide) (by decide) fun w m4 w0 w1 d4 s4 _ => ?_
  have hoft : ∃ g : Int, gIx (.lst [.int 3, .int 5, .int 12]) (.int w) m4 = some (.int g) ∧ 0 < g ∧ g ≤ 12 := by
    have hz : w = 0 ∨ w = 1 ∨ w = 2 := by omega
    rcases hz with rfl | rfl | rfl
    · exact ⟨3, rfl, by decide, by decide⟩
    · exact ⟨5, rfl, by decide, by decide⟩
    · exact ⟨12, rfl, by decide, by decide⟩
  obtain ⟨g, hg, g0, g1⟩ := hoft
  refine ⟨.int g, hg, ?_⟩
  let ρ : Ev := [some (.loc k), some (.int n), some x.enc, some (.int (1 + (u : Int))), some (.int g), none]
  refine ⟨ρ, rfl, ?_⟩
  have s14 := (s2.trans s3).trans s4
  have eN : (1 + (u : Int)).toNat = u + 1 := by omega
  have hit : itRng1 (argC (vr 3) (argN)) ρ m4 = .ok (wkRng 0 (u + 1), ((List.range (u + 1)).map fun j => D.int (0 + (j : Nat))).length) m4 := by
    rw [List.length_map, List.length_range]
    have z := it1_ok (a := argC (vr 3) (argN)) (ρ := ρ) (m := m4) (m1 := m4) (hi := 1 + (u : Int)) rfl (by
      have e : (1 + (u : Int)) = ((u + 1 : Nat) : Int) := by omega
      rw [e]
      exact small62_nat (by omega))
    rw [eN] at z
    exact z
  refine ret_wp (opN_wp (argC_wp (comp_wp ((compL_wp (m := m4) (xs := (List.range (u + 1)).map fun j => D.int (0 + (j : Nat))) (I := fun i acc m5 => Drw k c m5 ∧ Same k c m m5 ∧ ∃ p : List Row, acc = p.map Row.enc ∧ p.length = i ∧ i ≤ u + 1 ∧ ∀ r, r ∈ p → r.okB (u + 1 : Nat) = true) hit (fun i acc m3 _ => wkRng_eq 0 (u + 1) i m3) ⟨d4, s14, [], rfl, rfl, Nat.zero_le _, fun v h => by cases h⟩ ?_).mono ?_))))
  · intro j y acc m5 hy hI
    obtain ⟨d5, s5, p, rfl, hl, hj, hp⟩ := hI
    rw [List.getElem?_map] at hy
    by_cases hjp : j < u + 1
    · rw [List.getElem?_range hjp] at hy
      cases hy
      let ρ1 : Ev := [some (.loc k), some (.int n), some x.enc, some (.int (1 + (u : Int))), some (.int g), some (.int (0 + (j : Nat)))]
      refine ⟨ρ1, rfl, ?_⟩
      have fin : ∀ (r : Row) (m6 : Mem), r.okB (u + 1 : Nat) = true → Drw k c m6 → Same k c m5 m6 → (p.map Row.enc).length < sizeLine ∧ (Drw k c m6 ∧ Same k c m m6 ∧ ∃ p2 : List Row, p.map Row.enc ++ [r.enc] = p2.map Row.enc ∧ p2.length = j + 1 ∧ j + 1 ≤ u + 1 ∧ ∀ r, r ∈ p2 → r.okB (u + 1 : Nat) = true) := fun r m6 hr d6 s6 => by
        refine ⟨by rw [List.length_map, hl]; exact Nat.lt_of_le_of_lt (show j ≤ 1000 by omega) (by decide), d6, s5.trans s6, p ++ [r], by rw [List.map_append]; rfl, by rw [List.length_append, hl]; rfl, hjp, fun r2 hv => ?_⟩
        rcases List.mem_append.mp hv with q | q
        · exact hp r2 q
        · cases List.mem_singleton.mp q
          exact hr
      refine ifE_wp (tV_wp (op2_wp ?_))
      refine draw_e (n := g) rfl rfl d5 (by omega) (by omega) fun b m6 b0 b1 d6 s6 _ => ?_
      refine .eq (x := .int 0) (m := m6) rfl ?_
      refine ⟨.bl (decide (b = 0)), rfl, decide (b = 0), rfl, ?_⟩
      cases decide (b = 0) with
      | true =>
        simp only [if_true]
        refine callN_wp ?_
        refine .eq (x := [.loc k, x.enc, .int (0 + (j : Nat)), .int (1 + (u : Int))]) (m := m6) rfl ?_
        refine ⟨rfl, ?_⟩
        refine (jump_wp d6 hx (by omega) (by omega) (by omega)).any fun d m7 z => ?_
        obtain ⟨r, rfl, hr, d7, s7⟩ := z
        have e : (1 + (u : Int)) = ((u + 1 : Nat) : Int) := by omega
        rw [e] at hr
        exact fin r m7 hr.ok d7 (s6.trans s7)
      | false =>
        simp only [Bool.false_eq_true, if_false]
        refine callN_wp ?_
        refine .eq (x := [.loc k, x.enc]) (m := m6) rfl ?_
        refine ⟨rfl, ?_⟩
        refine (deed_wp d6 hx).any fun d m7 z => ?_
        obtain ⟨r, rfl, hr, d7, s7⟩ := z
        exact fin r m7 (hr.ok _) d7 (s6.trans s7)
    · rw [List.getElem?_eq_none (by rw [List.length_range]; omega)] at hy
      cases hy
  · intro ys m5 hI
    obtain ⟨d5, s5, p, rfl, hl, _, hp⟩ := hI
    rw [List.length_map, List.length_range] at hl
    refine argN_wp ⟨.tup (p.map Row.enc), rfl, p, rfl, ⟨by omega, by omega, fun r hr => ?_⟩, d5, s5⟩
    rw [hl]
    exact hp r hr
def f_need_program : SS := sSeq (sIf (LB.tOr (LB.tNot (tV (op1 (gIsi "tuple") (vr 0)))) (tV (op2 gEq (vr 0) (tpl (argN))))) (sRaiseF 5 (cn (.int 0))) (sNext)) (sFor (itRng1 (argC (opN gLen (argC (vr 0) (argN))) (argN))) (gNm 1) (sIf (LB.tOr (tV (op2 gGe (vr 1) (cn (.int 200)))) (LB.tNot (tV (callN 2 m_is_row (argC (op2 gIx (vr 0) (vr 1)) (argC (opN gLen (argC (vr 0) (argN))) (argN))))))) (sRaiseF 5 (vr 1)) (sNext)))
def m_need_program : Fn := run 2 f_need_program
theorem le_need_program (ds : List D) (m : Mem) : LeR m (m_need_program ds m) (run 2 f_need_program ds m) := .same _
theorem encP_ne_nil {p : List Row} (h : 1 ≤ p.length) (m : Mem) : gEq (encP p) (.tup []) m = some (.bl false) := by
  have hpl : ∀ p : List Row, plains (p.map Row.enc) = true := by
    intro p
    induction p with
    | nil => rfl
    | cons r p ih =>
      show (r.enc.plain && plains (p.map Row.enc)) = true
      rw [row_plain, ih]
      rfl
  have hdp : ∀ p : List Row, deps (p.map Row.enc) ≤ 1 := by
    intro p
    induction p with
    | nil => exact Nat.zero_le _
    | cons r p ih =>
      show max r.enc.dep (deps (p.map Row.enc)) ≤ 1
      rw [row_dep]
      omega
  have h2 : eqDeep m (encP p) (.tup []) = some false := by
    unfold eqDeep
    have e1 : res m (encP p) = encP p := rfl
    have e2 : res m (.tup []) = .tup [] := rfl
    have d1 : (encP p).dep ≤ 60 := by
      show deps (p.map Row.enc) + 1 ≤ 60
      have := hdp p
      omega
    rw [e1, e2, if_pos ⟨hpl p, rfl, d1, by decide⟩]
    match p, h with
    | r :: q, _ => rfl
  show (eqDeep m (encP p) (.tup [])).map D.bl = _
  rw [h2]
  rfl
theorem need_program_ok {p : List Row} (hp : ProgOk p) (m : Mem) : m_need_program [encP p] m = .ok .non m := by
  have h200 := hp.most
  have hlen : (p.map Row.enc).length = p.length := List.length_map _
  unfold m_need_program
  refine ok_of_wp ?_
  refine run_wp ?_
  unfold f_need_program
  refine seq_wp (if_no_wp (m1 := m) (tOr_ok1 (x := false) (tNot_ok (x := true) (tV_ok (op1_ok rfl rfl))) fun _ => tV_ok (op2_ok (y := .tup []) (m2 := m) rfl rfl (encP_ne_nil hp.one m))) (sNext_wp ?_))
  have hL (ρ : Ev) (h : ρ[0]? = some (some (encP p))) : opN gLen (argC (vr 0) (argN)) ρ m = .ok (.int p.length) m := by
    have z := len_tup (a := vr 0) (ρ := ρ) (m := m) (m1 := m) (xs := p.map Row.enc) (vr_ok h)
    rw [hlen] at z
    exact z
  show WP _ _ _
  refine for_rng (lo := 0) (n := p.length) (m := m) (I := fun i ρ m2 => m2 = m ∧ ∃ a, ρ = [some (encP p), a]) ?_ ⟨rfl, none, rfl⟩ (fun i ρ m2 hi hI => ?_) fun ρ m2 hI => ?_
  · have z := it1_ok (a := argC (opN gLen (argC (vr 0) (argN))) (argN)) (ρ := [some (encP p), none]) (m := m) (m1 := m) (hi := p.length) (arg1_ok (hL _ rfl)) (small62_nat (by omega))
    rw [Int.toNat_natCast] at z
    exact z
  · obtain ⟨rfl, a, rfl⟩ := hI
    refine ⟨[some (encP p), some (.int (i : Nat))], by rw [Int.zero_add]; rfl, ?_⟩
    refine if_no_wp (m1 := m2) (tOr_ok1 (x := false) (tV_ok (op2_ok (x := .int (i : Nat)) rfl rfl (?_ : gGe (.int (i : Nat)) (.int 200) m2 = _))) fun _ => tNot_ok (x := true) (tV_ok ((callN_ok (np := 2) (arg2_ok (op2_ok rfl rfl (encP_at hi m2)) (hL _ rfl)) rfl).trans ((is_row_row (p[i]) p.length m2).trans (by rw [hp.rows _ (List.getElem_mem hi)]))))) (sNext_wp ⟨rfl, _, rfl⟩)
    show some (D.bl (decide ((200 : Int) ≤ (i : Nat)))) = _
    rw [decide_eq_false (by omega)]
  · obtain ⟨rfl, a, rfl⟩ := hI
    exact ⟨rfl, rfl⟩
end
end LB

set_option Elab.async false
set_option linter.all false
set_option autoImplicit false
set_option maxRecDepth 100000
set_option maxHeartbeats 2000000
/-! Plain: where blocks begin and end. -/
namespace LB
open PySem
noncomputable section
local macro_rules | `(tactic| simp_arith [$as,*]) => `(tactic| simp -implicitDefEqProofs (disch := first | assumption | decide | omega | (simp only [List.length_cons, List.length_nil, Mem.put_n, Mem.new_n, Mem.kill_n]; omega)) only [↓KO_some, ↓K_vr, ↓kVr_0, ↓kVr_s, ↓K_cn, ↓K_pure, ↓K_op2, ↓kOp2a_at, ↓kOp2b_at, ↓K_op1, ↓kOp1_at, ↓K_argN, ↓K_argC, ↓kArg1_at, ↓kArg2_at, ↓K_opN, ↓kOpN_at, ↓K_call, ↓kCall_1, ↓kCall_2, ↓kCall_3, ↓kCall_4, ↓kCall_5, ↓K_tpl, ↓K_lsl, ↓K_lsm, ↓K_dctE, ↓kTpl_0, ↓kTpl_1, ↓kTpl_2, ↓kTpl_3, ↓kTpl_4, ↓kTpl_5, ↓kLsl_0, ↓kLsl_1, ↓kLsl_2, ↓kLsl_3, ↓kLsl_4, ↓kLsm_0, ↓K_tV, ↓kTV_at, ↓K_tAnd, ↓kTAnd_t, ↓kTAnd_f, ↓K_tOr, ↓kTOr_t, ↓kTOr_f, ↓K_tNot, ↓kTNot_t, ↓kTNot_f, ↓kTNot_at, ↓K_tYes, ↓K_vAnd, ↓kVAnd_t, ↓kVAnd_f, ↓K_vOr, ↓kVOr_t, ↓kVOr_f, ↓K_vNot, ↓kVNot_at, ↓K_ifE, ↓kIfE_t, ↓kIfE_f, ↓K_chn, ↓kChn0_at, ↓kChn1_at, ↓kChn2_t, ↓kChn2_f, ↓K_soN, ↓K_soS, ↓kSoS_at, ↓K_slc, ↓kSlc0_at, ↓kSlc1_at, ↓kSlc2_at, ↓KSl_tup, ↓KSl_lst, ↓K_sNext, ↓K_sSeq, ↓kSeq_nx, ↓kSeq_rt, ↓K_sRet, ↓kRet_at, ↓K_sRetN, ↓K_sExp, ↓kExp_at, ↓K_sIf, ↓kIf_t, ↓kIf_f, ↓kSet_0, ↓kSet_s, ↓kUn_c, ↓kUn_n, ↓K_sAsg, ↓kAsg_nm, ↓kAsg_tp, ↓kNms_c, ↓kNmsC_at, ↓kNms_n, ↓K_sPar, ↓kPar1_at, ↓kPar2_at, ↓K_run, ↓kRun_rt, ↓kRun_nx, ↓K2_add_i, ↓K2_sub_i, ↓K2_mul_i, ↓K2_mod_i, ↓K2_fdiv_i, ↓K2_lt_i, ↓K2_le_i, ↓K2_gt_i, ↓K2_ge_i, ↓K2_eq_i, ↓K2_ne_i, ↓K2_eq_st, ↓K2_eq_sf, ↓K2_ne_st, ↓K2_ne_sf, ↓K2_eq_b, ↓K2_add_t, ↓K2_add_l, ↓K1_neg_i, ↓K2_isN_n, ↓K2_isN_i, ↓K2_isN_s, ↓K2_isN_t, ↓K2_isN_l, ↓K2_isN_c, ↓K2_notN_n, ↓K2_notN_i, ↓K2_notN_s, ↓K2_notN_t, ↓K2_notN_l, ↓K2_notN_c, ↓K2_ix_t, ↓K2_ix_l, ↓KIx_0, ↓KIx_1, ↓KIx_2, ↓KIx_3, ↓KIx_4, ↓KIx_m1a, ↓KIx_m1b, ↓KIx_m1c, ↓KIx_m1d, ↓KN_len_t, ↓KN_len_l, ↓KN_max2, ↓KN_min2, ↓KN_int_i, ↓KN_int_t, ↓KN_int_f, ↓KN_tuple_l, ↓KN_tuple_t, ↓KN_maxl, ↓KN_suml, ↓K1_isi_n, ↓K1_isi_b, ↓K1_isi_i, ↓K1_isi_s, ↓K1_isi_t, ↓K1_isi_l, ↓KG_put_eq, ↓KG_put_ne, ↓KG_new_eq, ↓KG_new_ne, ↓KG_kill_ne, ↓K2_ix_c, ↓kIxL_at, ↓KN_len_c, ↓kLenL_l, ↓kLenL_d, ↓KN_tuple_c, ↓kTupL_at, ↓KN_max_c, ↓kMaxL_at, ↓KSl_c, ↓kSlL_at, ↓K_appE, ↓kApp1_at, ↓kApp1b_at, ↓kApp2_at, ↓kApp3_at, ↓K_sLput, ↓kPut1_at, ↓kPut2_at, ↓kPut3_at, ↓kPut4_at, ↓K2_dget_i, ↓K2_dget_s, ↓kDgD_at, ↓KVk_eq, ↓KVk_ne, ↓KVd_eq, ↓KVd_ne, ↓KVd_n, ↓K_dget2, ↓kDg1_at, ↓kDg1b_at, ↓kDg2_at, ↓kDg3_at, ↓kDg4_i, ↓kDg4_s, ↓K_sDput, ↓kDp1_at, ↓kDp2_at, ↓kDp3_i, ↓kDp3_s, ↓kDp4_at, ↓K1_fld, ↓kFldO_at, ↓KFl_eq, ↓KFl_ne, ↓K_sFput, ↓kFp1_at, ↓kFp2_at, ↓kFp3_at, ↓kPf_n, ↓kPf_eq, ↓kPu_c, ↓kPu_n, ↓kPf_ne, ↓K_callM, ↓kMt1_at, ↓kMt2_at, ↓kNo_n, ↓kNo_c, ↓kMt3_0, ↓kMt3_1, ↓kMt3_2, ↓kMt3_3, ↓kMt3_4, ↓K_mkE, ↓kMk_1, ↓kMk_2, ↓kMk_3, ↓kMk2_at, ↓K_sFor, ↓kFor_at, ↓K_itRng1, ↓kRng1_nat, ↓K_itRng2, ↓kRng2_at, ↓K_itSeq, ↓kSeqI_t, ↓kSeqI_l, ↓kSeqI_c, ↓kSeqL_at, ↓K_bodyG_nm, ↓K_bodyG_tp, ↓K_sWhile, ↓kComp_at, ↓K_comp, ↓K_compM, ↓kLst_at, ↓kLstM_at, ↓kEx_at, ↓K_exG_nm, ↓K_exG_tp, ↓kAlc_at, ↓K_opNM, ↓kOpNM_at, ↓KN_list_l2, ↓KN_list_t2, ↓KN_list_c, ↓kListL_at, ↓K_op2M, ↓kOp2Ma_at, ↓kOp2Mb_at, ↓K2_rep1, ↓K_prE_n, ↓K_prE_c, ↓kPr1_at, ↓kPr2_at, ↓kPr3_at, ↓K_dspE, ↓kDsp_s1, ↓kDsp_s2, ↓kDsp_s3, ↓kDsp_s4, ↓K_frz, ↓kFrz_c, ↓kFrz_l, ↓kFrz_t, ↓kFrz_n, ↓kFrzL_at, ↓K_extE, ↓kExt1_at, ↓kExt1b_at, ↓kExt2_at, ↓kExt3_at, ↓K_mt0E, ↓kMt0_at, ↓kMt0L_clear, ↓kMt0L_rev, ↓K2_in_t, ↓K2_in_f, ↓K2_notIn_t, ↓K2_notIn_f, ↓K_itZp, ↓kZp1_at, ↓K_itEn, ↓kEnI_t, ↓kEnI_l, ↓K2_din_i, ↓kDinD_at, ↓KR_put_0, ↓KR_put_1, ↓KR_put_2, ↓KR_put_l, ↓KR_put_into, ↓KR_put_end, ↓KR_put_looked, ↓KR_put_cut, ↓KR_move_0, ↓KR_move_1, ↓KR_move_2, ↓KR_move_l, ↓KR_move_into, ↓KR_move_end, ↓KR_move_looked, ↓KR_move_cut, ↓KR_add_0, ↓KR_add_1, ↓KR_add_2, ↓KR_add_3, ↓KR_add_l, ↓KR_add_into, ↓KR_add_end, ↓KR_add_looked, ↓KR_add_cut, ↓KR_take_0, ↓KR_take_1, ↓KR_take_2, ↓KR_take_3, ↓KR_take_l, ↓KR_take_into, ↓KR_take_end, ↓KR_take_looked, ↓KR_take_cut, ↓KR_times_0, ↓KR_times_1, ↓KR_times_2, ↓KR_times_3, ↓KR_times_l, ↓KR_times_into, ↓KR_times_end, ↓KR_times_looked, ↓KR_times_cut, ↓KR_get_0, ↓KR_get_1, ↓KR_get_2, ↓KR_get_l, ↓KR_get_into, ↓KR_get_end, ↓KR_get_looked, ↓KR_get_cut, ↓KR_set_0, ↓KR_set_1, ↓KR_set_2, ↓KR_set_l, ↓KR_set_into, ↓KR_set_end, ↓KR_set_looked, ↓KR_set_cut, ↓KR_say_0, ↓KR_say_1, ↓KR_say_l, ↓KR_say_into, ↓KR_say_end, ↓KR_say_looked, ↓KR_say_cut, ↓KR_rest_0, ↓KR_rest_l, ↓KR_rest_into, ↓KR_rest_end, ↓KR_rest_looked, ↓KR_rest_cut, ↓KR_go_0, ↓KR_go_1, ↓KR_go_l, ↓KR_go_into, ↓KR_go_end, ↓KR_go_looked, ↓KR_go_cut, ↓KR_ifr_0, ↓KR_ifr_1, ↓KR_ifr_2, ↓KR_ifr_l, ↓KR_ifr_into, ↓KR_ifr_end, ↓KR_ifr_looked, ↓KR_ifr_cut, ↓KR_stop_0, ↓KR_stop_l, ↓KR_stop_into, ↓KR_stop_end, ↓KR_stop_looked, ↓KR_stop_cut, ↓KR_late, ↓KR_far, ↓KR_num, ↓KR_mill_0, ↓KR_mill_1, ↓KR_mill_2, ↓KR_mill_3, ↓KR_pi_len, ↓KA_stop, ↓KA_goes, ↓KA_ends, ↓K_mt1E, ↓kM1_l, ↓kM1_s, ↓kM1b_at, ↓K1_isi_c, ↓kIsiL_at, ↓KN_minl, start0, List.map_cons, List.map_nil, List.length_cons, List.length_nil, List.replicate_succ, List.replicate_zero, Nat.reduceSub, Nat.reduceAdd, wipeE, List.set_cons_zero, List.set_cons_succ, List.cons_append, List.nil_append, $as,*])
def Row.goal : Row → Int
  | .go r => r
  | .ifr _ r => r
  | _ => 0
/-- what the rows ahead of the i-th tell of where a block begins -/
def Tells (p : List Row) (i : Nat) (x : Int) : Prop := x = 0 ∨ ∃ j r, j < i ∧ p[j]? = some r ∧ ((r.goes = true ∧ x = r.goal) ∨ (r.ends = true ∧ x = (j : Nat) + 1))
/-- the beginnings, rising -/
structure Begs (p : List Row) (L : List Int) : Prop where
  rise : L.Pairwise (· ≤ ·)
  nd : L.Nodup
  mem : ∀ x, x ∈ L ↔ Tells p p.length x ∧ x < p.length
  len : L.length ≤ 1 + 2 * p.length
theorem Begs.eq {p : List Row} {L M : List Int} (h : Begs p L) (g : Begs p M) : L = M :=
  sorted_uniq ((List.perm_ext_iff_of_nodup h.nd g.nd).mpr fun x => (h.mem x).trans (g.mem x).symm) h.rise g.rise
/-! a dict of numbers -/
section
variable {β : Type}
end
theorem cut1 {α : Type} (xs : List α) : cutD xs (some 1) none = xs.drop 1 := by
  cases xs with
  | nil => rfl
  | cons x r =>
    have e1 : sIxD (x :: r).length 0 (some 1) = 1 := by
      show (if (1 : Int) < 0 then (1 + ((x :: r).length : Int)).toNat else min (1 : Int).toNat (x :: r).length) = 1
      rw [if_neg (by decide), List.length_cons]
      exact Nat.min_eq_left (Nat.succ_le_succ (Nat.zero_le _))
    have e2 : sIxD (x :: r).length (x :: r).length none = (x :: r).length := rfl
    unfold cutD
    rw [e1, e2, List.drop_one, List.tail_cons, List.length_cons, Nat.add_sub_cancel]
    exact List.take_length
theorem keep_put {m m2 : Mem} {o : MO} (kp : Keep m m2) (h : m.n < m2.n) : Keep m (m2.put m.n o) := ⟨kp.n, fun k hk => by
  rw [put_ne (by omega)]
  exact kp.at_ k hk⟩
end
end LB

set_option Elab.async false
set_option linter.all false
set_option autoImplicit false
set_option maxRecDepth 100000
set_option maxHeartbeats 2000000
/-! Plain: numbers and rows as texts. -/
namespace LB
open PySem L2 TL
noncomputable section
local macro_rules | `(tactic| simp_arith [$as,*]) => `(tactic| simp -implicitDefEqProofs (disch := first | assumption | decide | omega | (simp only [List.length_cons, List.length_nil, Mem.put_n, Mem.new_n, Mem.kill_n]; omega)) only [↓KO_some, ↓K_vr, ↓kVr_0, ↓kVr_s, ↓K_cn, ↓K_pure, ↓K_op2, ↓kOp2a_at, ↓kOp2b_at, ↓K_op1, ↓kOp1_at, ↓K_argN, ↓K_argC, ↓kArg1_at, ↓kArg2_at, ↓K_opN, ↓kOpN_at, ↓K_call, ↓kCall_1, ↓kCall_2, ↓kCall_3, ↓kCall_4, ↓kCall_5, ↓K_tpl, ↓K_lsl, ↓K_lsm, ↓K_dctE, ↓kTpl_0, ↓kTpl_1, ↓kTpl_2, ↓kTpl_3, ↓kTpl_4, ↓kTpl_5, ↓kLsl_0, ↓kLsl_1, ↓kLsl_2, ↓kLsl_3, ↓kLsl_4, ↓kLsm_0, ↓K_tV, ↓kTV_at, ↓K_tAnd, ↓kTAnd_t, ↓kTAnd_f, ↓K_tOr, ↓kTOr_t, ↓kTOr_f, ↓K_tNot, ↓kTNot_t, ↓kTNot_f, ↓kTNot_at, ↓K_tYes, ↓K_vAnd, ↓kVAnd_t, ↓kVAnd_f, ↓K_vOr, ↓kVOr_t, ↓kVOr_f, ↓K_vNot, ↓kVNot_at, ↓K_ifE, ↓kIfE_t, ↓kIfE_f, ↓K_chn, ↓kChn0_at, ↓kChn1_at, ↓kChn2_t, ↓kChn2_f, ↓K_soN, ↓K_soS, ↓kSoS_at, ↓K_slc, ↓kSlc0_at, ↓kSlc1_at, ↓kSlc2_at, ↓KSl_tup, ↓KSl_lst, ↓K_sNext, ↓K_sSeq, ↓kSeq_nx, ↓kSeq_rt, ↓K_sRet, ↓kRet_at, ↓K_sRetN, ↓K_sExp, ↓kExp_at, ↓K_sIf, ↓kIf_t, ↓kIf_f, ↓kSet_0, ↓kSet_s, ↓kUn_c, ↓kUn_n, ↓K_sAsg, ↓kAsg_nm, ↓kAsg_tp, ↓kNms_c, ↓kNmsC_at, ↓kNms_n, ↓K_sPar, ↓kPar1_at, ↓kPar2_at, ↓K_run, ↓kRun_rt, ↓kRun_nx, ↓K2_add_i, ↓K2_sub_i, ↓K2_mul_i, ↓K2_mod_i, ↓K2_fdiv_i, ↓K2_lt_i, ↓K2_le_i, ↓K2_gt_i, ↓K2_ge_i, ↓K2_eq_i, ↓K2_ne_i, ↓K2_eq_st, ↓K2_eq_sf, ↓K2_ne_st, ↓K2_ne_sf, ↓K2_eq_b, ↓K2_add_t, ↓K2_add_l, ↓K1_neg_i, ↓K2_isN_n, ↓K2_isN_i, ↓K2_isN_s, ↓K2_isN_t, ↓K2_isN_l, ↓K2_isN_c, ↓K2_notN_n, ↓K2_notN_i, ↓K2_notN_s, ↓K2_notN_t, ↓K2_notN_l, ↓K2_notN_c, ↓K2_ix_t, ↓K2_ix_l, ↓KIx_0, ↓KIx_1, ↓KIx_2, ↓KIx_3, ↓KIx_4, ↓KIx_m1a, ↓KIx_m1b, ↓KIx_m1c, ↓KIx_m1d, ↓KN_len_t, ↓KN_len_l, ↓KN_max2, ↓KN_min2, ↓KN_int_i, ↓KN_int_t, ↓KN_int_f, ↓KN_tuple_l, ↓KN_tuple_t, ↓KN_maxl, ↓KN_suml, ↓K1_isi_n, ↓K1_isi_b, ↓K1_isi_i, ↓K1_isi_s, ↓K1_isi_t, ↓K1_isi_l, ↓KG_put_eq, ↓KG_put_ne, ↓KG_new_eq, ↓KG_new_ne, ↓KG_kill_ne, ↓K2_ix_c, ↓kIxL_at, ↓KN_len_c, ↓kLenL_l, ↓kLenL_d, ↓KN_tuple_c, ↓kTupL_at, ↓KN_max_c, ↓kMaxL_at, ↓KSl_c, ↓kSlL_at, ↓K_appE, ↓kApp1_at, ↓kApp1b_at, ↓kApp2_at, ↓kApp3_at, ↓K_sLput, ↓kPut1_at, ↓kPut2_at, ↓kPut3_at, ↓kPut4_at, ↓K2_dget_i, ↓K2_dget_s, ↓kDgD_at, ↓KVk_eq, ↓KVk_ne, ↓KVd_eq, ↓KVd_ne, ↓KVd_n, ↓K_dget2, ↓kDg1_at, ↓kDg1b_at, ↓kDg2_at, ↓kDg3_at, ↓kDg4_i, ↓kDg4_s, ↓K_sDput, ↓kDp1_at, ↓kDp2_at, ↓kDp3_i, ↓kDp3_s, ↓kDp4_at, ↓K1_fld, ↓kFldO_at, ↓KFl_eq, ↓KFl_ne, ↓K_sFput, ↓kFp1_at, ↓kFp2_at, ↓kFp3_at, ↓kPf_n, ↓kPf_eq, ↓kPu_c, ↓kPu_n, ↓kPf_ne, ↓K_callM, ↓kMt1_at, ↓kMt2_at, ↓kNo_n, ↓kNo_c, ↓kMt3_0, ↓kMt3_1, ↓kMt3_2, ↓kMt3_3, ↓kMt3_4, ↓K_mkE, ↓kMk_1, ↓kMk_2, ↓kMk_3, ↓kMk2_at, ↓K_sFor, ↓kFor_at, ↓K_itRng1, ↓kRng1_nat, ↓K_itRng2, ↓kRng2_at, ↓K_itSeq, ↓kSeqI_t, ↓kSeqI_l, ↓kSeqI_c, ↓kSeqL_at, ↓K_bodyG_nm, ↓K_bodyG_tp, ↓K_sWhile, ↓kComp_at, ↓K_comp, ↓K_compM, ↓kLst_at, ↓kLstM_at, ↓kEx_at, ↓K_exG_nm, ↓K_exG_tp, ↓kAlc_at, ↓K_opNM, ↓kOpNM_at, ↓KN_list_l2, ↓KN_list_t2, ↓KN_list_c, ↓kListL_at, ↓K_op2M, ↓kOp2Ma_at, ↓kOp2Mb_at, ↓K2_rep1, ↓K_prE_n, ↓K_prE_c, ↓kPr1_at, ↓kPr2_at, ↓kPr3_at, ↓K_dspE, ↓kDsp_s1, ↓kDsp_s2, ↓kDsp_s3, ↓kDsp_s4, ↓K_frz, ↓kFrz_c, ↓kFrz_l, ↓kFrz_t, ↓kFrz_n, ↓kFrzL_at, ↓K_extE, ↓kExt1_at, ↓kExt1b_at, ↓kExt2_at, ↓kExt3_at, ↓K_mt0E, ↓kMt0_at, ↓kMt0L_clear, ↓kMt0L_rev, ↓K2_in_t, ↓K2_in_f, ↓K2_notIn_t, ↓K2_notIn_f, ↓K_itZp, ↓kZp1_at, ↓K_itEn, ↓kEnI_t, ↓kEnI_l, ↓K2_din_i, ↓kDinD_at, ↓KR_put_0, ↓KR_put_1, ↓KR_put_2, ↓KR_put_l, ↓KR_put_into, ↓KR_put_end, ↓KR_put_looked, ↓KR_put_cut, ↓KR_move_0, ↓KR_move_1, ↓KR_move_2, ↓KR_move_l, ↓KR_move_into, ↓KR_move_end, ↓KR_move_looked, ↓KR_move_cut, ↓KR_add_0, ↓KR_add_1, ↓KR_add_2, ↓KR_add_3, ↓KR_add_l, ↓KR_add_into, ↓KR_add_end, ↓KR_add_looked, ↓KR_add_cut, ↓KR_take_0, ↓KR_take_1, ↓KR_take_2, ↓KR_take_3, ↓KR_take_l, ↓KR_take_into, ↓KR_take_end, ↓KR_take_looked, ↓KR_take_cut, ↓KR_times_0, ↓KR_times_1, ↓KR_times_2, ↓KR_times_3, ↓KR_times_l, ↓KR_times_into, ↓KR_times_end, ↓KR_times_looked, ↓KR_times_cut, ↓KR_get_0, ↓KR_get_1, ↓KR_get_2, ↓KR_get_l, ↓KR_get_into, ↓KR_get_end, ↓KR_get_looked, ↓KR_get_cut, ↓KR_set_0, ↓KR_set_1, ↓KR_set_2, ↓KR_set_l, ↓KR_set_into, ↓KR_set_end, ↓KR_set_looked, ↓KR_set_cut, ↓KR_say_0, ↓KR_say_1, ↓KR_say_l, ↓KR_say_into, ↓KR_say_end, ↓KR_say_looked, ↓KR_say_cut, ↓KR_rest_0, ↓KR_rest_l, ↓KR_rest_into, ↓KR_rest_end, ↓KR_rest_looked, ↓KR_rest_cut, ↓KR_go_0, ↓KR_go_1, ↓KR_go_l, ↓KR_go_into, ↓KR_go_end, ↓KR_go_looked, ↓KR_go_cut, ↓KR_ifr_0, ↓KR_ifr_1, ↓KR_ifr_2, ↓KR_ifr_l, ↓KR_ifr_into, ↓KR_ifr_end, ↓KR_ifr_looked, ↓KR_ifr_cut, ↓KR_stop_0, ↓KR_stop_l, ↓KR_stop_into, ↓KR_stop_end, ↓KR_stop_looked, ↓KR_stop_cut, ↓KR_late, ↓KR_far, ↓KR_num, ↓KR_mill_0, ↓KR_mill_1, ↓KR_mill_2, ↓KR_mill_3, ↓KR_pi_len, ↓KA_stop, ↓KA_goes, ↓KA_ends, ↓K_mt1E, ↓kM1_l, ↓kM1_s, ↓kM1b_at, ↓K1_isi_c, ↓kIsiL_at, ↓KN_minl, start0, List.map_cons, List.map_nil, List.length_cons, List.length_nil, List.replicate_succ, List.replicate_zero, Nat.reduceSub, Nat.reduceAdd, wipeE, List.set_cons_zero, List.set_cons_succ, List.cons_append, List.nil_append, $as,*])
def numT (i : Int) : Str := Str.ofString (toString i)
def okN (n : Nat) : Bool :=
  decide (1 ≤ (numT (n : Int)).cps.toList.length) && decide ((numT (n : Int)).cps.toList.length ≤ 3) && (numT (n : Int)).cps.toList.all (fun c => decide (48 ≤ c) && decide (c ≤ 57)) && (decide ((numT (n : Int)).cps.toList = [48]) || decide ((numT (n : Int)).cps.toList.headD 0 ≠ 48))
theorem okN_all : (List.range 1000).all okN = true := by decide +kernel
structure NumT (z : Str) : Prop where
  one : 1 ≤ (tl z).length
  most : (tl z).length ≤ 3
  figs : ∀ c, c ∈ tl z → 48 ≤ c ∧ c ≤ 57
  head : tl z = [48] ∨ (tl z).headD 0 ≠ 48
theorem numT_ok {i : Int} (h0 : 0 ≤ i) (h1 : i < 1000) : NumT (numT i) := by
  obtain ⟨n, rfl⟩ := Int.eq_ofNat_of_zero_le h0
  have z := List.all_eq_true.mp okN_all n (List.mem_range.mpr (by omega))
  unfold okN at z
  simp only [Bool.and_eq_true, Bool.or_eq_true, decide_eq_true_eq, List.all_eq_true] at z
  exact ⟨z.1.1.1, z.1.1.2, z.1.2, z.2⟩
theorem numT_reads {i : Int} (h0 : 0 ≤ i) (h1 : i < 1000) : PySem.intText? (numT i) = some i := PySem.W.KIN.num_reads h0 (by omega)
/-- the words of a row -/
def wordsT (r : Row) : List Str := r.word :: r.parts.map numT
def rowT (r : Row) : Str := Txt.join (Str.ofString " ") (wordsT r)
def progT (p : List Row) : Str := Txt.join (Str.ofString "\n") (p.map rowT)
section
variable {β : Type}
def kStrI (k : Wk × Nat → Mem → Rs β) : D → Mem → Rs β := fun d m => match d with
  | .str z => k (wkStr z, (strOf z).length) m
  | _ => .bad
theorem K_itStr (a : SE) (ρ : Ev) (m : Mem) (k : Wk × Nat → Mem → Rs β) : K (itStr a ρ) m k = K (a ρ) m (kStrI k) := by
  unfold itStr
  rw [K_bind]
  congr 1
  funext d m1
  cases d <;> first
    | rfl
    | exact K_ok rfl _
    | exact K_bad rfl _
theorem kStrI_at (k : Wk × Nat → Mem → Rs β) (z : Str) (m : Mem) : kStrI k (.str z) m = k (wkStr z, (strOf z).length) m := rfl
theorem KN_len_s {z : Str} (h : z.length ≤ sizeLine) (m : Mem) (k : D → Mem → Rs β) : KN gLen [.str z] m k = k (.int z.length) m := KO_of (if_pos h) m k
theorem KN_str (i : Int) (h : i.natAbs.log2 < 1920) (m : Mem) (k : D → Mem → Rs β) : KN gStr [.int i] m k = k (.str (numT i)) m := KO_of (if_pos h) m k
end
def f_number_of : SS := sSeq (sIf (LB.tOr (LB.tNot (tV (chn gLe gLe (cn (.int 1)) (opN gLen (argC (vr 0) (argN))) (cn (.int 3))))) (tV (op2 gNe (comp (itStr (vr 0)) (gNm 1) (tV (op2 gNotInS (vr 1) (cn (.str (Str.ofString "0123456789"))))) (vr 1) [1]) (lsl (argN))))) (sRet (cn .non)) (sNext)) (sRet (ifE (LB.tOr (tV (op2 gEq (vr 0) (cn (.str (Str.ofString "0"))))) (tV (op2 gNe (op2 gIx (vr 0) (cn (.int 0))) (cn (.str (Str.ofString "0")))))) (opN gIntS (argC (vr 0) (argN))) (cn .non)))
def m_number_of : Fn := run 2 f_number_of
theorem le_number_of (ds : List D) (m : Mem) : LeR m (m_number_of ds m) (run 2 f_number_of ds m) := .same _
theorem number_of_run {i : Int} (h0 : 0 ≤ i) (h1 : i < 1000) (m : Mem) : m_number_of [.str (numT i)] m = .ok (.int i) m := by
  have ok := numT_ok h0 h1
  have hr := numT_reads h0 h1
  rw [K_start (m_number_of _), m_number_of, f_number_of]
  have hl3 := ok.most
  have hl1 := ok.one
  have hlen : (numT i).length = (tl (numT i)).length := len_tl _
  have hsz : (numT i).length ≤ sizeLine := Nat.le_trans (by omega : (numT i).length ≤ 3) (by decide)
  have c1 : decide ((1 : Int) ≤ ((numT i).length : Nat)) = true := decide_eq_true (by omega)
  have c2 : decide ((((numT i).length : Nat) : Int) ≤ 3) = true := decide_eq_true (by omega)
  have hsl : (strOf (numT i)).length = (tl (numT i)).length := List.length_map _
  have hfg : ∀ c, c ∈ tl (numT i) → (!decide (c ∈ (Str.ofString "0123456789").cps.toList)) = false := fun c hc => by
    have hd : (List.range 58).all (fun c => decide (c < 48) || decide (c ∈ (Str.ofString "0123456789").cps.toList)) = true := by decide +kernel
    obtain ⟨f1, f2⟩ := ok.figs c hc
    have z := List.all_eq_true.mp hd c (List.mem_range.mpr (by omega))
    rw [Bool.or_eq_true, decide_eq_true_eq, decide_eq_true_eq] at z
    rcases z with z | z
    · omega
    · rw [decide_eq_true z]
      rfl
  have hcm := fun (k : List D → Mem → Rs D) => C_filter (w := wkStr (numT i)) (g := gNm 1) (t := tV (op2 gNotInS (vr 1) (cn (.str (Str.ofString "0123456789"))))) (e := vr 1) (ρ0 := [some (.str (numT i)), none]) (m := m) (n := (strOf (numT i)).length) (k := k) (tl (numT i)) (fun c => D.str ⟨#[c]⟩) (fun _ => false) (fun c => D.str ⟨#[c]⟩) hsl (by omega) (fun i _ => rfl) (fun c hc => by
    have e : ∀ (k : D → Mem → Rs Bool) (m : Mem), K2 gNotInS (.str ⟨#[c]⟩) (.str (Str.ofString "0123456789")) m k = k (.bl false) m := fun k m => KO_of (by
      show some (D.bl (!decide (c ∈ (Str.ofString "0123456789").cps.toList))) = _
      rw [hfg c hc]) m k
    simp_arith [↓K_exG_nm, ↓e]) (fun c hc h => by cases h)
  have hnil : (tl (numT i)).filter (fun _ => false) = [] := List.filter_eq_nil_iff.mpr (by simp)
  have hne0 : ∀ (k : D → Mem → Rs Bool) (m : Mem), K2 gNe (.lst []) (.lst []) m k = k (.bl false) m := fun k m => rfl
  have hne1 : ∀ (k : D → Mem → Rs D) (m : Mem), K2 gNe (.lst []) (.lst []) m k = k (.bl false) m := fun k m => rfl
  have hint : ∀ (k : D → Mem → Rs D) (m : Mem), KN gIntS [.str (numT i)] m k = k (.int i) m := fun k m => KO_of (by
    show (if (numT i).length ≤ 640 then (PySem.intText? (numT i)).map D.int else none) = _
    rw [if_pos (by omega), hr]
    rfl) m k
  have t0 : tl (Str.ofString "0") = [48] := by decide +kernel
  by_cases hz : numT i = Str.ofString "0"
  · have hz1 : decide (numT i = Str.ofString "0") = true := decide_eq_true hz
    simp_arith [↓KN_len_s hsz, c1, c2, ↓K_itStr, ↓kStrI_at, ↓hcm, hnil, Bool.not_true, ↓hne0, ↓hne1, ↓hint, ↓K2_eq_s, hz1]
  · have hz2 : decide (numT i = Str.ofString "0") = false := decide_eq_false hz
    have hh : (tl (numT i)).headD 0 ≠ 48 := by
      rcases ok.head with h | h
      · exact absurd (ext_tl (h.trans t0.symm)) hz
      · exact h
    obtain ⟨c, l, hcl⟩ : ∃ c l, tl (numT i) = c :: l := by
      cases hc : tl (numT i) with
      | nil => rw [hc] at hl1; cases hl1
      | cons c l => exact ⟨c, l, rfl⟩
    rw [hcl] at hh
    have hix : ∀ (k : D → Mem → Rs D) (m : Mem), K2 gIx (.str (numT i)) (.int 0) m k = k (.str ⟨#[c]⟩) m := fun k m => KO_of (by
      show (if (numT i).length ≤ sizeLine then (atD (tl (numT i)) 0).map (fun c => D.str ⟨#[c]⟩) else none) = _
      rw [if_pos hsz, hcl, show (0 : Int) = ((0 : Nat) : Int) from rfl, atD_nat]
      rfl) m k
    have hc0 : decide ((⟨#[c]⟩ : Str) = Str.ofString "0") = false := decide_eq_false fun e => by
      have z : tl (⟨#[c]⟩ : Str) = tl (Str.ofString "0") := by rw [e]
      rw [t0] at z
      have z2 : [c] = [48] := z
      exact hh (List.cons.inj z2).1
    simp_arith [↓KN_len_s hsz, c1, c2, ↓K_itStr, ↓kStrI_at, ↓hcm, hnil, Bool.not_true, ↓hne0, ↓hne1, ↓hint, ↓K2_eq_s, hz2, ↓hix, ↓K2_ne_s, hc0, Bool.not_false]
theorem joinL_le {S : List Nat} {b : Nat} : ∀ ps : List (List Nat), (∀ p, p ∈ ps → p.length ≤ b) → (joinL S ps).length ≤ ps.length * (b + S.length)
  | [], _ => Nat.zero_le _
  | [p], h => by
    have := h p List.mem_cons_self
    show p.length ≤ 1 * (b + S.length)
    omega
  | p :: q :: r, h => by
    have h1 := h p List.mem_cons_self
    have ih := joinL_le (S := S) (q :: r) fun x hx => h x (List.mem_cons_of_mem _ hx)
    show (p ++ (S ++ joinL S (q :: r))).length ≤ _
    rw [List.length_append, List.length_append, List.length_cons, Nat.succ_mul]
    omega
theorem join_le {y : Str} {b : Nat} {ps : List Str} (h : ∀ p, p ∈ ps → p.length ≤ b) : (Txt.join y ps).length ≤ ps.length * (b + y.length) := by
  rw [join_eq, len_tl, tl_join]
  have z := joinL_le (S := tl y) (b := b) (ps.map tl) fun p hp => by
    obtain ⟨q, hq, rfl⟩ := List.mem_map.mp hp
    rw [← len_tl]
    exact h q hq
  rw [List.length_map] at z
  rw [len_tl y]
  exact z
theorem word_len (r : Row) : r.word.length ≤ 5 := by
  cases r <;> (unfold Row.word; dsimp only; decide +kernel)
/-- the row of a line -/
structure RowN (rows : Nat) (r : Row) : Prop where
  nums : ∀ i, i ∈ r.parts → 0 ≤ i ∧ i < 1000
  ok : r.okB rows = true
theorem rowN_of {rows : Nat} {r : Row} (h : r.okB rows = true) (hr : rows ≤ 200) : RowN rows r := by
  refine ⟨fun i hi => ?_, h⟩
  cases r <;> simp [Row.okB, Row.parts, Row.sorts, most] at h hi <;> omega
theorem rowT_len {r : Row} (h : ∀ i, i ∈ r.parts → 0 ≤ i ∧ i < 1000) : (rowT r).length ≤ 24 := by
  have hp : r.parts.length ≤ 3 := by cases r <;> simp [Row.parts]
  have z := join_le (y := Str.ofString " ") (b := 5) (ps := wordsT r) fun p hp => by
    rcases List.mem_cons.mp hp with e | hp
    · rw [e]
      exact word_len r
    · obtain ⟨i, hi, rfl⟩ := List.mem_map.mp hp
      have := (numT_ok (h i hi).1 (h i hi).2).most
      rw [len_tl]
      omega
  have y1 : (Str.ofString " ").length = 1 := by decide +kernel
  have wl : (wordsT r).length ≤ 4 := by
    unfold wordsT
    rw [List.length_cons, List.length_map]
    omega
  rw [y1] at z
  exact Nat.le_trans z (by omega)
def f_row_of : SS := sSeq (sAsg (mt1E isStr gSplit (vr 0) (cn (.str (Str.ofString " ")))) (gNm 2)) (sSeq (sIf (tV (op1 (gNotInK tbF) (op2 gIx (vr 2) (cn (.int 0))))) (sRet (cn .non)) (sNext)) (sSeq (sAsg (op2 gAdd (tpl (argC (op2 gIx (vr 2) (cn (.int 0))) (argN))) (opN gTuple (argC (comp (itSeq (slc (vr 2) (soS (cn (.int 1))) (soN))) (gNm 4) (LB.tYes) (callN 1 m_number_of (argC (vr 4) (argN))) [4]) (argN)))) (gNm 3)) (sRet (ifE (tV (callN 2 m_is_row (argC (vr 3) (argC (vr 1) (argN))))) (vr 3) (cn .non)))))
def m_row_of : Fn := run 5 f_row_of
theorem le_row_of (ds : List D) (m : Mem) : LeR m (m_row_of ds m) (run 5 f_row_of ds m) := .same _
end
end LB

set_option Elab.async false
set_option linter.all false
set_option autoImplicit false
set_option maxRecDepth 100000
set_option maxHeartbeats 2000000
/-! Pure: a program written. -/
namespace LB
open PySem L2 TL
noncomputable section
local macro_rules | `(tactic| simp_arith [$as,*]) => `(tactic| simp -implicitDefEqProofs (disch := first | assumption | decide | omega | (simp only [List.length_cons, List.length_nil, Mem.put_n, Mem.new_n, Mem.kill_n]; omega)) only [↓KO_some, ↓K_vr, ↓kVr_0, ↓kVr_s, ↓K_cn, ↓K_pure, ↓K_op2, ↓kOp2a_at, ↓kOp2b_at, ↓K_op1, ↓kOp1_at, ↓K_argN, ↓K_argC, ↓kArg1_at, ↓kArg2_at, ↓K_opN, ↓kOpN_at, ↓K_call, ↓kCall_1, ↓kCall_2, ↓kCall_3, ↓kCall_4, ↓kCall_5, ↓K_tpl, ↓K_lsl, ↓K_lsm, ↓K_dctE, ↓kTpl_0, ↓kTpl_1, ↓kTpl_2, ↓kTpl_3, ↓kTpl_4, ↓kTpl_5, ↓kLsl_0, ↓kLsl_1, ↓kLsl_2, ↓kLsl_3, ↓kLsl_4, ↓kLsm_0, ↓K_tV, ↓kTV_at, ↓K_tAnd, ↓kTAnd_t, ↓kTAnd_f, ↓K_tOr, ↓kTOr_t, ↓kTOr_f, ↓K_tNot, ↓kTNot_t, ↓kTNot_f, ↓kTNot_at, ↓K_tYes, ↓K_vAnd, ↓kVAnd_t, ↓kVAnd_f, ↓K_vOr, ↓kVOr_t, ↓kVOr_f, ↓K_vNot, ↓kVNot_at, ↓K_ifE, ↓kIfE_t, ↓kIfE_f, ↓K_chn, ↓kChn0_at, ↓kChn1_at, ↓kChn2_t, ↓kChn2_f, ↓K_soN, ↓K_soS, ↓kSoS_at, ↓K_slc, ↓kSlc0_at, ↓kSlc1_at, ↓kSlc2_at, ↓KSl_tup, ↓KSl_lst, ↓K_sNext, ↓K_sSeq, ↓kSeq_nx, ↓kSeq_rt, ↓K_sRet, ↓kRet_at, ↓K_sRetN, ↓K_sExp, ↓kExp_at, ↓K_sIf, ↓kIf_t, ↓kIf_f, ↓kSet_0, ↓kSet_s, ↓kUn_c, ↓kUn_n, ↓K_sAsg, ↓kAsg_nm, ↓kAsg_tp, ↓kNms_c, ↓kNmsC_at, ↓kNms_n, ↓K_sPar, ↓kPar1_at, ↓kPar2_at, ↓K_run, ↓kRun_rt, ↓kRun_nx, ↓K2_add_i, ↓K2_sub_i, ↓K2_mul_i, ↓K2_mod_i, ↓K2_fdiv_i, ↓K2_lt_i, ↓K2_le_i, ↓K2_gt_i, ↓K2_ge_i, ↓K2_eq_i, ↓K2_ne_i, ↓K2_eq_st, ↓K2_eq_sf, ↓K2_ne_st, ↓K2_ne_sf, ↓K2_eq_b, ↓K2_add_t, ↓K2_add_l, ↓K1_neg_i, ↓K2_isN_n, ↓K2_isN_i, ↓K2_isN_s, ↓K2_isN_t, ↓K2_isN_l, ↓K2_isN_c, ↓K2_notN_n, ↓K2_notN_i, ↓K2_notN_s, ↓K2_notN_t, ↓K2_notN_l, ↓K2_notN_c, ↓K2_ix_t, ↓K2_ix_l, ↓KIx_0, ↓KIx_1, ↓KIx_2, ↓KIx_3, ↓KIx_4, ↓KIx_m1a, ↓KIx_m1b, ↓KIx_m1c, ↓KIx_m1d, ↓KN_len_t, ↓KN_len_l, ↓KN_max2, ↓KN_min2, ↓KN_int_i, ↓KN_int_t, ↓KN_int_f, ↓KN_tuple_l, ↓KN_tuple_t, ↓KN_maxl, ↓KN_suml, ↓K1_isi_n, ↓K1_isi_b, ↓K1_isi_i, ↓K1_isi_s, ↓K1_isi_t, ↓K1_isi_l, ↓KG_put_eq, ↓KG_put_ne, ↓KG_new_eq, ↓KG_new_ne, ↓KG_kill_ne, ↓K2_ix_c, ↓kIxL_at, ↓KN_len_c, ↓kLenL_l, ↓kLenL_d, ↓KN_tuple_c, ↓kTupL_at, ↓KN_max_c, ↓kMaxL_at, ↓KSl_c, ↓kSlL_at, ↓K_appE, ↓kApp1_at, ↓kApp1b_at, ↓kApp2_at, ↓kApp3_at, ↓K_sLput, ↓kPut1_at, ↓kPut2_at, ↓kPut3_at, ↓kPut4_at, ↓K2_dget_i, ↓K2_dget_s, ↓kDgD_at, ↓KVk_eq, ↓KVk_ne, ↓KVd_eq, ↓KVd_ne, ↓KVd_n, ↓K_dget2, ↓kDg1_at, ↓kDg1b_at, ↓kDg2_at, ↓kDg3_at, ↓kDg4_i, ↓kDg4_s, ↓K_sDput, ↓kDp1_at, ↓kDp2_at, ↓kDp3_i, ↓kDp3_s, ↓kDp4_at, ↓K1_fld, ↓kFldO_at, ↓KFl_eq, ↓KFl_ne, ↓K_sFput, ↓kFp1_at, ↓kFp2_at, ↓kFp3_at, ↓kPf_n, ↓kPf_eq, ↓kPu_c, ↓kPu_n, ↓kPf_ne, ↓K_callM, ↓kMt1_at, ↓kMt2_at, ↓kNo_n, ↓kNo_c, ↓kMt3_0, ↓kMt3_1, ↓kMt3_2, ↓kMt3_3, ↓kMt3_4, ↓K_mkE, ↓kMk_1, ↓kMk_2, ↓kMk_3, ↓kMk2_at, ↓K_sFor, ↓kFor_at, ↓K_itRng1, ↓kRng1_nat, ↓K_itRng2, ↓kRng2_at, ↓K_itSeq, ↓kSeqI_t, ↓kSeqI_l, ↓kSeqI_c, ↓kSeqL_at, ↓K_bodyG_nm, ↓K_bodyG_tp, ↓K_sWhile, ↓kComp_at, ↓K_comp, ↓K_compM, ↓kLst_at, ↓kLstM_at, ↓kEx_at, ↓K_exG_nm, ↓K_exG_tp, ↓kAlc_at, ↓K_opNM, ↓kOpNM_at, ↓KN_list_l2, ↓KN_list_t2, ↓KN_list_c, ↓kListL_at, ↓K_op2M, ↓kOp2Ma_at, ↓kOp2Mb_at, ↓K2_rep1, ↓K_prE_n, ↓K_prE_c, ↓kPr1_at, ↓kPr2_at, ↓kPr3_at, ↓K_dspE, ↓kDsp_s1, ↓kDsp_s2, ↓kDsp_s3, ↓kDsp_s4, ↓K_frz, ↓kFrz_c, ↓kFrz_l, ↓kFrz_t, ↓kFrz_n, ↓kFrzL_at, ↓K_extE, ↓kExt1_at, ↓kExt1b_at, ↓kExt2_at, ↓kExt3_at, ↓K_mt0E, ↓kMt0_at, ↓kMt0L_clear, ↓kMt0L_rev, ↓K2_in_t, ↓K2_in_f, ↓K2_notIn_t, ↓K2_notIn_f, ↓K_itZp, ↓kZp1_at, ↓K_itEn, ↓kEnI_t, ↓kEnI_l, ↓K2_din_i, ↓kDinD_at, ↓KR_put_0, ↓KR_put_1, ↓KR_put_2, ↓KR_put_l, ↓KR_put_into, ↓KR_put_end, ↓KR_put_looked, ↓KR_put_cut, ↓KR_move_0, ↓KR_move_1, ↓KR_move_2, ↓KR_move_l, ↓KR_move_into, ↓KR_move_end, ↓KR_move_looked, ↓KR_move_cut, ↓KR_add_0, ↓KR_add_1, ↓KR_add_2, ↓KR_add_3, ↓KR_add_l, ↓KR_add_into, ↓KR_add_end, ↓KR_add_looked, ↓KR_add_cut, ↓KR_take_0, ↓KR_take_1, ↓KR_take_2, ↓KR_take_3, ↓KR_take_l, ↓KR_take_into, ↓KR_take_end, ↓KR_take_looked, ↓KR_take_cut, ↓KR_times_0, ↓KR_times_1, ↓KR_times_2, ↓KR_times_3, ↓KR_times_l, ↓KR_times_into, ↓KR_times_end, ↓KR_times_looked, ↓KR_times_cut, ↓KR_get_0, ↓KR_get_1, ↓KR_get_2, ↓KR_get_l, ↓KR_get_into, ↓KR_get_end, ↓KR_get_looked, ↓KR_get_cut, ↓KR_set_0, ↓KR_set_1, ↓KR_set_2, ↓KR_set_l, ↓KR_set_into, ↓KR_set_end, ↓KR_set_looked, ↓KR_set_cut, ↓KR_say_0, ↓KR_say_1, ↓KR_say_l, ↓KR_say_into, ↓KR_say_end, ↓KR_say_looked, ↓KR_say_cut, ↓KR_rest_0, ↓KR_rest_l, ↓KR_rest_into, ↓KR_rest_end, ↓KR_rest_looked, ↓KR_rest_cut, ↓KR_go_0, ↓KR_go_1, ↓KR_go_l, ↓KR_go_into, ↓KR_go_end, ↓KR_go_looked, ↓KR_go_cut, ↓KR_ifr_0, ↓KR_ifr_1, ↓KR_ifr_2, ↓KR_ifr_l, ↓KR_ifr_into, ↓KR_ifr_end, ↓KR_ifr_looked, ↓KR_ifr_cut, ↓KR_stop_0, ↓KR_stop_l, ↓KR_stop_into, ↓KR_stop_end, ↓KR_stop_looked, ↓KR_stop_cut, ↓KR_late, ↓KR_far, ↓KR_num, ↓KR_mill_0, ↓KR_mill_1, ↓KR_mill_2, ↓KR_mill_3, ↓KR_pi_len, ↓KA_stop, ↓KA_goes, ↓KA_ends, ↓K_mt1E, ↓kM1_l, ↓kM1_s, ↓kM1b_at, ↓K1_isi_c, ↓kIsiL_at, ↓KN_minl, start0, List.map_cons, List.map_nil, List.length_cons, List.length_nil, List.replicate_succ, List.replicate_zero, Nat.reduceSub, Nat.reduceAdd, wipeE, List.set_cons_zero, List.set_cons_succ, List.cons_append, List.nil_append, $as,*])
theorem strsOf_map : ∀ ys : List Str, strsOf (ys.map D.str) = some ys
  | [] => rfl
  | y :: r => by
    show (strsOf (r.map D.str)).map (y :: ·) = _
    rw [strsOf_map r]
    rfl
theorem sum_le {b : Nat} : ∀ ys : List Str, (∀ y, y ∈ ys → y.length ≤ b) → (ys.map (·.length)).sum ≤ ys.length * b
  | [], _ => Nat.zero_le _
  | y :: r, h => by
    have h1 := h y List.mem_cons_self
    have ih := sum_le r fun x hx => h x (List.mem_cons_of_mem _ hx)
    rw [List.map_cons, List.sum_cons, List.length_cons, Nat.succ_mul]
    omega
theorem K2_join {β : Type} {a : Str} {ys : List Str} {b : Nat} (hb : ∀ y, y ∈ ys → y.length ≤ b) (hl : ys.length * b + ys.length * a.length ≤ 16777216) (m : Mem) (k : D → Mem → Rs β) : K2 gJoin (.str a) (.lst (ys.map D.str)) m k = k (.str (Txt.join a ys)) m := KO_of (by
  show (strsOf (ys.map D.str)).bind (fun ys => if (ys.map (·.length)).sum + ys.length * a.length ≤ 16777216 then some (D.str (Txt.join a ys)) else none) = _
  rw [strsOf_map, Option.bind_some, if_pos (Nat.le_trans (Nat.add_le_add_right (sum_le ys hb) _) hl)]) m k
theorem cut_row {β : Type} (r : Row) (m : Mem) (k : D → Mem → Rs β) : KSl r.enc (some 1) none m k = k (.tup (r.parts.map D.int)) m := by cases r <;> rfl
theorem log_small {i : Int} (h0 : 0 ≤ i) (h1 : i < 1000) : i.natAbs.log2 < 1920 := by
  by_cases e : i.natAbs = 0
  · rw [e]
    decide
  · refine (Nat.log2_lt e).mpr (Nat.lt_of_lt_of_le (show i.natAbs < 2 ^ 10 by omega) (Nat.pow_le_pow_right (by decide) (by decide)))
def f_written : SS := sSeq (sExp (callN 1 m_need_program (argC (vr 0) (argN)))) (sRet (mt1E isStr gJoin (cn (.str (Str.ofString "\n"))) (comp (itSeq (vr 0)) (gNm 1) (LB.tYes) (mt1E isStr gJoin (cn (.str (Str.ofString " "))) (op2 gAdd (lsl (argC (op2 gIx (vr 1) (cn (.int 0))) (argN))) (comp (itSeq (slc (vr 1) (soS (cn (.int 1))) (soN))) (gNm 2) (LB.tYes) (opN gStr (argC (vr 2) (argN))) [2]))) [1])))
def m_written : Fn := run 3 f_written
theorem le_written (ds : List D) (m : Mem) : LeR m (m_written ds m) (run 3 f_written ds m) := .same _
theorem written_run {p : List Row} (hp : ProgOk p) (m : Mem) : m_written [encP p] m = .ok (.str (progT p)) m := by
  have h200 := hp.most
  have hN : ∀ r, r ∈ p → RowN p.length r := fun r hr => rowN_of (hp.rows r hr) h200
  have y1 : (Str.ofString " ").length = 1 := by decide +kernel
  have y2 : (Str.ofString "\n").length = 1 := by decide +kernel
  rw [K_start (m_written _), m_written, f_written]
  have hrow : ∀ r, r ∈ p → K (exG (gNm 1) (mt1E isStr gJoin (cn (.str (Str.ofString " "))) (op2 gAdd (lsl (argC (op2 gIx (vr 1) (cn (.int 0))) (argN))) (comp (itSeq (slc (vr 1) (soS (cn (.int 1))) (soN))) (gNm 2) (LB.tYes) (opN gStr (argC (vr 2) (argN))) [2]))) r.enc [some (encP p), none, none]) m Rs.ok = .ok (.str (rowT r)) m := fun r hr => by
    have hn := (hN r hr).nums
    have hpl : r.parts.length ≤ 3 := by cases r <;> simp [Row.parts]
    have hcm := fun (k : List D → Mem → Rs D) => C_map (w := wkSeq (.tup (r.parts.map D.int))) (g := gNm 2) (e := opN gStr (argC (vr 2) (argN))) (ρ0 := [some (encP p), some r.enc, none]) (m := m) (n := (r.parts.map D.int).length) (k := k) r.parts D.int (fun i => .str (numT i)) (List.length_map _) (Nat.le_trans hpl (by decide)) (fun i _ => rfl) (fun _ _ => rfl) (fun i hi => by
      simp_arith [↓K_exG_nm, ↓KN_str i (log_small (hn i hi).1 (hn i hi).2)])
    have hadd : [D.str r.word].length + (r.parts.map fun i => D.str (numT i)).length ≤ sizeLine := by
      rw [List.length_map]
      exact Nat.le_trans (show 1 + r.parts.length ≤ 4 by omega) (by decide)
    have hj : ∀ (k : D → Mem → Rs D) (m : Mem), K2 gJoin (.str (Str.ofString " ")) (.lst (.str r.word :: r.parts.map fun i => .str (numT i))) m k = k (.str (rowT r)) m := fun k m => by
      have z := K2_join (a := Str.ofString " ") (ys := wordsT r) (b := 5) (fun y hy => by
        rcases List.mem_cons.mp hy with e | hy
        · rw [e]
          exact word_len r
        · obtain ⟨i, hi, rfl⟩ := List.mem_map.mp hy
          have := (numT_ok (hn i hi).1 (hn i hi).2).most
          rw [len_tl]
          omega) (by
        have wl : (wordsT r).length = r.parts.length + 1 := by
          unfold wordsT
          rw [List.length_cons, List.length_map]
        rw [y1, wl]
        omega) m k
      unfold wordsT at z
      rw [List.map_cons, List.map_map] at z
      exact z
    simp_arith [↓K_exG_nm, ↓KA_0, ↓cut_row, ↓hcm, ↓hj]
  have hcm := fun (k : List D → Mem → Rs D) => C_map (w := wkSeq (encP p)) (g := gNm 1) (e := mt1E isStr gJoin (cn (.str (Str.ofString " "))) (op2 gAdd (lsl (argC (op2 gIx (vr 1) (cn (.int 0))) (argN))) (comp (itSeq (slc (vr 1) (soS (cn (.int 1))) (soN))) (gNm 2) (LB.tYes) (opN gStr (argC (vr 2) (argN))) [2]))) (ρ0 := [some (encP p), none, none]) (m := m) (n := (p.map Row.enc).length) (k := k) p Row.enc (fun r => .str (rowT r)) (List.length_map _) (Nat.le_trans h200 (by decide)) (fun i _ => rfl) (fun _ _ => rfl) hrow
  have hj : ∀ (k : D → Mem → Rs D) (m : Mem), K2 gJoin (.str (Str.ofString "\n")) (.lst (p.map fun r => .str (rowT r))) m k = k (.str (progT p)) m := fun k m => by
    have z := K2_join (a := Str.ofString "\n") (ys := p.map rowT) (b := 24) (fun y hy => by
      obtain ⟨r, hr, rfl⟩ := List.mem_map.mp hy
      exact rowT_len (hN r hr).nums) (by
      rw [y2, List.length_map]
      omega) m k
    rw [List.map_map] at z
    exact z
  have hsq : ∀ (k : Wk × Nat → Mem → Rs D) (m : Mem), kSeqI k (encP p) m = k (wkSeq (encP p), (p.map Row.enc).length) m := fun k m => rfl
  simp_arith [↓KF_ok (need_program_ok hp m), ↓hsq, ↓hcm, ↓hj]
end
end LB

set_option Elab.async false
set_option linter.all false
set_option autoImplicit false
set_option maxRecDepth 100000
set_option maxHeartbeats 2000000
/-! Pure: a text read. -/
namespace LB
open PySem L2 TL
noncomputable section
local macro_rules | `(tactic| simp_arith [$as,*]) => `(tactic| simp -implicitDefEqProofs (disch := first | assumption | decide | omega | (simp only [List.length_cons, List.length_nil, Mem.put_n, Mem.new_n, Mem.kill_n]; omega)) only [↓KO_some, ↓K_vr, ↓kVr_0, ↓kVr_s, ↓K_cn, ↓K_pure, ↓K_op2, ↓kOp2a_at, ↓kOp2b_at, ↓K_op1, ↓kOp1_at, ↓K_argN, ↓K_argC, ↓kArg1_at, ↓kArg2_at, ↓K_opN, ↓kOpN_at, ↓K_call, ↓kCall_1, ↓kCall_2, ↓kCall_3, ↓kCall_4, ↓kCall_5, ↓K_tpl, ↓K_lsl, ↓K_lsm, ↓K_dctE, ↓kTpl_0, ↓kTpl_1, ↓kTpl_2, ↓kTpl_3, ↓kTpl_4, ↓kTpl_5, ↓kLsl_0, ↓kLsl_1, ↓kLsl_2, ↓kLsl_3, ↓kLsl_4, ↓kLsm_0, ↓K_tV, ↓kTV_at, ↓K_tAnd, ↓kTAnd_t, ↓kTAnd_f, ↓K_tOr, ↓kTOr_t, ↓kTOr_f, ↓K_tNot, ↓kTNot_t, ↓kTNot_f, ↓kTNot_at, ↓K_tYes, ↓K_vAnd, ↓kVAnd_t, ↓kVAnd_f, ↓K_vOr, ↓kVOr_t, ↓kVOr_f, ↓K_vNot, ↓kVNot_at, ↓K_ifE, ↓kIfE_t, ↓kIfE_f, ↓K_chn, ↓kChn0_at, ↓kChn1_at, ↓kChn2_t, ↓kChn2_f, ↓K_soN, ↓K_soS, ↓kSoS_at, ↓K_slc, ↓kSlc0_at, ↓kSlc1_at, ↓kSlc2_at, ↓KSl_tup, ↓KSl_lst, ↓K_sNext, ↓K_sSeq, ↓kSeq_nx, ↓kSeq_rt, ↓K_sRet, ↓kRet_at, ↓K_sRetN, ↓K_sExp, ↓kExp_at, ↓K_sIf, ↓kIf_t, ↓kIf_f, ↓kSet_0, ↓kSet_s, ↓kUn_c, ↓kUn_n, ↓K_sAsg, ↓kAsg_nm, ↓kAsg_tp, ↓kNms_c, ↓kNmsC_at, ↓kNms_n, ↓K_sPar, ↓kPar1_at, ↓kPar2_at, ↓K_run, ↓kRun_rt, ↓kRun_nx, ↓K2_add_i, ↓K2_sub_i, ↓K2_mul_i, ↓K2_mod_i, ↓K2_fdiv_i, ↓K2_lt_i, ↓K2_le_i, ↓K2_gt_i, ↓K2_ge_i, ↓K2_eq_i, ↓K2_ne_i, ↓K2_eq_st, ↓K2_eq_sf, ↓K2_ne_st, ↓K2_ne_sf, ↓K2_eq_b, ↓K2_add_t, ↓K2_add_l, ↓K1_neg_i, ↓K2_isN_n, ↓K2_isN_i, ↓K2_isN_s, ↓K2_isN_t, ↓K2_isN_l, ↓K2_isN_c, ↓K2_notN_n, ↓K2_notN_i, ↓K2_notN_s, ↓K2_notN_t, ↓K2_notN_l, ↓K2_notN_c, ↓K2_ix_t, ↓K2_ix_l, ↓KIx_0, ↓KIx_1, ↓KIx_2, ↓KIx_3, ↓KIx_4, ↓KIx_m1a, ↓KIx_m1b, ↓KIx_m1c, ↓KIx_m1d, ↓KN_len_t, ↓KN_len_l, ↓KN_max2, ↓KN_min2, ↓KN_int_i, ↓KN_int_t, ↓KN_int_f, ↓KN_tuple_l, ↓KN_tuple_t, ↓KN_maxl, ↓KN_suml, ↓K1_isi_n, ↓K1_isi_b, ↓K1_isi_i, ↓K1_isi_s, ↓K1_isi_t, ↓K1_isi_l, ↓KG_put_eq, ↓KG_put_ne, ↓KG_new_eq, ↓KG_new_ne, ↓KG_kill_ne, ↓K2_ix_c, ↓kIxL_at, ↓KN_len_c, ↓kLenL_l, ↓kLenL_d, ↓KN_tuple_c, ↓kTupL_at, ↓KN_max_c, ↓kMaxL_at, ↓KSl_c, ↓kSlL_at, ↓K_appE, ↓kApp1_at, ↓kApp1b_at, ↓kApp2_at, ↓kApp3_at, ↓K_sLput, ↓kPut1_at, ↓kPut2_at, ↓kPut3_at, ↓kPut4_at, ↓K2_dget_i, ↓K2_dget_s, ↓kDgD_at, ↓KVk_eq, ↓KVk_ne, ↓KVd_eq, ↓KVd_ne, ↓KVd_n, ↓K_dget2, ↓kDg1_at, ↓kDg1b_at, ↓kDg2_at, ↓kDg3_at, ↓kDg4_i, ↓kDg4_s, ↓K_sDput, ↓kDp1_at, ↓kDp2_at, ↓kDp3_i, ↓kDp3_s, ↓kDp4_at, ↓K1_fld, ↓kFldO_at, ↓KFl_eq, ↓KFl_ne, ↓K_sFput, ↓kFp1_at, ↓kFp2_at, ↓kFp3_at, ↓kPf_n, ↓kPf_eq, ↓kPu_c, ↓kPu_n, ↓kPf_ne, ↓K_callM, ↓kMt1_at, ↓kMt2_at, ↓kNo_n, ↓kNo_c, ↓kMt3_0, ↓kMt3_1, ↓kMt3_2, ↓kMt3_3, ↓kMt3_4, ↓K_mkE, ↓kMk_1, ↓kMk_2, ↓kMk_3, ↓kMk2_at, ↓K_sFor, ↓kFor_at, ↓K_itRng1, ↓kRng1_nat, ↓K_itRng2, ↓kRng2_at, ↓K_itSeq, ↓kSeqI_t, ↓kSeqI_l, ↓kSeqI_c, ↓kSeqL_at, ↓K_bodyG_nm, ↓K_bodyG_tp, ↓K_sWhile, ↓kComp_at, ↓K_comp, ↓K_compM, ↓kLst_at, ↓kLstM_at, ↓kEx_at, ↓K_exG_nm, ↓K_exG_tp, ↓kAlc_at, ↓K_opNM, ↓kOpNM_at, ↓KN_list_l2, ↓KN_list_t2, ↓KN_list_c, ↓kListL_at, ↓K_op2M, ↓kOp2Ma_at, ↓kOp2Mb_at, ↓K2_rep1, ↓K_prE_n, ↓K_prE_c, ↓kPr1_at, ↓kPr2_at, ↓kPr3_at, ↓K_dspE, ↓kDsp_s1, ↓kDsp_s2, ↓kDsp_s3, ↓kDsp_s4, ↓K_frz, ↓kFrz_c, ↓kFrz_l, ↓kFrz_t, ↓kFrz_n, ↓kFrzL_at, ↓K_extE, ↓kExt1_at, ↓kExt1b_at, ↓kExt2_at, ↓kExt3_at, ↓K_mt0E, ↓kMt0_at, ↓kMt0L_clear, ↓kMt0L_rev, ↓K2_in_t, ↓K2_in_f, ↓K2_notIn_t, ↓K2_notIn_f, ↓K_itZp, ↓kZp1_at, ↓K_itEn, ↓kEnI_t, ↓kEnI_l, ↓K2_din_i, ↓kDinD_at, ↓KR_put_0, ↓KR_put_1, ↓KR_put_2, ↓KR_put_l, ↓KR_put_into, ↓KR_put_end, ↓KR_put_looked, ↓KR_put_cut, ↓KR_move_0, ↓KR_move_1, ↓KR_move_2, ↓KR_move_l, ↓KR_move_into, ↓KR_move_end, ↓KR_move_looked, ↓KR_move_cut, ↓KR_add_0, ↓KR_add_1, ↓KR_add_2, ↓KR_add_3, ↓KR_add_l, ↓KR_add_into, ↓KR_add_end, ↓KR_add_looked, ↓KR_add_cut, ↓KR_take_0, ↓KR_take_1, ↓KR_take_2, ↓KR_take_3, ↓KR_take_l, ↓KR_take_into, ↓KR_take_end, ↓KR_take_looked, ↓KR_take_cut, ↓KR_times_0, ↓KR_times_1, ↓KR_times_2, ↓KR_times_3, ↓KR_times_l, ↓KR_times_into, ↓KR_times_end, ↓KR_times_looked, ↓KR_times_cut, ↓KR_get_0, ↓KR_get_1, ↓KR_get_2, ↓KR_get_l, ↓KR_get_into, ↓KR_get_end, ↓KR_get_looked, ↓KR_get_cut, ↓KR_set_0, ↓KR_set_1, ↓KR_set_2, ↓KR_set_l, ↓KR_set_into, ↓KR_set_end, ↓KR_set_looked, ↓KR_set_cut, ↓KR_say_0, ↓KR_say_1, ↓KR_say_l, ↓KR_say_into, ↓KR_say_end, ↓KR_say_looked, ↓KR_say_cut, ↓KR_rest_0, ↓KR_rest_l, ↓KR_rest_into, ↓KR_rest_end, ↓KR_rest_looked, ↓KR_rest_cut, ↓KR_go_0, ↓KR_go_1, ↓KR_go_l, ↓KR_go_into, ↓KR_go_end, ↓KR_go_looked, ↓KR_go_cut, ↓KR_ifr_0, ↓KR_ifr_1, ↓KR_ifr_2, ↓KR_ifr_l, ↓KR_ifr_into, ↓KR_ifr_end, ↓KR_ifr_looked, ↓KR_ifr_cut, ↓KR_stop_0, ↓KR_stop_l, ↓KR_stop_into, ↓KR_stop_end, ↓KR_stop_looked, ↓KR_stop_cut, ↓KR_late, ↓KR_far, ↓KR_num, ↓KR_mill_0, ↓KR_mill_1, ↓KR_mill_2, ↓KR_mill_3, ↓KR_pi_len, ↓KA_stop, ↓KA_goes, ↓KA_ends, ↓K_mt1E, ↓kM1_l, ↓kM1_s, ↓kM1b_at, ↓K1_isi_c, ↓kIsiL_at, ↓KN_minl, start0, List.map_cons, List.map_nil, List.length_cons, List.length_nil, List.replicate_succ, List.replicate_zero, Nat.reduceSub, Nat.reduceAdd, wipeE, List.set_cons_zero, List.set_cons_succ, List.cons_append, List.nil_append, $as,*])
def f_read : SS := sSeq (sAsg (mt1E isStr gSplit (vr 0) (cn (.str (Str.ofString "\n")))) (gNm 1)) (sSeq (sAsg (lsm (argN)) (gNm 2)) (sSeq (sFor (itRng1 (argC (opN gLen (argC (vr 1) (argN))) (argN))) (gNm 3) (sSeq (sAsg (callN 2 m_row_of (argC (op2 gIx (vr 1) (vr 3)) (argC (opN gLen (argC (vr 1) (argN))) (argN)))) (gNm 4)) (sSeq (sIf (LB.tOr (tV (op2 gIsN (vr 4) (cn .non))) (tV (op2 gGe (vr 3) (cn (.int 200))))) (sRaiseF 11 (vr 3)) (sNext)) (sExp (appE (vr 2) (vr 4)))))) (sRet (opN gTuple (argC (vr 2) (argN))))))
def m_read : Fn := run 5 f_read
theorem le_read (ds : List D) (m : Mem) : LeR m (m_read ds m) (run 5 f_read ds m) := .same _
end
end LB

set_option Elab.async false
set_option linter.all false
set_option autoImplicit false
set_option maxRecDepth 100000
set_option maxHeartbeats 2000000
/-! Plain: texts joined one by one. -/
namespace LB
open PySem L2 TL
noncomputable section
local macro_rules | `(tactic| simp_arith [$as,*]) => `(tactic| simp -implicitDefEqProofs (disch := first | assumption | decide | omega | (simp only [List.length_cons, List.length_nil, Mem.put_n, Mem.new_n, Mem.kill_n]; omega)) only [↓KO_some, ↓K_vr, ↓kVr_0, ↓kVr_s, ↓K_cn, ↓K_pure, ↓K_op2, ↓kOp2a_at, ↓kOp2b_at, ↓K_op1, ↓kOp1_at, ↓K_argN, ↓K_argC, ↓kArg1_at, ↓kArg2_at, ↓K_opN, ↓kOpN_at, ↓K_call, ↓kCall_1, ↓kCall_2, ↓kCall_3, ↓kCall_4, ↓kCall_5, ↓K_tpl, ↓K_lsl, ↓K_lsm, ↓K_dctE, ↓kTpl_0, ↓kTpl_1, ↓kTpl_2, ↓kTpl_3, ↓kTpl_4, ↓kTpl_5, ↓kLsl_0, ↓kLsl_1, ↓kLsl_2, ↓kLsl_3, ↓kLsl_4, ↓kLsm_0, ↓K_tV, ↓kTV_at, ↓K_tAnd, ↓kTAnd_t, ↓kTAnd_f, ↓K_tOr, ↓kTOr_t, ↓kTOr_f, ↓K_tNot, ↓kTNot_t, ↓kTNot_f, ↓kTNot_at, ↓K_tYes, ↓K_vAnd, ↓kVAnd_t, ↓kVAnd_f, ↓K_vOr, ↓kVOr_t, ↓kVOr_f, ↓K_vNot, ↓kVNot_at, ↓K_ifE, ↓kIfE_t, ↓kIfE_f, ↓K_chn, ↓kChn0_at, ↓kChn1_at, ↓kChn2_t, ↓kChn2_f, ↓K_soN, ↓K_soS, ↓kSoS_at, ↓K_slc, ↓kSlc0_at, ↓kSlc1_at, ↓kSlc2_at, ↓KSl_tup, ↓KSl_lst, ↓K_sNext, ↓K_sSeq, ↓kSeq_nx, ↓kSeq_rt, ↓K_sRet, ↓kRet_at, ↓K_sRetN, ↓K_sExp, ↓kExp_at, ↓K_sIf, ↓kIf_t, ↓kIf_f, ↓kSet_0, ↓kSet_s, ↓kUn_c, ↓kUn_n, ↓K_sAsg, ↓kAsg_nm, ↓kAsg_tp, ↓kNms_c, ↓kNmsC_at, ↓kNms_n, ↓K_sPar, ↓kPar1_at, ↓kPar2_at, ↓K_run, ↓kRun_rt, ↓kRun_nx, ↓K2_add_i, ↓K2_sub_i, ↓K2_mul_i, ↓K2_mod_i, ↓K2_fdiv_i, ↓K2_lt_i, ↓K2_le_i, ↓K2_gt_i, ↓K2_ge_i, ↓K2_eq_i, ↓K2_ne_i, ↓K2_eq_st, ↓K2_eq_sf, ↓K2_ne_st, ↓K2_ne_sf, ↓K2_eq_b, ↓K2_add_t, ↓K2_add_l, ↓K1_neg_i, ↓K2_isN_n, ↓K2_isN_i, ↓K2_isN_s, ↓K2_isN_t, ↓K2_isN_l, ↓K2_isN_c, ↓K2_notN_n, ↓K2_notN_i, ↓K2_notN_s, ↓K2_notN_t, ↓K2_notN_l, ↓K2_notN_c, ↓K2_ix_t, ↓K2_ix_l, ↓KIx_0, ↓KIx_1, ↓KIx_2, ↓KIx_3, ↓KIx_4, ↓KIx_m1a, ↓KIx_m1b, ↓KIx_m1c, ↓KIx_m1d, ↓KN_len_t, ↓KN_len_l, ↓KN_max2, ↓KN_min2, ↓KN_int_i, ↓KN_int_t, ↓KN_int_f, ↓KN_tuple_l, ↓KN_tuple_t, ↓KN_maxl, ↓KN_suml, ↓K1_isi_n, ↓K1_isi_b, ↓K1_isi_i, ↓K1_isi_s, ↓K1_isi_t, ↓K1_isi_l, ↓KG_put_eq, ↓KG_put_ne, ↓KG_new_eq, ↓KG_new_ne, ↓KG_kill_ne, ↓K2_ix_c, ↓kIxL_at, ↓KN_len_c, ↓kLenL_l, ↓kLenL_d, ↓KN_tuple_c, ↓kTupL_at, ↓KN_max_c, ↓kMaxL_at, ↓KSl_c, ↓kSlL_at, ↓K_appE, ↓kApp1_at, ↓kApp1b_at, ↓kApp2_at, ↓kApp3_at, ↓K_sLput, ↓kPut1_at, ↓kPut2_at, ↓kPut3_at, ↓kPut4_at, ↓K2_dget_i, ↓K2_dget_s, ↓kDgD_at, ↓KVk_eq, ↓KVk_ne, ↓KVd_eq, ↓KVd_ne, ↓KVd_n, ↓K_dget2, ↓kDg1_at, ↓kDg1b_at, ↓kDg2_at, ↓kDg3_at, ↓kDg4_i, ↓kDg4_s, ↓K_sDput, ↓kDp1_at, ↓kDp2_at, ↓kDp3_i, ↓kDp3_s, ↓kDp4_at, ↓K1_fld, ↓kFldO_at, ↓KFl_eq, ↓KFl_ne, ↓K_sFput, ↓kFp1_at, ↓kFp2_at, ↓kFp3_at, ↓kPf_n, ↓kPf_eq, ↓kPu_c, ↓kPu_n, ↓kPf_ne, ↓K_callM, ↓kMt1_at, ↓kMt2_at, ↓kNo_n, ↓kNo_c, ↓kMt3_0, ↓kMt3_1, ↓kMt3_2, ↓kMt3_3, ↓kMt3_4, ↓K_mkE, ↓kMk_1, ↓kMk_2, ↓kMk_3, ↓kMk2_at, ↓K_sFor, ↓kFor_at, ↓K_itRng1, ↓kRng1_nat, ↓K_itRng2, ↓kRng2_at, ↓K_itSeq, ↓kSeqI_t, ↓kSeqI_l, ↓kSeqI_c, ↓kSeqL_at, ↓K_bodyG_nm, ↓K_bodyG_tp, ↓K_sWhile, ↓kComp_at, ↓K_comp, ↓K_compM, ↓kLst_at, ↓kLstM_at, ↓kEx_at, ↓K_exG_nm, ↓K_exG_tp, ↓kAlc_at, ↓K_opNM, ↓kOpNM_at, ↓KN_list_l2, ↓KN_list_t2, ↓KN_list_c, ↓kListL_at, ↓K_op2M, ↓kOp2Ma_at, ↓kOp2Mb_at, ↓K2_rep1, ↓K_prE_n, ↓K_prE_c, ↓kPr1_at, ↓kPr2_at, ↓kPr3_at, ↓K_dspE, ↓kDsp_s1, ↓kDsp_s2, ↓kDsp_s3, ↓kDsp_s4, ↓K_frz, ↓kFrz_c, ↓kFrz_l, ↓kFrz_t, ↓kFrz_n, ↓kFrzL_at, ↓K_extE, ↓kExt1_at, ↓kExt1b_at, ↓kExt2_at, ↓kExt3_at, ↓K_mt0E, ↓kMt0_at, ↓kMt0L_clear, ↓kMt0L_rev, ↓K2_in_t, ↓K2_in_f, ↓K2_notIn_t, ↓K2_notIn_f, ↓K_itZp, ↓kZp1_at, ↓K_itEn, ↓kEnI_t, ↓kEnI_l, ↓K2_din_i, ↓kDinD_at, ↓KR_put_0, ↓KR_put_1, ↓KR_put_2, ↓KR_put_l, ↓KR_put_into, ↓KR_put_end, ↓KR_put_looked, ↓KR_put_cut, ↓KR_move_0, ↓KR_move_1, ↓KR_move_2, ↓KR_move_l, ↓KR_move_into, ↓KR_move_end, ↓KR_move_looked, ↓KR_move_cut, ↓KR_add_0, ↓KR_add_1, ↓KR_add_2, ↓KR_add_3, ↓KR_add_l, ↓KR_add_into, ↓KR_add_end, ↓KR_add_looked, ↓KR_add_cut, ↓KR_take_0, ↓KR_take_1, ↓KR_take_2, ↓KR_take_3, ↓KR_take_l, ↓KR_take_into, ↓KR_take_end, ↓KR_take_looked, ↓KR_take_cut, ↓KR_times_0, ↓KR_times_1, ↓KR_times_2, ↓KR_times_3, ↓KR_times_l, ↓KR_times_into, ↓KR_times_end, ↓KR_times_looked, ↓KR_times_cut, ↓KR_get_0, ↓KR_get_1, ↓KR_get_2, ↓KR_get_l, ↓KR_get_into, ↓KR_get_end, ↓KR_get_looked, ↓KR_get_cut, ↓KR_set_0, ↓KR_set_1, ↓KR_set_2, ↓KR_set_l, ↓KR_set_into, ↓KR_set_end, ↓KR_set_looked, ↓KR_set_cut, ↓KR_say_0, ↓KR_say_1, ↓KR_say_l, ↓KR_say_into, ↓KR_say_end, ↓KR_say_looked, ↓KR_say_cut, ↓KR_rest_0, ↓KR_rest_l, ↓KR_rest_into, ↓KR_rest_end, ↓KR_rest_looked, ↓KR_rest_cut, ↓KR_go_0, ↓KR_go_1, ↓KR_go_l, ↓KR_go_into, ↓KR_go_end, ↓KR_go_looked, ↓KR_go_cut, ↓KR_ifr_0, ↓KR_ifr_1, ↓KR_ifr_2, ↓KR_ifr_l, ↓KR_ifr_into, ↓KR_ifr_end, ↓KR_ifr_looked, ↓KR_ifr_cut, ↓KR_stop_0, ↓KR_stop_l, ↓KR_stop_into, ↓KR_stop_end, ↓KR_stop_looked, ↓KR_stop_cut, ↓KR_late, ↓KR_far, ↓KR_num, ↓KR_mill_0, ↓KR_mill_1, ↓KR_mill_2, ↓KR_mill_3, ↓KR_pi_len, ↓KA_stop, ↓KA_goes, ↓KA_ends, ↓K_mt1E, ↓kM1_l, ↓kM1_s, ↓kM1b_at, ↓K1_isi_c, ↓kIsiL_at, ↓KN_minl, start0, List.map_cons, List.map_nil, List.length_cons, List.length_nil, List.replicate_succ, List.replicate_zero, Nat.reduceSub, Nat.reduceAdd, wipeE, List.set_cons_zero, List.set_cons_succ, List.cons_append, List.nil_append, $as,*])
theorem K2_add_s {β : Type} (x y : Str) (m : Mem) (k : D → Mem → Rs β) (h : x.length + y.length ≤ sizeLine) : K2 gAdd (.str x) (.str y) m k = k (.str (x ++ y)) m := KO_of (if_pos h) m k
end
end LB

set_option Elab.async false
set_option linter.all false
set_option autoImplicit false
set_option maxRecDepth 100000
set_option maxHeartbeats 2000000
/-! The executor: dicts keyed by tuples, backwards, is of truth values. -/
namespace LB
open PySem
variable {α β γ : Type}
theorem K2_isB (a b : Bool) (m : Mem) (k : D → Mem → Rs β) : K2 gIsB (.bl a) (.bl b) m k = k (.bl (decide (a = b))) m := rfl
theorem K2_notB (a b : Bool) (m : Mem) (k : D → Mem → Rs β) : K2 gNotB (.bl a) (.bl b) m k = k (.bl (!decide (a = b))) m := rfl
theorem K1_rev_t (xs : List D) (m : Mem) (k : D → Mem → Rs β) : K1 gRev (.tup xs) m k = k (.tup xs.reverse) m := rfl
theorem K1_rev_l (xs : List D) (m : Mem) (k : D → Mem → Rs β) : K1 gRev (.lst xs) m k = k (.lst xs.reverse) m := rfl
theorem dcn_KG {α : Type} (c : Nat) (m : Mem) (f : List (NestedKey × D) → Option α) (k : α → Mem → Rs β) : KO ((dcnOf m (.loc c)).bind f) m k = KG c m m (fun o m => match o with
  | .dcn xs => KO (f xs) m k
  | _ => .bad) := by
  unfold KG
  show KO ((if c < m.n then (match m.get c with
    | some (.dcn xs) => some xs
    | _ => none) else none).bind f) m k = _
  by_cases h : c < m.n
  · rw [if_pos h, if_pos h]
    cases hg : m.get c with
    | none => rfl
    | some o => cases o <;> rfl
  · rw [if_neg h, if_neg h]
    rfl
/-- in, not in -/
def kNinD (x : D) (k : D → Mem → Rs β) : MO → Mem → Rs β := fun o m => match o with
  | .dcn kvs => KO ((tkOf x).map fun ky => .bl (valN kvs ky).isSome) m k
  | _ => .bad
def kNnotD (x : D) (k : D → Mem → Rs β) : MO → Mem → Rs β := fun o m => match o with
  | .dcn kvs => KO ((tkOf x).map fun ky => .bl (!(valN kvs ky).isSome)) m k
  | _ => .bad
theorem K2_nin (c : Nat) (x : D) (m : Mem) (k : D → Mem → Rs β) : K2 gNin x (.loc c) m k = KG c m m (kNinD x k) := dcn_KG c m (fun kvs => (tkOf x).map fun ky => D.bl (valN kvs ky).isSome) k
theorem K2_nnotin (c : Nat) (x : D) (m : Mem) (k : D → Mem → Rs β) : K2 gNnotin x (.loc c) m k = KG c m m (kNnotD x k) := dcn_KG c m (fun kvs => (tkOf x).map fun ky => D.bl (!(valN kvs ky).isSome)) k
theorem kNinD_of {x : D} {ky : NestedKey} (h : tkOf x = some ky) (k : D → Mem → Rs β) (kvs : List (NestedKey × D)) (m : Mem) : kNinD x k (.dcn kvs) m = k (.bl (valN kvs ky).isSome) m := by
  show KO ((tkOf x).map fun ky => D.bl (valN kvs ky).isSome) m k = _
  rw [h]
  rfl
theorem kNnotD_of {x : D} {ky : NestedKey} (h : tkOf x = some ky) (k : D → Mem → Rs β) (kvs : List (NestedKey × D)) (m : Mem) : kNnotD x k (.dcn kvs) m = k (.bl (!(valN kvs ky).isSome)) m := by
  show KO ((tkOf x).map fun ky => D.bl (!(valN kvs ky).isSome)) m k = _
  rw [h]
  rfl
/-- two numbers as a key -/
def pk (a b : Int) : NestedKey := .tup [.num a, .num b]
theorem tk_pk (a b : Int) : tkOf (.tup [.int a, .int b]) = some (pk a b) := rfl
theorem kNinD_pk (a b : Int) (k : D → Mem → Rs β) (kvs : List (NestedKey × D)) (m : Mem) : kNinD (.tup [.int a, .int b]) k (.dcn kvs) m = k (.bl (valN kvs (pk a b)).isSome) m := kNinD_of (tk_pk a b) k kvs m
theorem kNnotD_pk (a b : Int) (k : D → Mem → Rs β) (kvs : List (NestedKey × D)) (m : Mem) : kNnotD (.tup [.int a, .int b]) k (.dcn kvs) m = k (.bl (!(valN kvs (pk a b)).isSome)) m := kNnotD_of (tk_pk a b) k kvs m
/-! d.get(k, x) -/
def kNg4 (x : D) (key : D) (k : D → Mem → Rs β) : MO → Mem → Rs β := fun o m => match o with
  | .dcn kvs => KO ((tkOf key).map fun q => (valN kvs q).getD x) m k
  | _ => .bad
def kNg3 (c : Nat) (key : D) (k : D → Mem → Rs β) : D → Mem → Rs β := fun x m => KG c m m (kNg4 x key k)
def kNg2 (c : Nat) (x : SE) (ρ : Ev) (k : D → Mem → Rs β) : D → Mem → Rs β := fun key m => K (x ρ) m (kNg3 c key k)
def kNg1b (c : Nat) (i x : SE) (ρ : Ev) (k : D → Mem → Rs β) : MO → Mem → Rs β := fun o m => match o with
  | .dcn _ => K (i ρ) m (kNg2 c x ρ k)
  | _ => .bad
def kNg1 (i x : SE) (ρ : Ev) (k : D → Mem → Rs β) : D → Mem → Rs β := fun d m => match d with
  | .loc c => KG c m m (kNg1b c i x ρ k)
  | _ => .bad
theorem K_nget2 (d i x : SE) (ρ : Ev) (m : Mem) (k : D → Mem → Rs β) : K (nget2 d i x ρ) m k = K (d ρ) m (kNg1 i x ρ k) := by
  unfold nget2
  rw [K_bind]
  congr 1
  funext y m1
  rw [K_bind]
  cases y with
  | loc c =>
    have h1 : ∀ kk : Unit → Mem → Rs β, K (fun m => if isDcn m (.loc c) = true then Rs.ok () m else .bad) m1 kk = KO ((dcnOf m1 (.loc c)).bind fun _ => some ()) m1 kk := by
      intro kk
      cases hl : dcnOf m1 (.loc c) with
      | none => exact K_bad (by unfold isDcn; simp only [hl]; rfl) _
      | some xs => exact K_ok (x := ()) (m1 := m1) (by unfold isDcn; simp only [hl]; rfl) _
    rw [h1, dcn_KG]
    refine KG_congr fun o => ?_
    cases o with
    | lst _ => rfl
    | obj _ _ => rfl
    | dct _ => rfl
    | dcn xs =>
      show K (M.bind (i ρ) fun kk => M.bind (x ρ) fun xx => fun m => lift ((dcnOf m (.loc c)).bind fun kvs => (tkOf kk).map fun k => (valN kvs k).getD xx) m) m1 k = K (i ρ) m1 (kNg2 c x ρ k)
      rw [K_bind]
      congr 1
      funext a m2
      rw [K_bind]
      unfold kNg2
      congr 1
      funext b m3
      show K (lift ((dcnOf m3 (.loc c)).bind fun kvs => (tkOf a).map fun k => (valN kvs k).getD b)) m3 k = _
      rw [K_lift, dcn_KG]
      rfl
  | _ => rfl
theorem kNg1_at (i x : SE) (ρ : Ev) (k : D → Mem → Rs β) (c : Nat) (m : Mem) : kNg1 i x ρ k (.loc c) m = KG c m m (kNg1b c i x ρ k) := rfl
theorem kNg1b_at (c : Nat) (i x : SE) (ρ : Ev) (k : D → Mem → Rs β) (kvs : List (NestedKey × D)) (m : Mem) : kNg1b c i x ρ k (.dcn kvs) m = K (i ρ) m (kNg2 c x ρ k) := rfl
theorem kNg2_at (c : Nat) (x : SE) (ρ : Ev) (k : D → Mem → Rs β) (key : D) (m : Mem) : kNg2 c x ρ k key m = K (x ρ) m (kNg3 c key k) := rfl
theorem kNg3_at (c : Nat) (key : D) (k : D → Mem → Rs β) (x : D) (m : Mem) : kNg3 c key k x m = KG c m m (kNg4 x key k) := rfl
theorem kNg4_of {key : D} {ky : NestedKey} (h : tkOf key = some ky) (x : D) (k : D → Mem → Rs β) (kvs : List (NestedKey × D)) (m : Mem) : kNg4 x key k (.dcn kvs) m = k ((valN kvs ky).getD x) m := by
  show KO ((tkOf key).map fun q => (valN kvs q).getD x) m k = _
  rw [h]
  rfl
theorem kNg4_pk (x : D) (a b : Int) (k : D → Mem → Rs β) (kvs : List (NestedKey × D)) (m : Mem) : kNg4 x (.tup [.int a, .int b]) k (.dcn kvs) m = k ((valN kvs (pk a b)).getD x) m := kNg4_of (tk_pk a b) x k kvs m
/-! dict(pairs) -/
def kNdc (k : D → Mem → Rs β) : D → Mem → Rs β := fun d m => KO ((lstOf m d).bind prsOf) m fun kvs m => k (.loc m.n) (m.new (.dcn (mergeN [] kvs)))
theorem K_ndctE (a : SE) (ρ : Ev) (m : Mem) (k : D → Mem → Rs β) : K (ndctE a ρ) m k = K (a ρ) m (kNdc k) := by
  unfold ndctE
  rw [K_bind]
  congr 1
  funext d m1
  show K (ndctK d) m1 k = _
  unfold kNdc
  cases h : (lstOf m1 d).bind prsOf with
  | none => exact K_bad (by unfold ndctK; rw [h]) _
  | some kvs => exact K_ok (x := D.loc m1.n) (m1 := m1.new (.dcn (mergeN [] kvs))) (by unfold ndctK; rw [h]; rfl) _
/-! d[k] = v -/
def kNp4 (c : Nat) (key : NestedKey) (v : D) (ρ : Ev) (k : KS β) : MO → Mem → Rs β := fun o m => match o with
  | .dcn kvs => if kvs.length < sizeLine then k (.nx, ρ) (m.put c (.dcn (putN kvs key v))) else .bad
  | _ => .bad
def kNp3 (v d : D) (ρ : Ev) (k : KS β) : D → Mem → Rs β := fun kd m => match d, tkOf kd with
  | .loc c, some key => KG c m m (kNp4 c key v ρ k)
  | _, _ => .bad
def kNp2 (i : SE) (v : D) (ρ : Ev) (k : KS β) : D → Mem → Rs β := fun d m => K (i ρ) m (kNp3 v d ρ k)
def kNp1 (d i : SE) (ρ : Ev) (k : KS β) : D → Mem → Rs β := fun v m => K (d ρ) m (kNp2 i v ρ k)
theorem K_sNput (d i v : SE) (ρ : Ev) (m : Mem) (k : KS β) : K (sNput d i v ρ) m k = K (v ρ) m (kNp1 d i ρ k) := by
  unfold sNput
  rw [K_bind]
  congr 1
  funext x m1
  rw [K_bind]
  unfold kNp1
  congr 1
  funext y m2
  rw [K_bind]
  unfold kNp2
  congr 1
  funext z m3
  unfold kNp3
  cases y with
  | loc c =>
    cases hk : tkOf z with
    | none => rfl
    | some key =>
      unfold KG K
      dsimp only
      by_cases h : c < m3.n
      · simp only [h, if_true]
        cases hg : m3.get c with
        | none => rfl
        | some o =>
          cases o with
          | lst _ => rfl
          | obj _ _ => rfl
          | dct _ => rfl
          | dcn kvs =>
            rw [KO_some]
            unfold kNp4
            by_cases hl : kvs.length < sizeLine
            · simp only [hl, if_true]
            · simp only [hl, if_false]
      · simp only [h, if_false]
  | _ => rfl
theorem kNp1_at (d i : SE) (ρ : Ev) (k : KS β) (v : D) (m : Mem) : kNp1 d i ρ k v m = K (d ρ) m (kNp2 i v ρ k) := rfl
theorem kNp2_at (i : SE) (v : D) (ρ : Ev) (k : KS β) (d : D) (m : Mem) : kNp2 i v ρ k d m = K (i ρ) m (kNp3 v d ρ k) := rfl
theorem kNp4_at (c : Nat) (key : NestedKey) (v : D) (ρ : Ev) (k : KS β) (kvs : List (NestedKey × D)) (m : Mem) (h : kvs.length < sizeLine) : kNp4 c key v ρ k (.dcn kvs) m = k (.nx, ρ) (m.put c (.dcn (putN kvs key v))) := if_pos h
/-! a display of one pair, len -/
def kNd2 (kd : D) (k : D → Mem → Rs β) : D → Mem → Rs β := fun vd m => KO (tkOf kd) m fun key m => k (.loc m.n) (m.new (.dcn [(key, vd)]))
def kNd1 (v : SE) (ρ : Ev) (k : D → Mem → Rs β) : D → Mem → Rs β := fun kd m => K (v ρ) m (kNd2 kd k)
theorem K_ndsp1 (i v : SE) (ρ : Ev) (m : Mem) (k : D → Mem → Rs β) : K (ndsp1 i v ρ) m k = K (i ρ) m (kNd1 v ρ k) := by
  unfold ndsp1
  rw [K_bind]
  congr 1
  funext x m1
  rw [K_bind]
  unfold kNd1
  congr 1
  funext y m2
  unfold kNd2
  cases h : tkOf x with
  | none => exact K_bad (by unfold nk1; rw [h]) _
  | some key => exact K_ok (x := D.loc m2.n) (m1 := m2.new (.dcn [(key, y)])) (by unfold nk1; rw [h]; rfl) _
theorem kNd1_at (v : SE) (ρ : Ev) (k : D → Mem → Rs β) (kd : D) (m : Mem) : kNd1 v ρ k kd m = K (v ρ) m (kNd2 kd k) := rfl
def kNlenL (k : D → Mem → Rs β) : MO → Mem → Rs β := fun o m => match o with
  | .dcn xs => k (.int xs.length) m
  | _ => .bad
theorem KN_nlen_c (c : Nat) (m : Mem) (k : D → Mem → Rs β) : KN gNlenN [.loc c] m k = KG c m m (kNlenL k) := by
  have h := dcn_KG c m (fun kvs => some (D.int kvs.length)) k
  have e : KN gNlenN [.loc c] m k = KO ((dcnOf m (.loc c)).bind fun kvs => some (D.int kvs.length)) m k := by
    show KO ((dcnOf m (.loc c)).map fun kvs => D.int kvs.length) m k = _
    congr 1
    cases dcnOf m (.loc c) <;> rfl
  rw [e, h]
  refine KG_congr fun o => ?_
  cases o <;> rfl
theorem kNlenL_at (k : D → Mem → Rs β) (xs : List (NestedKey × D)) (m : Mem) : kNlenL k (.dcn xs) m = k (.int xs.length) m := rfl
end LB

set_option Elab.async false
set_option linter.all false
set_option autoImplicit false
set_option maxRecDepth 100000
set_option maxHeartbeats 2000000
/-! The executor for d.update(pairs), list(d), {} over tuple keys. -/
namespace LB
open PySem
variable {β : Type}
end LB

set_option Elab.async false
set_option linter.all false
set_option autoImplicit false
set_option maxRecDepth 100000
set_option maxHeartbeats 2000000
/-! The word of a refusal, as the law's own text finds it; runs that refuse. -/
namespace LB
open PySem
noncomputable section
def f_l_kindS (a : Nat) (er : Er) : SS := sSeq (sAsg (lsl (argC (isX 1 a (decide (er.cls = 5))) (argC (isX 1 a (decide (er.cls = 6))) (argC (isX 1 a (decide (er.cls = 7))) (argC (isX 1 a (decide (er.cls = 8))) (argN)))))) (gNm 2)) (sSeq (sAsg (op2 gAdd (vr 2) (lsl (argC (isX 1 a (decide (er.cls = 9))) (argC (isX 1 a (decide (er.cls = 10))) (argC (isX 1 a (decide (er.cls = 11))) (argN)))))) (gNm 2)) (sSeq (sIf (LB.tOr (tV (op2 gNe (mt1E isLst gCount (vr 2) (cn (.bl true))) (cn (.int 1)))) (LB.tNot (tV (isX 1 a true)))) (sRet (cn (.str (Str.ofString "other")))) (sNext)) (sSeq (sIf (tV (op2 gIx (vr 2) (cn (.int 0)))) (sRet (tpl (argC (cn (.str (Str.ofString "BadProgram"))) (argC (fldX 1 a (if er.cls = 5 then erI er else none)) (argN))))) (sNext)) (sSeq (sAsg (lsl (argC (cn (.str (Str.ofString ""))) (argC (cn (.str (Str.ofString "BadMill"))) (argC (cn (.str (Str.ofString "BadCells"))) (argC (cn (.str (Str.ofString "BadFuel"))) (argC (cn (.str (Str.ofString "BadPiece"))) (argC (cn (.str (Str.ofString "TooMany"))) (argN)))))))) (gNm 3)) (sRet (ifE (tV (op2 gIx (vr 2) (cn (.int 6)))) (tpl (argC (cn (.str (Str.ofString "BadText"))) (argC (fldX 1 a (if er.cls = 11 then erI er else none)) (argN)))) (op2 gIx (vr 3) (mt1E isLst gIndex (vr 2) (cn (.bl true))))))))))
local macro_rules | `(tactic| simp_arith [$as,*]) => `(tactic| simp -implicitDefEqProofs (disch := first | assumption | decide | omega | (simp only [List.length_cons, List.length_nil, Mem.put_n, Mem.new_n, Mem.kill_n]; omega)) only [↓KO_some, ↓K_vr, ↓kVr_0, ↓kVr_s, ↓K_cn, ↓K_pure, ↓K_op2, ↓kOp2a_at, ↓kOp2b_at, ↓K_op1, ↓kOp1_at, ↓K_argN, ↓K_argC, ↓kArg1_at, ↓kArg2_at, ↓K_opN, ↓kOpN_at, ↓K_call, ↓kCall_1, ↓kCall_2, ↓kCall_3, ↓kCall_4, ↓kCall_5, ↓K_tpl, ↓K_lsl, ↓K_lsm, ↓K_dctE, ↓kTpl_0, ↓kTpl_1, ↓kTpl_2, ↓kTpl_3, ↓kTpl_4, ↓kTpl_5, ↓kLsl_0, ↓kLsl_1, ↓kLsl_2, ↓kLsl_3, ↓kLsl_4, ↓kLsm_0, ↓K_tV, ↓kTV_at, ↓K_tAnd, ↓kTAnd_t, ↓kTAnd_f, ↓K_tOr, ↓kTOr_t, ↓kTOr_f, ↓K_tNot, ↓kTNot_t, ↓kTNot_f, ↓kTNot_at, ↓K_tYes, ↓K_vAnd, ↓kVAnd_t, ↓kVAnd_f, ↓K_vOr, ↓kVOr_t, ↓kVOr_f, ↓K_vNot, ↓kVNot_at, ↓K_ifE, ↓kIfE_t, ↓kIfE_f, ↓K_chn, ↓kChn0_at, ↓kChn1_at, ↓kChn2_t, ↓kChn2_f, ↓K_soN, ↓K_soS, ↓kSoS_at, ↓K_slc, ↓kSlc0_at, ↓kSlc1_at, ↓kSlc2_at, ↓KSl_tup, ↓KSl_lst, ↓K_sNext, ↓K_sSeq, ↓kSeq_nx, ↓kSeq_rt, ↓K_sRet, ↓kRet_at, ↓K_sRetN, ↓K_sExp, ↓kExp_at, ↓K_sIf, ↓kIf_t, ↓kIf_f, ↓kSet_0, ↓kSet_s, ↓kUn_c, ↓kUn_n, ↓K_sAsg, ↓kAsg_nm, ↓kAsg_tp, ↓kNms_c, ↓kNmsC_at, ↓kNms_n, ↓K_sPar, ↓kPar1_at, ↓kPar2_at, ↓K_run, ↓kRun_rt, ↓kRun_nx, ↓K2_add_i, ↓K2_sub_i, ↓K2_mul_i, ↓K2_mod_i, ↓K2_fdiv_i, ↓K2_lt_i, ↓K2_le_i, ↓K2_gt_i, ↓K2_ge_i, ↓K2_eq_i, ↓K2_ne_i, ↓K2_eq_st, ↓K2_eq_sf, ↓K2_ne_st, ↓K2_ne_sf, ↓K2_eq_b, ↓K2_add_t, ↓K2_add_l, ↓K1_neg_i, ↓K2_isN_n, ↓K2_isN_i, ↓K2_isN_s, ↓K2_isN_t, ↓K2_isN_l, ↓K2_isN_c, ↓K2_notN_n, ↓K2_notN_i, ↓K2_notN_s, ↓K2_notN_t, ↓K2_notN_l, ↓K2_notN_c, ↓K2_ix_t, ↓K2_ix_l, ↓KIx_0, ↓KIx_1, ↓KIx_2, ↓KIx_3, ↓KIx_4, ↓KIx_m1a, ↓KIx_m1b, ↓KIx_m1c, ↓KIx_m1d, ↓KN_len_t, ↓KN_len_l, ↓KN_max2, ↓KN_min2, ↓KN_int_i, ↓KN_int_t, ↓KN_int_f, ↓KN_tuple_l, ↓KN_tuple_t, ↓KN_maxl, ↓KN_suml, ↓K1_isi_n, ↓K1_isi_b, ↓K1_isi_i, ↓K1_isi_s, ↓K1_isi_t, ↓K1_isi_l, ↓KG_put_eq, ↓KG_put_ne, ↓KG_new_eq, ↓KG_new_ne, ↓KG_kill_ne, ↓K2_ix_c, ↓kIxL_at, ↓KN_len_c, ↓kLenL_l, ↓kLenL_d, ↓KN_tuple_c, ↓kTupL_at, ↓KN_max_c, ↓kMaxL_at, ↓KSl_c, ↓kSlL_at, ↓K_appE, ↓kApp1_at, ↓kApp1b_at, ↓kApp2_at, ↓kApp3_at, ↓K_sLput, ↓kPut1_at, ↓kPut2_at, ↓kPut3_at, ↓kPut4_at, ↓K2_dget_i, ↓K2_dget_s, ↓kDgD_at, ↓KVk_eq, ↓KVk_ne, ↓KVd_eq, ↓KVd_ne, ↓KVd_n, ↓K_dget2, ↓kDg1_at, ↓kDg1b_at, ↓kDg2_at, ↓kDg3_at, ↓kDg4_i, ↓kDg4_s, ↓K_sDput, ↓kDp1_at, ↓kDp2_at, ↓kDp3_i, ↓kDp3_s, ↓kDp4_at, ↓K1_fld, ↓kFldO_at, ↓KFl_eq, ↓KFl_ne, ↓K_sFput, ↓kFp1_at, ↓kFp2_at, ↓kFp3_at, ↓kPf_n, ↓kPf_eq, ↓kPu_c, ↓kPu_n, ↓kPf_ne, ↓K_callM, ↓kMt1_at, ↓kMt2_at, ↓kNo_n, ↓kNo_c, ↓kMt3_0, ↓kMt3_1, ↓kMt3_2, ↓kMt3_3, ↓kMt3_4, ↓K_mkE, ↓kMk_1, ↓kMk_2, ↓kMk_3, ↓kMk2_at, ↓K_sFor, ↓kFor_at, ↓K_itRng1, ↓kRng1_nat, ↓K_itRng2, ↓kRng2_at, ↓K_itSeq, ↓kSeqI_t, ↓kSeqI_l, ↓kSeqI_c, ↓kSeqL_at, ↓K_bodyG_nm, ↓K_bodyG_tp, ↓K_sWhile, ↓kComp_at, ↓K_comp, ↓K_compM, ↓kLst_at, ↓kLstM_at, ↓kEx_at, ↓K_exG_nm, ↓K_exG_tp, ↓kAlc_at, ↓K_opNM, ↓kOpNM_at, ↓KN_list_l2, ↓KN_list_t2, ↓KN_list_c, ↓kListL_at, ↓K_op2M, ↓kOp2Ma_at, ↓kOp2Mb_at, ↓K2_rep1, ↓K_prE_n, ↓K_prE_c, ↓kPr1_at, ↓kPr2_at, ↓kPr3_at, ↓K_dspE, ↓kDsp_s1, ↓kDsp_s2, ↓kDsp_s3, ↓kDsp_s4, ↓K_frz, ↓kFrz_c, ↓kFrz_l, ↓kFrz_t, ↓kFrz_n, ↓kFrzL_at, ↓K_extE, ↓kExt1_at, ↓kExt1b_at, ↓kExt2_at, ↓kExt3_at, ↓K_mt0E, ↓kMt0_at, ↓kMt0L_clear, ↓kMt0L_rev, ↓K2_in_t, ↓K2_in_f, ↓K2_notIn_t, ↓K2_notIn_f, ↓K_itZp, ↓kZp1_at, ↓K_itEn, ↓kEnI_t, ↓kEnI_l, ↓K2_din_i, ↓kDinD_at, ↓KR_put_0, ↓KR_put_1, ↓KR_put_2, ↓KR_put_l, ↓KR_put_into, ↓KR_put_end, ↓KR_put_looked, ↓KR_put_cut, ↓KR_move_0, ↓KR_move_1, ↓KR_move_2, ↓KR_move_l, ↓KR_move_into, ↓KR_move_end, ↓KR_move_looked, ↓KR_move_cut, ↓KR_add_0, ↓KR_add_1, ↓KR_add_2, ↓KR_add_3, ↓KR_add_l, ↓KR_add_into, ↓KR_add_end, ↓KR_add_looked, ↓KR_add_cut, ↓KR_take_0, ↓KR_take_1, ↓KR_take_2, ↓KR_take_3, ↓KR_take_l, ↓KR_take_into, ↓KR_take_end, ↓KR_take_looked, ↓KR_take_cut, ↓KR_times_0, ↓KR_times_1, ↓KR_times_2, ↓KR_times_3, ↓KR_times_l, ↓KR_times_into, ↓KR_times_end, ↓KR_times_looked, ↓KR_times_cut, ↓KR_get_0, ↓KR_get_1, ↓KR_get_2, ↓KR_get_l, ↓KR_get_into, ↓KR_get_end, ↓KR_get_looked, ↓KR_get_cut, ↓KR_set_0, ↓KR_set_1, ↓KR_set_2, ↓KR_set_l, ↓KR_set_into, ↓KR_set_end, ↓KR_set_looked, ↓KR_set_cut, ↓KR_say_0, ↓KR_say_1, ↓KR_say_l, ↓KR_say_into, ↓KR_say_end, ↓KR_say_looked, ↓KR_say_cut, ↓KR_rest_0, ↓KR_rest_l, ↓KR_rest_into, ↓KR_rest_end, ↓KR_rest_looked, ↓KR_rest_cut, ↓KR_go_0, ↓KR_go_1, ↓KR_go_l, ↓KR_go_into, ↓KR_go_end, ↓KR_go_looked, ↓KR_go_cut, ↓KR_ifr_0, ↓KR_ifr_1, ↓KR_ifr_2, ↓KR_ifr_l, ↓KR_ifr_into, ↓KR_ifr_end, ↓KR_ifr_looked, ↓KR_ifr_cut, ↓KR_stop_0, ↓KR_stop_l, ↓KR_stop_into, ↓KR_stop_end, ↓KR_stop_looked, ↓KR_stop_cut, ↓KR_late, ↓KR_far, ↓KR_num, ↓KR_mill_0, ↓KR_mill_1, ↓KR_mill_2, ↓KR_mill_3, ↓KR_pi_len, ↓KA_stop, ↓KA_goes, ↓KA_ends, ↓K_mt1E, ↓kM1_l, ↓kM1_s, ↓kM1b_at, ↓K1_isi_c, ↓kIsiL_at, ↓KN_minl, ↓K2_isB, ↓K2_notB, ↓K1_rev_t, ↓K1_rev_l, ↓K2_nin, ↓K2_nnotin, ↓kNinD_pk, ↓kNnotD_pk, ↓K_nget2, ↓kNg1_at, ↓kNg1b_at, ↓kNg2_at, ↓kNg3_at, ↓kNg4_pk, ↓K_ndctE, ↓K_sNput, ↓kNp1_at, ↓kNp2_at, ↓kNp4_at, ↓K_ndsp1, ↓kNd1_at, ↓KN_nlen_c, ↓kNlenL_at, start0, List.map_cons, List.map_nil, List.length_cons, List.length_nil, List.replicate_succ, List.replicate_zero, Nat.reduceSub, Nat.reduceAdd, wipeE, List.set_cons_zero, List.set_cons_succ, List.cons_append, List.nil_append, $as,*])
local macro_rules | `(tactic| simp_arith [$as,*] at $h:ident) => `(tactic| simp -implicitDefEqProofs (disch := first | assumption | decide | omega | (simp only [List.length_cons, List.length_nil, Mem.put_n, Mem.new_n, Mem.kill_n]; omega)) only [↓KO_some, ↓K_vr, ↓kVr_0, ↓kVr_s, ↓K_cn, ↓K_pure, ↓K_op2, ↓kOp2a_at, ↓kOp2b_at, ↓K_op1, ↓kOp1_at, ↓K_argN, ↓K_argC, ↓kArg1_at, ↓kArg2_at, ↓K_opN, ↓kOpN_at, ↓K_call, ↓kCall_1, ↓kCall_2, ↓kCall_3, ↓kCall_4, ↓kCall_5, ↓K_tpl, ↓K_lsl, ↓K_lsm, ↓K_dctE, ↓kTpl_0, ↓kTpl_1, ↓kTpl_2, ↓kTpl_3, ↓kTpl_4, ↓kTpl_5, ↓kLsl_0, ↓kLsl_1, ↓kLsl_2, ↓kLsl_3, ↓kLsl_4, ↓kLsm_0, ↓K_tV, ↓kTV_at, ↓K_tAnd, ↓kTAnd_t, ↓kTAnd_f, ↓K_tOr, ↓kTOr_t, ↓kTOr_f, ↓K_tNot, ↓kTNot_t, ↓kTNot_f, ↓kTNot_at, ↓K_tYes, ↓K_vAnd, ↓kVAnd_t, ↓kVAnd_f, ↓K_vOr, ↓kVOr_t, ↓kVOr_f, ↓K_vNot, ↓kVNot_at, ↓K_ifE, ↓kIfE_t, ↓kIfE_f, ↓K_chn, ↓kChn0_at, ↓kChn1_at, ↓kChn2_t, ↓kChn2_f, ↓K_soN, ↓K_soS, ↓kSoS_at, ↓K_slc, ↓kSlc0_at, ↓kSlc1_at, ↓kSlc2_at, ↓KSl_tup, ↓KSl_lst, ↓K_sNext, ↓K_sSeq, ↓kSeq_nx, ↓kSeq_rt, ↓K_sRet, ↓kRet_at, ↓K_sRetN, ↓K_sExp, ↓kExp_at, ↓K_sIf, ↓kIf_t, ↓kIf_f, ↓kSet_0, ↓kSet_s, ↓kUn_c, ↓kUn_n, ↓K_sAsg, ↓kAsg_nm, ↓kAsg_tp, ↓kNms_c, ↓kNmsC_at, ↓kNms_n, ↓K_sPar, ↓kPar1_at, ↓kPar2_at, ↓K_run, ↓kRun_rt, ↓kRun_nx, ↓K2_add_i, ↓K2_sub_i, ↓K2_mul_i, ↓K2_mod_i, ↓K2_fdiv_i, ↓K2_lt_i, ↓K2_le_i, ↓K2_gt_i, ↓K2_ge_i, ↓K2_eq_i, ↓K2_ne_i, ↓K2_eq_st, ↓K2_eq_sf, ↓K2_ne_st, ↓K2_ne_sf, ↓K2_eq_b, ↓K2_add_t, ↓K2_add_l, ↓K1_neg_i, ↓K2_isN_n, ↓K2_isN_i, ↓K2_isN_s, ↓K2_isN_t, ↓K2_isN_l, ↓K2_isN_c, ↓K2_notN_n, ↓K2_notN_i, ↓K2_notN_s, ↓K2_notN_t, ↓K2_notN_l, ↓K2_notN_c, ↓K2_ix_t, ↓K2_ix_l, ↓KIx_0, ↓KIx_1, ↓KIx_2, ↓KIx_3, ↓KIx_4, ↓KIx_m1a, ↓KIx_m1b, ↓KIx_m1c, ↓KIx_m1d, ↓KN_len_t, ↓KN_len_l, ↓KN_max2, ↓KN_min2, ↓KN_int_i, ↓KN_int_t, ↓KN_int_f, ↓KN_tuple_l, ↓KN_tuple_t, ↓KN_maxl, ↓KN_suml, ↓K1_isi_n, ↓K1_isi_b, ↓K1_isi_i, ↓K1_isi_s, ↓K1_isi_t, ↓K1_isi_l, ↓KG_put_eq, ↓KG_put_ne, ↓KG_new_eq, ↓KG_new_ne, ↓KG_kill_ne, ↓K2_ix_c, ↓kIxL_at, ↓KN_len_c, ↓kLenL_l, ↓kLenL_d, ↓KN_tuple_c, ↓kTupL_at, ↓KN_max_c, ↓kMaxL_at, ↓KSl_c, ↓kSlL_at, ↓K_appE, ↓kApp1_at, ↓kApp1b_at, ↓kApp2_at, ↓kApp3_at, ↓K_sLput, ↓kPut1_at, ↓kPut2_at, ↓kPut3_at, ↓kPut4_at, ↓K2_dget_i, ↓K2_dget_s, ↓kDgD_at, ↓KVk_eq, ↓KVk_ne, ↓KVd_eq, ↓KVd_ne, ↓KVd_n, ↓K_dget2, ↓kDg1_at, ↓kDg1b_at, ↓kDg2_at, ↓kDg3_at, ↓kDg4_i, ↓kDg4_s, ↓K_sDput, ↓kDp1_at, ↓kDp2_at, ↓kDp3_i, ↓kDp3_s, ↓kDp4_at, ↓K1_fld, ↓kFldO_at, ↓KFl_eq, ↓KFl_ne, ↓K_sFput, ↓kFp1_at, ↓kFp2_at, ↓kFp3_at, ↓kPf_n, ↓kPf_eq, ↓kPu_c, ↓kPu_n, ↓kPf_ne, ↓K_callM, ↓kMt1_at, ↓kMt2_at, ↓kNo_n, ↓kNo_c, ↓kMt3_0, ↓kMt3_1, ↓kMt3_2, ↓kMt3_3, ↓kMt3_4, ↓K_mkE, ↓kMk_1, ↓kMk_2, ↓kMk_3, ↓kMk2_at, ↓K_sFor, ↓kFor_at, ↓K_itRng1, ↓kRng1_nat, ↓K_itRng2, ↓kRng2_at, ↓K_itSeq, ↓kSeqI_t, ↓kSeqI_l, ↓kSeqI_c, ↓kSeqL_at, ↓K_bodyG_nm, ↓K_bodyG_tp, ↓K_sWhile, ↓kComp_at, ↓K_comp, ↓K_compM, ↓kLst_at, ↓kLstM_at, ↓kEx_at, ↓K_exG_nm, ↓K_exG_tp, ↓kAlc_at, ↓K_opNM, ↓kOpNM_at, ↓KN_list_l2, ↓KN_list_t2, ↓KN_list_c, ↓kListL_at, ↓K_op2M, ↓kOp2Ma_at, ↓kOp2Mb_at, ↓K2_rep1, ↓K_prE_n, ↓K_prE_c, ↓kPr1_at, ↓kPr2_at, ↓kPr3_at, ↓K_dspE, ↓kDsp_s1, ↓kDsp_s2, ↓kDsp_s3, ↓kDsp_s4, ↓K_frz, ↓kFrz_c, ↓kFrz_l, ↓kFrz_t, ↓kFrz_n, ↓kFrzL_at, ↓K_extE, ↓kExt1_at, ↓kExt1b_at, ↓kExt2_at, ↓kExt3_at, ↓K_mt0E, ↓kMt0_at, ↓kMt0L_clear, ↓kMt0L_rev, ↓K2_in_t, ↓K2_in_f, ↓K2_notIn_t, ↓K2_notIn_f, ↓K_itZp, ↓kZp1_at, ↓K_itEn, ↓kEnI_t, ↓kEnI_l, ↓K2_din_i, ↓kDinD_at, ↓KR_put_0, ↓KR_put_1, ↓KR_put_2, ↓KR_put_l, ↓KR_put_into, ↓KR_put_end, ↓KR_put_looked, ↓KR_put_cut, ↓KR_move_0, ↓KR_move_1, ↓KR_move_2, ↓KR_move_l, ↓KR_move_into, ↓KR_move_end, ↓KR_move_looked, ↓KR_move_cut, ↓KR_add_0, ↓KR_add_1, ↓KR_add_2, ↓KR_add_3, ↓KR_add_l, ↓KR_add_into, ↓KR_add_end, ↓KR_add_looked, ↓KR_add_cut, ↓KR_take_0, ↓KR_take_1, ↓KR_take_2, ↓KR_take_3, ↓KR_take_l, ↓KR_take_into, ↓KR_take_end, ↓KR_take_looked, ↓KR_take_cut, ↓KR_times_0, ↓KR_times_1, ↓KR_times_2, ↓KR_times_3, ↓KR_times_l, ↓KR_times_into, ↓KR_times_end, ↓KR_times_looked, ↓KR_times_cut, ↓KR_get_0, ↓KR_get_1, ↓KR_get_2, ↓KR_get_l, ↓KR_get_into, ↓KR_get_end, ↓KR_get_looked, ↓KR_get_cut, ↓KR_set_0, ↓KR_set_1, ↓KR_set_2, ↓KR_set_l, ↓KR_set_into, ↓KR_set_end, ↓KR_set_looked, ↓KR_set_cut, ↓KR_say_0, ↓KR_say_1, ↓KR_say_l, ↓KR_say_into, ↓KR_say_end, ↓KR_say_looked, ↓KR_say_cut, ↓KR_rest_0, ↓KR_rest_l, ↓KR_rest_into, ↓KR_rest_end, ↓KR_rest_looked, ↓KR_rest_cut, ↓KR_go_0, ↓KR_go_1, ↓KR_go_l, ↓KR_go_into, ↓KR_go_end, ↓KR_go_looked, ↓KR_go_cut, ↓KR_ifr_0, ↓KR_ifr_1, ↓KR_ifr_2, ↓KR_ifr_l, ↓KR_ifr_into, ↓KR_ifr_end, ↓KR_ifr_looked, ↓KR_ifr_cut, ↓KR_stop_0, ↓KR_stop_l, ↓KR_stop_into, ↓KR_stop_end, ↓KR_stop_looked, ↓KR_stop_cut, ↓KR_late, ↓KR_far, ↓KR_num, ↓KR_mill_0, ↓KR_mill_1, ↓KR_mill_2, ↓KR_mill_3, ↓KR_pi_len, ↓KA_stop, ↓KA_goes, ↓KA_ends, ↓K_mt1E, ↓kM1_l, ↓kM1_s, ↓kM1b_at, ↓K1_isi_c, ↓kIsiL_at, ↓KN_minl, ↓K2_isB, ↓K2_notB, ↓K1_rev_t, ↓K1_rev_l, ↓K2_nin, ↓K2_nnotin, ↓kNinD_pk, ↓kNnotD_pk, ↓K_nget2, ↓kNg1_at, ↓kNg1b_at, ↓kNg2_at, ↓kNg3_at, ↓kNg4_pk, ↓K_ndctE, ↓K_sNput, ↓kNp1_at, ↓kNp2_at, ↓kNp4_at, ↓K_ndsp1, ↓kNd1_at, ↓KN_nlen_c, ↓kNlenL_at, start0, List.map_cons, List.map_nil, List.length_cons, List.length_nil, List.replicate_succ, List.replicate_zero, Nat.reduceSub, Nat.reduceAdd, wipeE, List.set_cons_zero, List.set_cons_succ, List.cons_append, List.nil_append, $as,*] at $h:ident)
variable {β : Type}
theorem K_isX (a : Nat) (b : Bool) (x : Option D) (ρ : Ev) {β : Type} (m : Mem) (k : D → Mem → Rs β) : K (isX 1 a b (x :: some (.ref a) :: ρ)) m k = k (.bl b) m := by
  refine K_ok ?_ k
  unfold isX
  simp only [List.getElem?_cons_succ, List.getElem?_cons_zero, if_true]
theorem K_fldX (a : Nat) (n : Int) (x : Option D) (ρ : Ev) {β : Type} (m : Mem) (k : D → Mem → Rs β) : K (fldX 1 a (some n) (x :: some (.ref a) :: ρ)) m k = k (.int n) m := by
  refine K_ok ?_ k
  unfold fldX
  simp only [List.getElem?_cons_succ, List.getElem?_cons_zero, if_true]
theorem KGo {a : M (Fl × Ev)} {m : Mem} {x : Fl} {ρ : Ev} (h : K a m Rs.ok = .ok (x, ρ) m) : ∃ ρ', a m = .ok (x, ρ') m := ⟨ρ, (K_start a m).trans h⟩
theorem K2_cnt1 (xs : List D) {β : Type} (m : Mem) (k : D → Mem → Rs β) (h1 : (xs.all D.isFlat) = true) (h2 : (xs.countP fun z => z.eqv (.bl true)) = 1) : K2 gCount (.lst xs) (.bl true) m k = k (.int 1) m := by
  refine KO_of ?_ m k
  show (if (D.bl true).isFlat = true ∧ xs.all D.isFlat = true then some (D.int (xs.countP fun z => z.eqv (.bl true) : Nat)) else none) = _
  rw [if_pos ⟨rfl, h1⟩, h2]
  rfl
theorem kLsl_6 (k : D → Mem → Rs β) (a b c d e f : D) (m : Mem) : kLsl k [a, b, c, d, e, f] m = k (.lst [a, b, c, d, e, f]) m := rfl
theorem KIx_6 (k : D → Mem → Rs β) (a b c d e f g : D) (r : List D) (m : Mem) : KIx (a :: b :: c :: d :: e :: f :: g :: r) 6 m k = k g m := KIx_ofI (by omega) rfl m k
theorem kindS_ok (er : Er) (dd : D) (h : kindW er = some dd) (aa : Nat) (m : Mem) : ∃ ρ', f_l_kindS aa er [none, some (.ref aa), none, none] m = .ok (.rt dd, ρ') m := by
  obtain ⟨cls, fld⟩ := er
  unfold kindW at h
  dsimp only at h
  split at h <;> first
    | (cases h; done)
    | (cases h
       refine KGo (ρ := ?_) ?_
       rotate_left
       · subst_vars
         unfold f_l_kindS
         simp only [erI, Nat.reduceEqDiff, decide_true, decide_false, if_true, if_false]
         simp_arith [↓K_isX, ↓K_fldX, ↓K2_cnt1, decide_true, decide_false, Bool.not_true, Bool.not_false, Nat.reduceEqDiff, ↓kLsl_6, ↓KIx_6]
         rfl)
/-! runs that refuse -/
def kRaiseF (c : Nat) : D → Mem → Rs β := fun d m => .ex ⟨c, some d⟩ m
theorem K_raiseF (c : Nat) (fe : SE) (ρ : Ev) (m : Mem) (k : KS β) : K (sRaiseF c fe ρ) m k = K (fe ρ) m (kRaiseF c) := by
  unfold sRaiseF
  rw [K_bind]
  rfl
theorem kRaiseF_at (c : Nat) (d : D) (m : Mem) : (kRaiseF c d m : Rs β) = .ex ⟨c, some d⟩ m := rfl
theorem WP.ex {α : Type} {er : Er} {m : Mem} {q : α → Mem → Prop} {e : Er → Mem → Prop} (h : e er m) : WP (.ex er m) q e := ⟨h⟩
theorem WP.monoX {α : Type} {r : Rs α} {q q' : α → Mem → Prop} {e e' : Er → Mem → Prop} (h : WP r q e) (hq : ∀ x m, q x m → q' x m) (he : ∀ x m, e x m → e' x m) : WP r q' e' := ⟨Rs.wp_mono h.h hq he⟩
theorem WP_FX {f : Fn} {ds : List D} {m : Mem} {k : D → Mem → Rs β} {q0 : D → Mem → Prop} {q : β → Mem → Prop} {e0 e : Er → Mem → Prop} (h : WP (f ds m) q0 e0) (hk : ∀ d m1, q0 d m1 → WP (k d m1) q e) (he : ∀ er m1, e0 er m1 → e er m1) : WP (KF f ds m k) q e := WP_K (h.monoX (fun d m1 z => hk d m1 z) he)
theorem WP_kind {fb : SE} {ρ : Ev} {m : Mem} {k : D → Mem → Rs β} {q0 : D → Mem → Prop} {q : β → Mem → Prop} {e0 e : Er → Mem → Prop} (h : WP (K (fb ρ) m Rs.ok) q0 e0) (hk : ∀ d m1, q0 d m1 → WP (k (.str (Str.ofString "")) m1) q e) (he : ∀ er m1, e0 er m1 → ∃ dd, kindW er = some dd ∧ WP (k dd m1) q e) : WP (K (kindE fb ρ) m k) q e := by
  rw [← K_start] at h
  obtain ⟨h⟩ := h
  unfold K kindE
  cases hf : fb ρ m with
  | bad => rw [hf] at h; exact h.elim
  | ok d m1 => rw [hf] at h; exact hk d m1 h
  | ex er m1 =>
    rw [hf] at h
    obtain ⟨dd, h1, h2⟩ := he er m1 h
    simp only [h1]
    exact h2
end
end LB

set_option Elab.async false
set_option linter.all false
set_option autoImplicit false
set_option maxRecDepth 100000
set_option maxHeartbeats 4000000
/-! The executor: list(range(8)) that may change, xs.pop(i). -/
namespace LB
open PySem
noncomputable section
local macro_rules | `(tactic| simp_arith [$as,*]) => `(tactic| simp -implicitDefEqProofs (disch := first | assumption | decide | omega | (simp only [List.length_cons, List.length_nil, Mem.put_n, Mem.new_n, Mem.kill_n]; omega)) only [↓KO_some, ↓K_vr, ↓kVr_0, ↓kVr_s, ↓K_cn, ↓K_pure, ↓K_op2, ↓kOp2a_at, ↓kOp2b_at, ↓K_op1, ↓kOp1_at, ↓K_argN, ↓K_argC, ↓kArg1_at, ↓kArg2_at, ↓K_opN, ↓kOpN_at, ↓K_call, ↓kCall_1, ↓kCall_2, ↓kCall_3, ↓kCall_4, ↓kCall_5, ↓K_tpl, ↓K_lsl, ↓K_lsm, ↓K_dctE, ↓kTpl_0, ↓kTpl_1, ↓kTpl_2, ↓kTpl_3, ↓kTpl_4, ↓kTpl_5, ↓kLsl_0, ↓kLsl_1, ↓kLsl_2, ↓kLsl_3, ↓kLsl_4, ↓kLsm_0, ↓K_tV, ↓kTV_at, ↓K_tAnd, ↓kTAnd_t, ↓kTAnd_f, ↓K_tOr, ↓kTOr_t, ↓kTOr_f, ↓K_tNot, ↓kTNot_t, ↓kTNot_f, ↓kTNot_at, ↓K_tYes, ↓K_vAnd, ↓kVAnd_t, ↓kVAnd_f, ↓K_vOr, ↓kVOr_t, ↓kVOr_f, ↓K_vNot, ↓kVNot_at, ↓K_ifE, ↓kIfE_t, ↓kIfE_f, ↓K_chn, ↓kChn0_at, ↓kChn1_at, ↓kChn2_t, ↓kChn2_f, ↓K_soN, ↓K_soS, ↓kSoS_at, ↓K_slc, ↓kSlc0_at, ↓kSlc1_at, ↓kSlc2_at, ↓KSl_tup, ↓KSl_lst, ↓K_sNext, ↓K_sSeq, ↓kSeq_nx, ↓kSeq_rt, ↓K_sRet, ↓kRet_at, ↓K_sRetN, ↓K_sExp, ↓kExp_at, ↓K_sIf, ↓kIf_t, ↓kIf_f, ↓kSet_0, ↓kSet_s, ↓kUn_c, ↓kUn_n, ↓K_sAsg, ↓kAsg_nm, ↓kAsg_tp, ↓kNms_c, ↓kNmsC_at, ↓kNms_n, ↓K_sPar, ↓kPar1_at, ↓kPar2_at, ↓K_run, ↓kRun_rt, ↓kRun_nx, ↓K2_add_i, ↓K2_sub_i, ↓K2_mul_i, ↓K2_mod_i, ↓K2_fdiv_i, ↓K2_lt_i, ↓K2_le_i, ↓K2_gt_i, ↓K2_ge_i, ↓K2_eq_i, ↓K2_ne_i, ↓K2_eq_st, ↓K2_eq_sf, ↓K2_ne_st, ↓K2_ne_sf, ↓K2_eq_b, ↓K2_add_t, ↓K2_add_l, ↓K1_neg_i, ↓K2_isN_n, ↓K2_isN_i, ↓K2_isN_s, ↓K2_isN_t, ↓K2_isN_l, ↓K2_isN_c, ↓K2_notN_n, ↓K2_notN_i, ↓K2_notN_s, ↓K2_notN_t, ↓K2_notN_l, ↓K2_notN_c, ↓K2_ix_t, ↓K2_ix_l, ↓KIx_0, ↓KIx_1, ↓KIx_2, ↓KIx_3, ↓KIx_4, ↓KIx_m1a, ↓KIx_m1b, ↓KIx_m1c, ↓KIx_m1d, ↓KN_len_t, ↓KN_len_l, ↓KN_max2, ↓KN_min2, ↓KN_int_i, ↓KN_int_t, ↓KN_int_f, ↓KN_tuple_l, ↓KN_tuple_t, ↓KN_maxl, ↓KN_suml, ↓K1_isi_n, ↓K1_isi_b, ↓K1_isi_i, ↓K1_isi_s, ↓K1_isi_t, ↓K1_isi_l, ↓KG_put_eq, ↓KG_put_ne, ↓KG_new_eq, ↓KG_new_ne, ↓KG_kill_ne, ↓K2_ix_c, ↓kIxL_at, ↓KN_len_c, ↓kLenL_l, ↓kLenL_d, ↓KN_tuple_c, ↓kTupL_at, ↓KN_max_c, ↓kMaxL_at, ↓KSl_c, ↓kSlL_at, ↓K_appE, ↓kApp1_at, ↓kApp1b_at, ↓kApp2_at, ↓kApp3_at, ↓K_sLput, ↓kPut1_at, ↓kPut2_at, ↓kPut3_at, ↓kPut4_at, ↓K2_dget_i, ↓K2_dget_s, ↓kDgD_at, ↓KVk_eq, ↓KVk_ne, ↓KVd_eq, ↓KVd_ne, ↓KVd_n, ↓K_dget2, ↓kDg1_at, ↓kDg1b_at, ↓kDg2_at, ↓kDg3_at, ↓kDg4_i, ↓kDg4_s, ↓K_sDput, ↓kDp1_at, ↓kDp2_at, ↓kDp3_i, ↓kDp3_s, ↓kDp4_at, ↓K1_fld, ↓kFldO_at, ↓KFl_eq, ↓KFl_ne, ↓K_sFput, ↓kFp1_at, ↓kFp2_at, ↓kFp3_at, ↓kPf_n, ↓kPf_eq, ↓kPu_c, ↓kPu_n, ↓kPf_ne, ↓K_callM, ↓kMt1_at, ↓kMt2_at, ↓kNo_n, ↓kNo_c, ↓kMt3_0, ↓kMt3_1, ↓kMt3_2, ↓kMt3_3, ↓kMt3_4, ↓K_mkE, ↓kMk_1, ↓kMk_2, ↓kMk_3, ↓kMk2_at, ↓K_sFor, ↓kFor_at, ↓K_itRng1, ↓kRng1_nat, ↓K_itRng2, ↓kRng2_at, ↓K_itSeq, ↓kSeqI_t, ↓kSeqI_l, ↓kSeqI_c, ↓kSeqL_at, ↓K_bodyG_nm, ↓K_bodyG_tp, ↓K_sWhile, ↓kComp_at, ↓K_comp, ↓K_compM, ↓kLst_at, ↓kLstM_at, ↓kEx_at, ↓K_exG_nm, ↓K_exG_tp, ↓kAlc_at, ↓K_opNM, ↓kOpNM_at, ↓KN_list_l2, ↓KN_list_t2, ↓KN_list_c, ↓kListL_at, ↓K_op2M, ↓kOp2Ma_at, ↓kOp2Mb_at, ↓K2_rep1, ↓K_prE_n, ↓K_prE_c, ↓kPr1_at, ↓kPr2_at, ↓kPr3_at, ↓K_dspE, ↓kDsp_s1, ↓kDsp_s2, ↓kDsp_s3, ↓kDsp_s4, ↓K_frz, ↓kFrz_c, ↓kFrz_l, ↓kFrz_t, ↓kFrz_n, ↓kFrzL_at, ↓K_extE, ↓kExt1_at, ↓kExt1b_at, ↓kExt2_at, ↓kExt3_at, ↓K_mt0E, ↓kMt0_at, ↓kMt0L_clear, ↓kMt0L_rev, ↓K2_in_t, ↓K2_in_f, ↓K2_notIn_t, ↓K2_notIn_f, ↓K_itZp, ↓kZp1_at, ↓K_itEn, ↓kEnI_t, ↓kEnI_l, ↓K2_din_i, ↓kDinD_at, ↓KR_put_0, ↓KR_put_1, ↓KR_put_2, ↓KR_put_l, ↓KR_put_into, ↓KR_put_end, ↓KR_put_looked, ↓KR_put_cut, ↓KR_move_0, ↓KR_move_1, ↓KR_move_2, ↓KR_move_l, ↓KR_move_into, ↓KR_move_end, ↓KR_move_looked, ↓KR_move_cut, ↓KR_add_0, ↓KR_add_1, ↓KR_add_2, ↓KR_add_3, ↓KR_add_l, ↓KR_add_into, ↓KR_add_end, ↓KR_add_looked, ↓KR_add_cut, ↓KR_take_0, ↓KR_take_1, ↓KR_take_2, ↓KR_take_3, ↓KR_take_l, ↓KR_take_into, ↓KR_take_end, ↓KR_take_looked, ↓KR_take_cut, ↓KR_times_0, ↓KR_times_1, ↓KR_times_2, ↓KR_times_3, ↓KR_times_l, ↓KR_times_into, ↓KR_times_end, ↓KR_times_looked, ↓KR_times_cut, ↓KR_get_0, ↓KR_get_1, ↓KR_get_2, ↓KR_get_l, ↓KR_get_into, ↓KR_get_end, ↓KR_get_looked, ↓KR_get_cut, ↓KR_set_0, ↓KR_set_1, ↓KR_set_2, ↓KR_set_l, ↓KR_set_into, ↓KR_set_end, ↓KR_set_looked, ↓KR_set_cut, ↓KR_say_0, ↓KR_say_1, ↓KR_say_l, ↓KR_say_into, ↓KR_say_end, ↓KR_say_looked, ↓KR_say_cut, ↓KR_rest_0, ↓KR_rest_l, ↓KR_rest_into, ↓KR_rest_end, ↓KR_rest_looked, ↓KR_rest_cut, ↓KR_go_0, ↓KR_go_1, ↓KR_go_l, ↓KR_go_into, ↓KR_go_end, ↓KR_go_looked, ↓KR_go_cut, ↓KR_ifr_0, ↓KR_ifr_1, ↓KR_ifr_2, ↓KR_ifr_l, ↓KR_ifr_into, ↓KR_ifr_end, ↓KR_ifr_looked, ↓KR_ifr_cut, ↓KR_stop_0, ↓KR_stop_l, ↓KR_stop_into, ↓KR_stop_end, ↓KR_stop_looked, ↓KR_stop_cut, ↓KR_late, ↓KR_far, ↓KR_num, ↓KR_mill_0, ↓KR_mill_1, ↓KR_mill_2, ↓KR_mill_3, ↓KR_pi_len, ↓KA_stop, ↓KA_goes, ↓KA_ends, ↓K_mt1E, ↓kM1_l, ↓kM1_s, ↓kM1b_at, ↓K1_isi_c, ↓kIsiL_at, ↓KN_minl, ↓K2_isB, ↓K2_notB, ↓K1_rev_t, ↓K1_rev_l, ↓K2_nin, ↓K2_nnotin, ↓kNinD_pk, ↓kNnotD_pk, ↓K_nget2, ↓kNg1_at, ↓kNg1b_at, ↓kNg2_at, ↓kNg3_at, ↓kNg4_pk, ↓K_ndctE, ↓K_sNput, ↓kNp1_at, ↓kNp2_at, ↓kNp4_at, ↓K_ndsp1, ↓kNd1_at, ↓KN_nlen_c, ↓kNlenL_at, start0, List.map_cons, List.map_nil, List.length_cons, List.length_nil, List.replicate_succ, List.replicate_zero, Nat.reduceSub, Nat.reduceAdd, wipeE, List.set_cons_zero, List.set_cons_succ, List.cons_append, List.nil_append, $as,*])
local macro_rules | `(tactic| simp_arith [$as,*] at $h:ident) => `(tactic| simp -implicitDefEqProofs (disch := first | assumption | decide | omega | (simp only [List.length_cons, List.length_nil, Mem.put_n, Mem.new_n, Mem.kill_n]; omega)) only [↓KO_some, ↓K_vr, ↓kVr_0, ↓kVr_s, ↓K_cn, ↓K_pure, ↓K_op2, ↓kOp2a_at, ↓kOp2b_at, ↓K_op1, ↓kOp1_at, ↓K_argN, ↓K_argC, ↓kArg1_at, ↓kArg2_at, ↓K_opN, ↓kOpN_at, ↓K_call, ↓kCall_1, ↓kCall_2, ↓kCall_3, ↓kCall_4, ↓kCall_5, ↓K_tpl, ↓K_lsl, ↓K_lsm, ↓K_dctE, ↓kTpl_0, ↓kTpl_1, ↓kTpl_2, ↓kTpl_3, ↓kTpl_4, ↓kTpl_5, ↓kLsl_0, ↓kLsl_1, ↓kLsl_2, ↓kLsl_3, ↓kLsl_4, ↓kLsm_0, ↓K_tV, ↓kTV_at, ↓K_tAnd, ↓kTAnd_t, ↓kTAnd_f, ↓K_tOr, ↓kTOr_t, ↓kTOr_f, ↓K_tNot, ↓kTNot_t, ↓kTNot_f, ↓kTNot_at, ↓K_tYes, ↓K_vAnd, ↓kVAnd_t, ↓kVAnd_f, ↓K_vOr, ↓kVOr_t, ↓kVOr_f, ↓K_vNot, ↓kVNot_at, ↓K_ifE, ↓kIfE_t, ↓kIfE_f, ↓K_chn, ↓kChn0_at, ↓kChn1_at, ↓kChn2_t, ↓kChn2_f, ↓K_soN, ↓K_soS, ↓kSoS_at, ↓K_slc, ↓kSlc0_at, ↓kSlc1_at, ↓kSlc2_at, ↓KSl_tup, ↓KSl_lst, ↓K_sNext, ↓K_sSeq, ↓kSeq_nx, ↓kSeq_rt, ↓K_sRet, ↓kRet_at, ↓K_sRetN, ↓K_sExp, ↓kExp_at, ↓K_sIf, ↓kIf_t, ↓kIf_f, ↓kSet_0, ↓kSet_s, ↓kUn_c, ↓kUn_n, ↓K_sAsg, ↓kAsg_nm, ↓kAsg_tp, ↓kNms_c, ↓kNmsC_at, ↓kNms_n, ↓K_sPar, ↓kPar1_at, ↓kPar2_at, ↓K_run, ↓kRun_rt, ↓kRun_nx, ↓K2_add_i, ↓K2_sub_i, ↓K2_mul_i, ↓K2_mod_i, ↓K2_fdiv_i, ↓K2_lt_i, ↓K2_le_i, ↓K2_gt_i, ↓K2_ge_i, ↓K2_eq_i, ↓K2_ne_i, ↓K2_eq_st, ↓K2_eq_sf, ↓K2_ne_st, ↓K2_ne_sf, ↓K2_eq_b, ↓K2_add_t, ↓K2_add_l, ↓K1_neg_i, ↓K2_isN_n, ↓K2_isN_i, ↓K2_isN_s, ↓K2_isN_t, ↓K2_isN_l, ↓K2_isN_c, ↓K2_notN_n, ↓K2_notN_i, ↓K2_notN_s, ↓K2_notN_t, ↓K2_notN_l, ↓K2_notN_c, ↓K2_ix_t, ↓K2_ix_l, ↓KIx_0, ↓KIx_1, ↓KIx_2, ↓KIx_3, ↓KIx_4, ↓KIx_m1a, ↓KIx_m1b, ↓KIx_m1c, ↓KIx_m1d, ↓KN_len_t, ↓KN_len_l, ↓KN_max2, ↓KN_min2, ↓KN_int_i, ↓KN_int_t, ↓KN_int_f, ↓KN_tuple_l, ↓KN_tuple_t, ↓KN_maxl, ↓KN_suml, ↓K1_isi_n, ↓K1_isi_b, ↓K1_isi_i, ↓K1_isi_s, ↓K1_isi_t, ↓K1_isi_l, ↓KG_put_eq, ↓KG_put_ne, ↓KG_new_eq, ↓KG_new_ne, ↓KG_kill_ne, ↓K2_ix_c, ↓kIxL_at, ↓KN_len_c, ↓kLenL_l, ↓kLenL_d, ↓KN_tuple_c, ↓kTupL_at, ↓KN_max_c, ↓kMaxL_at, ↓KSl_c, ↓kSlL_at, ↓K_appE, ↓kApp1_at, ↓kApp1b_at, ↓kApp2_at, ↓kApp3_at, ↓K_sLput, ↓kPut1_at, ↓kPut2_at, ↓kPut3_at, ↓kPut4_at, ↓K2_dget_i, ↓K2_dget_s, ↓kDgD_at, ↓KVk_eq, ↓KVk_ne, ↓KVd_eq, ↓KVd_ne, ↓KVd_n, ↓K_dget2, ↓kDg1_at, ↓kDg1b_at, ↓kDg2_at, ↓kDg3_at, ↓kDg4_i, ↓kDg4_s, ↓K_sDput, ↓kDp1_at, ↓kDp2_at, ↓kDp3_i, ↓kDp3_s, ↓kDp4_at, ↓K1_fld, ↓kFldO_at, ↓KFl_eq, ↓KFl_ne, ↓K_sFput, ↓kFp1_at, ↓kFp2_at, ↓kFp3_at, ↓kPf_n, ↓kPf_eq, ↓kPu_c, ↓kPu_n, ↓kPf_ne, ↓K_callM, ↓kMt1_at, ↓kMt2_at, ↓kNo_n, ↓kNo_c, ↓kMt3_0, ↓kMt3_1, ↓kMt3_2, ↓kMt3_3, ↓kMt3_4, ↓K_mkE, ↓kMk_1, ↓kMk_2, ↓kMk_3, ↓kMk2_at, ↓K_sFor, ↓kFor_at, ↓K_itRng1, ↓kRng1_nat, ↓K_itRng2, ↓kRng2_at, ↓K_itSeq, ↓kSeqI_t, ↓kSeqI_l, ↓kSeqI_c, ↓kSeqL_at, ↓K_bodyG_nm, ↓K_bodyG_tp, ↓K_sWhile, ↓kComp_at, ↓K_comp, ↓K_compM, ↓kLst_at, ↓kLstM_at, ↓kEx_at, ↓K_exG_nm, ↓K_exG_tp, ↓kAlc_at, ↓K_opNM, ↓kOpNM_at, ↓KN_list_l2, ↓KN_list_t2, ↓KN_list_c, ↓kListL_at, ↓K_op2M, ↓kOp2Ma_at, ↓kOp2Mb_at, ↓K2_rep1, ↓K_prE_n, ↓K_prE_c, ↓kPr1_at, ↓kPr2_at, ↓kPr3_at, ↓K_dspE, ↓kDsp_s1, ↓kDsp_s2, ↓kDsp_s3, ↓kDsp_s4, ↓K_frz, ↓kFrz_c, ↓kFrz_l, ↓kFrz_t, ↓kFrz_n, ↓kFrzL_at, ↓K_extE, ↓kExt1_at, ↓kExt1b_at, ↓kExt2_at, ↓kExt3_at, ↓K_mt0E, ↓kMt0_at, ↓kMt0L_clear, ↓kMt0L_rev, ↓K2_in_t, ↓K2_in_f, ↓K2_notIn_t, ↓K2_notIn_f, ↓K_itZp, ↓kZp1_at, ↓K_itEn, ↓kEnI_t, ↓kEnI_l, ↓K2_din_i, ↓kDinD_at, ↓KR_put_0, ↓KR_put_1, ↓KR_put_2, ↓KR_put_l, ↓KR_put_into, ↓KR_put_end, ↓KR_put_looked, ↓KR_put_cut, ↓KR_move_0, ↓KR_move_1, ↓KR_move_2, ↓KR_move_l, ↓KR_move_into, ↓KR_move_end, ↓KR_move_looked, ↓KR_move_cut, ↓KR_add_0, ↓KR_add_1, ↓KR_add_2, ↓KR_add_3, ↓KR_add_l, ↓KR_add_into, ↓KR_add_end, ↓KR_add_looked, ↓KR_add_cut, ↓KR_take_0, ↓KR_take_1, ↓KR_take_2, ↓KR_take_3, ↓KR_take_l, ↓KR_take_into, ↓KR_take_end, ↓KR_take_looked, ↓KR_take_cut, ↓KR_times_0, ↓KR_times_1, ↓KR_times_2, ↓KR_times_3, ↓KR_times_l, ↓KR_times_into, ↓KR_times_end, ↓KR_times_looked, ↓KR_times_cut, ↓KR_get_0, ↓KR_get_1, ↓KR_get_2, ↓KR_get_l, ↓KR_get_into, ↓KR_get_end, ↓KR_get_looked, ↓KR_get_cut, ↓KR_set_0, ↓KR_set_1, ↓KR_set_2, ↓KR_set_l, ↓KR_set_into, ↓KR_set_end, ↓KR_set_looked, ↓KR_set_cut, ↓KR_say_0, ↓KR_say_1, ↓KR_say_l, ↓KR_say_into, ↓KR_say_end, ↓KR_say_looked, ↓KR_say_cut, ↓KR_rest_0, ↓KR_rest_l, ↓KR_rest_into, ↓KR_rest_end, ↓KR_rest_looked, ↓KR_rest_cut, ↓KR_go_0, ↓KR_go_1, ↓KR_go_l, ↓KR_go_into, ↓KR_go_end, ↓KR_go_looked, ↓KR_go_cut, ↓KR_ifr_0, ↓KR_ifr_1, ↓KR_ifr_2, ↓KR_ifr_l, ↓KR_ifr_into, ↓KR_ifr_end, ↓KR_ifr_looked, ↓KR_ifr_cut, ↓KR_stop_0, ↓KR_stop_l, ↓KR_stop_into, ↓KR_stop_end, ↓KR_stop_looked, ↓KR_stop_cut, ↓KR_late, ↓KR_far, ↓KR_num, ↓KR_mill_0, ↓KR_mill_1, ↓KR_mill_2, ↓KR_mill_3, ↓KR_pi_len, ↓KA_stop, ↓KA_goes, ↓KA_ends, ↓K_mt1E, ↓kM1_l, ↓kM1_s, ↓kM1b_at, ↓K1_isi_c, ↓kIsiL_at, ↓KN_minl, ↓K2_isB, ↓K2_notB, ↓K1_rev_t, ↓K1_rev_l, ↓K2_nin, ↓K2_nnotin, ↓kNinD_pk, ↓kNnotD_pk, ↓K_nget2, ↓kNg1_at, ↓kNg1b_at, ↓kNg2_at, ↓kNg3_at, ↓kNg4_pk, ↓K_ndctE, ↓K_sNput, ↓kNp1_at, ↓kNp2_at, ↓kNp4_at, ↓K_ndsp1, ↓kNd1_at, ↓KN_nlen_c, ↓kNlenL_at, start0, List.map_cons, List.map_nil, List.length_cons, List.length_nil, List.replicate_succ, List.replicate_zero, Nat.reduceSub, Nat.reduceAdd, wipeE, List.set_cons_zero, List.set_cons_succ, List.cons_append, List.nil_append, $as,*] at $h:ident)
variable {β : Type}
def l8 : List Int := [0, 1, 2, 3, 4, 5, 6, 7]
/-- what is drawn of what is left -/
structure Popd (cl : Nat) (m : Mem) (bs ls : List Int) : Prop where
  lt : cl < m.n
  at_ : m.get cl = some (.lst (ls.map D.int))
  perm : (bs ++ ls).Perm l8
theorem Popd.len {cl : Nat} {m : Mem} {bs ls : List Int} (h : Popd cl m bs ls) : bs.length + ls.length = 8 := by
  have := h.perm.length_eq
  rw [List.length_append] at this
  exact this
end
end LB

set_option Elab.async false
set_option linter.all false
set_option autoImplicit false
set_option maxRecDepth 100000
set_option maxHeartbeats 2000000
/-! Plain: any words, numbers or not. -/
namespace LB
open PySem L2 TL
noncomputable section
local macro_rules | `(tactic| simp_arith [$as,*]) => `(tactic| simp -implicitDefEqProofs (disch := first | assumption | decide | omega | (simp only [List.length_cons, List.length_nil, Mem.put_n, Mem.new_n, Mem.kill_n]; omega)) only [↓KO_some, ↓K_vr, ↓kVr_0, ↓kVr_s, ↓K_cn, ↓K_pure, ↓K_op2, ↓kOp2a_at, ↓kOp2b_at, ↓K_op1, ↓kOp1_at, ↓K_argN, ↓K_argC, ↓kArg1_at, ↓kArg2_at, ↓K_opN, ↓kOpN_at, ↓K_call, ↓kCall_1, ↓kCall_2, ↓kCall_3, ↓kCall_4, ↓kCall_5, ↓K_tpl, ↓K_lsl, ↓K_lsm, ↓K_dctE, ↓kTpl_0, ↓kTpl_1, ↓kTpl_2, ↓kTpl_3, ↓kTpl_4, ↓kTpl_5, ↓kLsl_0, ↓kLsl_1, ↓kLsl_2, ↓kLsl_3, ↓kLsl_4, ↓kLsm_0, ↓K_tV, ↓kTV_at, ↓K_tAnd, ↓kTAnd_t, ↓kTAnd_f, ↓K_tOr, ↓kTOr_t, ↓kTOr_f, ↓K_tNot, ↓kTNot_t, ↓kTNot_f, ↓kTNot_at, ↓K_tYes, ↓K_vAnd, ↓kVAnd_t, ↓kVAnd_f, ↓K_vOr, ↓kVOr_t, ↓kVOr_f, ↓K_vNot, ↓kVNot_at, ↓K_ifE, ↓kIfE_t, ↓kIfE_f, ↓K_chn, ↓kChn0_at, ↓kChn1_at, ↓kChn2_t, ↓kChn2_f, ↓K_soN, ↓K_soS, ↓kSoS_at, ↓K_slc, ↓kSlc0_at, ↓kSlc1_at, ↓kSlc2_at, ↓KSl_tup, ↓KSl_lst, ↓K_sNext, ↓K_sSeq, ↓kSeq_nx, ↓kSeq_rt, ↓K_sRet, ↓kRet_at, ↓K_sRetN, ↓K_sExp, ↓kExp_at, ↓K_sIf, ↓kIf_t, ↓kIf_f, ↓kSet_0, ↓kSet_s, ↓kUn_c, ↓kUn_n, ↓K_sAsg, ↓kAsg_nm, ↓kAsg_tp, ↓kNms_c, ↓kNmsC_at, ↓kNms_n, ↓K_sPar, ↓kPar1_at, ↓kPar2_at, ↓K_run, ↓kRun_rt, ↓kRun_nx, ↓K2_add_i, ↓K2_sub_i, ↓K2_mul_i, ↓K2_mod_i, ↓K2_fdiv_i, ↓K2_lt_i, ↓K2_le_i, ↓K2_gt_i, ↓K2_ge_i, ↓K2_eq_i, ↓K2_ne_i, ↓K2_eq_st, ↓K2_eq_sf, ↓K2_ne_st, ↓K2_ne_sf, ↓K2_eq_b, ↓K2_add_t, ↓K2_add_l, ↓K1_neg_i, ↓K2_isN_n, ↓K2_isN_i, ↓K2_isN_s, ↓K2_isN_t, ↓K2_isN_l, ↓K2_isN_c, ↓K2_notN_n, ↓K2_notN_i, ↓K2_notN_s, ↓K2_notN_t, ↓K2_notN_l, ↓K2_notN_c, ↓K2_ix_t, ↓K2_ix_l, ↓KIx_0, ↓KIx_1, ↓KIx_2, ↓KIx_3, ↓KIx_4, ↓KIx_m1a, ↓KIx_m1b, ↓KIx_m1c, ↓KIx_m1d, ↓KN_len_t, ↓KN_len_l, ↓KN_max2, ↓KN_min2, ↓KN_int_i, ↓KN_int_t, ↓KN_int_f, ↓KN_tuple_l, ↓KN_tuple_t, ↓KN_maxl, ↓KN_suml, ↓K1_isi_n, ↓K1_isi_b, ↓K1_isi_i, ↓K1_isi_s, ↓K1_isi_t, ↓K1_isi_l, ↓KG_put_eq, ↓KG_put_ne, ↓KG_new_eq, ↓KG_new_ne, ↓KG_kill_ne, ↓K2_ix_c, ↓kIxL_at, ↓KN_len_c, ↓kLenL_l, ↓kLenL_d, ↓KN_tuple_c, ↓kTupL_at, ↓KN_max_c, ↓kMaxL_at, ↓KSl_c, ↓kSlL_at, ↓K_appE, ↓kApp1_at, ↓kApp1b_at, ↓kApp2_at, ↓kApp3_at, ↓K_sLput, ↓kPut1_at, ↓kPut2_at, ↓kPut3_at, ↓kPut4_at, ↓K2_dget_i, ↓K2_dget_s, ↓kDgD_at, ↓KVk_eq, ↓KVk_ne, ↓KVd_eq, ↓KVd_ne, ↓KVd_n, ↓K_dget2, ↓kDg1_at, ↓kDg1b_at, ↓kDg2_at, ↓kDg3_at, ↓kDg4_i, ↓kDg4_s, ↓K_sDput, ↓kDp1_at, ↓kDp2_at, ↓kDp3_i, ↓kDp3_s, ↓kDp4_at, ↓K1_fld, ↓kFldO_at, ↓KFl_eq, ↓KFl_ne, ↓K_sFput, ↓kFp1_at, ↓kFp2_at, ↓kFp3_at, ↓kPf_n, ↓kPf_eq, ↓kPu_c, ↓kPu_n, ↓kPf_ne, ↓K_callM, ↓kMt1_at, ↓kMt2_at, ↓kNo_n, ↓kNo_c, ↓kMt3_0, ↓kMt3_1, ↓kMt3_2, ↓kMt3_3, ↓kMt3_4, ↓K_mkE, ↓kMk_1, ↓kMk_2, ↓kMk_3, ↓kMk2_at, ↓K_sFor, ↓kFor_at, ↓K_itRng1, ↓kRng1_nat, ↓K_itRng2, ↓kRng2_at, ↓K_itSeq, ↓kSeqI_t, ↓kSeqI_l, ↓kSeqI_c, ↓kSeqL_at, ↓K_bodyG_nm, ↓K_bodyG_tp, ↓K_sWhile, ↓kComp_at, ↓K_comp, ↓K_compM, ↓kLst_at, ↓kLstM_at, ↓kEx_at, ↓K_exG_nm, ↓K_exG_tp, ↓kAlc_at, ↓K_opNM, ↓kOpNM_at, ↓KN_list_l2, ↓KN_list_t2, ↓KN_list_c, ↓kListL_at, ↓K_op2M, ↓kOp2Ma_at, ↓kOp2Mb_at, ↓K2_rep1, ↓K_prE_n, ↓K_prE_c, ↓kPr1_at, ↓kPr2_at, ↓kPr3_at, ↓K_dspE, ↓kDsp_s1, ↓kDsp_s2, ↓kDsp_s3, ↓kDsp_s4, ↓K_frz, ↓kFrz_c, ↓kFrz_l, ↓kFrz_t, ↓kFrz_n, ↓kFrzL_at, ↓K_extE, ↓kExt1_at, ↓kExt1b_at, ↓kExt2_at, ↓kExt3_at, ↓K_mt0E, ↓kMt0_at, ↓kMt0L_clear, ↓kMt0L_rev, ↓K2_in_t, ↓K2_in_f, ↓K2_notIn_t, ↓K2_notIn_f, ↓K_itZp, ↓kZp1_at, ↓K_itEn, ↓kEnI_t, ↓kEnI_l, ↓K2_din_i, ↓kDinD_at, ↓KR_put_0, ↓KR_put_1, ↓KR_put_2, ↓KR_put_l, ↓KR_put_into, ↓KR_put_end, ↓KR_put_looked, ↓KR_put_cut, ↓KR_move_0, ↓KR_move_1, ↓KR_move_2, ↓KR_move_l, ↓KR_move_into, ↓KR_move_end, ↓KR_move_looked, ↓KR_move_cut, ↓KR_add_0, ↓KR_add_1, ↓KR_add_2, ↓KR_add_3, ↓KR_add_l, ↓KR_add_into, ↓KR_add_end, ↓KR_add_looked, ↓KR_add_cut, ↓KR_take_0, ↓KR_take_1, ↓KR_take_2, ↓KR_take_3, ↓KR_take_l, ↓KR_take_into, ↓KR_take_end, ↓KR_take_looked, ↓KR_take_cut, ↓KR_times_0, ↓KR_times_1, ↓KR_times_2, ↓KR_times_3, ↓KR_times_l, ↓KR_times_into, ↓KR_times_end, ↓KR_times_looked, ↓KR_times_cut, ↓KR_get_0, ↓KR_get_1, ↓KR_get_2, ↓KR_get_l, ↓KR_get_into, ↓KR_get_end, ↓KR_get_looked, ↓KR_get_cut, ↓KR_set_0, ↓KR_set_1, ↓KR_set_2, ↓KR_set_l, ↓KR_set_into, ↓KR_set_end, ↓KR_set_looked, ↓KR_set_cut, ↓KR_say_0, ↓KR_say_1, ↓KR_say_l, ↓KR_say_into, ↓KR_say_end, ↓KR_say_looked, ↓KR_say_cut, ↓KR_rest_0, ↓KR_rest_l, ↓KR_rest_into, ↓KR_rest_end, ↓KR_rest_looked, ↓KR_rest_cut, ↓KR_go_0, ↓KR_go_1, ↓KR_go_l, ↓KR_go_into, ↓KR_go_end, ↓KR_go_looked, ↓KR_go_cut, ↓KR_ifr_0, ↓KR_ifr_1, ↓KR_ifr_2, ↓KR_ifr_l, ↓KR_ifr_into, ↓KR_ifr_end, ↓KR_ifr_looked, ↓KR_ifr_cut, ↓KR_stop_0, ↓KR_stop_l, ↓KR_stop_into, ↓KR_stop_end, ↓KR_stop_looked, ↓KR_stop_cut, ↓KR_late, ↓KR_far, ↓KR_num, ↓KR_mill_0, ↓KR_mill_1, ↓KR_mill_2, ↓KR_mill_3, ↓KR_pi_len, ↓KA_stop, ↓KA_goes, ↓KA_ends, ↓K_mt1E, ↓kM1_l, ↓kM1_s, ↓kM1b_at, ↓K1_isi_c, ↓kIsiL_at, ↓KN_minl, start0, List.map_cons, List.map_nil, List.length_cons, List.length_nil, List.replicate_succ, List.replicate_zero, Nat.reduceSub, Nat.reduceAdd, wipeE, List.set_cons_zero, List.set_cons_succ, List.cons_append, List.nil_append, $as,*])
theorem numT_1 : (List.range 10).all (fun a => decide (tl (numT (a : Int)) = [48 + a])) = true := by decide +kernel
theorem numT_2 : (List.range 9).all (fun a => (List.range 10).all fun b => decide (tl (numT ((10 * (a + 1) + b : Nat) : Int)) = [49 + a, 48 + b])) = true := by decide +kernel
theorem numT_3 : (List.range 9).all (fun a => (List.range 10).all fun b => (List.range 10).all fun c => decide (tl (numT ((100 * (a + 1) + 10 * b + c : Nat) : Int)) = [49 + a, 48 + b, 48 + c])) = true := by decide +kernel
theorem numT_of {z : Str} (h : NumT z) : ∃ n : Nat, n < 1000 ∧ z = numT (n : Int) := by
  have h1 := h.one
  have h3 := h.most
  have hf := h.figs
  have hh := h.head
  cases e : tl z with
  | nil => rw [e] at h1; cases h1
  | cons a l =>
    rw [e] at h1 h3 hf hh
    have fa := hf a List.mem_cons_self
    cases l with
    | nil =>
      have z1 := List.all_eq_true.mp numT_1 (a - 48) (List.mem_range.mpr (by omega))
      rw [decide_eq_true_eq, show 48 + (a - 48) = a by omega] at z1
      exact ⟨a - 48, by omega, ext_tl (e.trans z1.symm)⟩
    | cons b l =>
      have fb := hf b (List.mem_cons_of_mem _ List.mem_cons_self)
      have ha : a ≠ 48 := by
        rcases hh with q | q
        · cases q
        · exact q
      cases l with
      | nil =>
        have z1 := List.all_eq_true.mp (List.all_eq_true.mp numT_2 (a - 49) (List.mem_range.mpr (by omega))) (b - 48) (List.mem_range.mpr (by omega))
        rw [decide_eq_true_eq, show 49 + (a - 49) = a by omega, show 48 + (b - 48) = b by omega] at z1
        exact ⟨10 * (a - 49 + 1) + (b - 48), by omega, ext_tl (e.trans z1.symm)⟩
      | cons c l =>
        have fc := hf c (List.mem_cons_of_mem _ (List.mem_cons_of_mem _ List.mem_cons_self))
        cases l with
        | nil =>
          have z1 := List.all_eq_true.mp (List.all_eq_true.mp (List.all_eq_true.mp numT_3 (a - 49) (List.mem_range.mpr (by omega))) (b - 48) (List.mem_range.mpr (by omega))) (c - 48) (List.mem_range.mpr (by omega))
          rw [decide_eq_true_eq, show 49 + (a - 49) = a by omega, show 48 + (b - 48) = b by omega, show 48 + (c - 48) = c by omega] at z1
          exact ⟨100 * (a - 49 + 1) + 10 * (b - 48) + (c - 48), by omega, ext_tl (e.trans z1.symm)⟩
        | cons d l => simp at h3
open Classical in
def numO (z : Str) : Option Int := if h : ∃ n : Nat, n < 1000 ∧ z = numT (n : Int) then some (h.choose : Int) else none
theorem numT_inj {i j : Nat} (hi : i < 1000) (hj : j < 1000) (h : numT (i : Int) = numT (j : Int)) : i = j := by
  have a := numT_reads (i := (i : Int)) (by omega) (by omega)
  have b := numT_reads (i := (j : Int)) (by omega) (by omega)
  rw [h, b] at a
  have := Option.some.inj a
  omega
theorem numO_at {n : Nat} (h : n < 1000) : numO (numT (n : Int)) = some (n : Int) := by
  have hx : ∃ k : Nat, k < 1000 ∧ numT (n : Int) = numT (k : Int) := ⟨n, h, rfl⟩
  unfold numO
  rw [dif_pos hx]
  have e := numT_inj h hx.choose_spec.1 hx.choose_spec.2
  rw [← e]
theorem numO_no {z : Str} (h : ¬ NumT z) : numO z = none := by
  unfold numO
  rw [dif_neg]
  rintro ⟨n, hn, e⟩
  exact h (e ▸ numT_ok (by omega) (by omega))
theorem numO_or (z : Str) : (∃ n : Nat, n < 1000 ∧ z = numT (n : Int) ∧ numO z = some (n : Int)) ∨ (¬ NumT z ∧ numO z = none) := by
  by_cases h : NumT z
  · obtain ⟨n, hn, e⟩ := numT_of h
    exact .inl ⟨n, hn, e, e ▸ numO_at hn⟩
  · exact .inr ⟨h, numO_no h⟩
/-- signs that are signs -/
def Sgs (z : Str) : Prop := ∀ c, c ∈ tl z → c < 1114112
theorem numT_sgs {i : Int} (h0 : 0 ≤ i) (h1 : i < 1000) : Sgs (numT i) := fun c hc => by
  have := (numT_ok h0 h1).figs c hc
  omega
/-! a list of signs, none or some -/
def sgn (c : Nat) : D := .str ⟨#[c]⟩
theorem plains_sgn : ∀ cs : List Nat, (∀ c, c ∈ cs → c < 1114112) → plains (cs.map sgn) = true
  | [], _ => rfl
  | c :: r, h => by
    have h1 := h c List.mem_cons_self
    have e : (sgn c).plain = true := by
      show (#[c] : Array Nat).all (· < 0x110000) = true
      simp
      exact h1
    show ((sgn c).plain && plains (r.map sgn)) = true
    rw [e, plains_sgn r fun x hx => h x (List.mem_cons_of_mem _ hx)]
    rfl
theorem deps_sgn : ∀ cs : List Nat, deps (cs.map sgn) ≤ 5
  | [] => by decide
  | c :: r => by
    have ih := deps_sgn r
    show max ((sgn c).dep) (deps (r.map sgn)) ≤ 5
    have e : (sgn c).dep ≤ 5 := by
      unfold sgn
      exact Nat.le_of_ble_eq_true rfl
    omega
theorem ne_nil_of {xs : List D} (hp : plains xs = true) (hd : deps xs ≤ 50) (m : Mem) {β : Type} (k : D → Mem → Rs β) : K2 gNe (.lst xs) (.lst []) m k = k (.bl (!xs.isEmpty)) m := KO_of (by
  have e : eqDeep m (.lst xs) (.lst []) = some xs.isEmpty := by
    unfold eqDeep
    have e1 : res m (.lst xs) = .lst xs := rfl
    have e2 : res m (.lst []) = .lst [] := rfl
    have p1 : (D.lst xs).plain = true := hp
    have d1 : (D.lst xs).dep ≤ 60 := by
      show deps xs + 1 ≤ 60
      omega
    rw [e1, e2, if_pos ⟨p1, rfl, d1, by decide⟩]
    cases xs <;> rfl
  show (eqDeep m (.lst xs) (.lst [])).map (fun b => D.bl (!b)) = _
  rw [e]
  rfl) m k
theorem eq_nil_of {xs : List D} (hp : plains xs = true) (hd : deps xs ≤ 50) (m : Mem) {β : Type} (k : D → Mem → Rs β) : K2 gEq (.lst xs) (.lst []) m k = k (.bl xs.isEmpty) m := KO_of (by
  have e : eqDeep m (.lst xs) (.lst []) = some xs.isEmpty := by
    unfold eqDeep
    have e1 : res m (.lst xs) = .lst xs := rfl
    have e2 : res m (.lst []) = .lst [] := rfl
    have p1 : (D.lst xs).plain = true := hp
    have d1 : (D.lst xs).dep ≤ 60 := by
      show deps xs + 1 ≤ 60
      omega
    rw [e1, e2, if_pos ⟨p1, rfl, d1, by decide⟩]
    cases xs <;> rfl
  show (eqDeep m (.lst xs) (.lst [])).map D.bl = _
  rw [e]
  rfl) m k
def figs10 : List Nat := (Str.ofString "0123456789").cps.toList
theorem figs10_iff : ∀ c, c ∈ figs10 ↔ 48 ≤ c ∧ c ≤ 57 := by
  have e : figs10 = (List.range 10).map (48 + ·) := by decide +kernel
  intro c
  rw [e, List.mem_map]
  constructor
  · rintro ⟨a, ha, rfl⟩
    have := List.mem_range.mp ha
    omega
  · intro h
    exact ⟨c - 48, List.mem_range.mpr (by omega), by omega⟩
def notFig (c : Nat) : Bool := !decide (c ∈ figs10)
theorem notFig_iff (c : Nat) : notFig c = false ↔ 48 ≤ c ∧ c ≤ 57 := by
  unfold notFig
  rw [Bool.not_eq_false', decide_eq_true_eq, figs10_iff]
theorem K2_fig {β : Type} (c : Nat) (m : Mem) (k : D → Mem → Rs β) : K2 gNotInS (.str ⟨#[c]⟩) (.str (Str.ofString "0123456789")) m k = k (.bl (notFig c)) m := KO_of rfl m k
theorem hd0 {z : Str} {c : Nat} {l : List Nat} (h : tl z = c :: l) (hz : z.length ≤ sizeLine) (m : Mem) {β : Type} (k : D → Mem → Rs β) : K2 gIx (.str z) (.int 0) m k = k (.str ⟨#[c]⟩) m := KO_of (by
  show (if z.length ≤ sizeLine then (atD (tl z) 0).map (fun c => D.str ⟨#[c]⟩) else none) = _
  rw [if_pos hz, h, show (0 : Int) = ((0 : Nat) : Int) from rfl, atD_nat]
  rfl) m k
theorem t0 : tl (Str.ofString "0") = [48] := by decide +kernel
theorem c0_iff (c : Nat) : decide ((⟨#[c]⟩ : Str) = Str.ofString "0") = decide (c = 48) := by
  refine decide_eq_decide.mpr ⟨fun e => ?_, fun e => ?_⟩
  · have z : tl (⟨#[c]⟩ : Str) = tl (Str.ofString "0") := by rw [e]
    rw [t0] at z
    exact (List.cons.inj (show [c] = [48] from z)).1
  · rw [e]
    exact ext_tl t0.symm
theorem KN_intS {i : Int} (h0 : 0 ≤ i) (h1 : i < 1000) (m : Mem) {β : Type} (k : D → Mem → Rs β) : KN gIntS [.str (numT i)] m k = k (.int i) m := KO_of (by
  have h3 := (numT_ok h0 h1).most
  have e : (numT i).length ≤ 640 := by
    rw [len_tl]
    omega
  show (if (numT i).length ≤ 640 then (PySem.intText? (numT i)).map D.int else none) = _
  rw [if_pos e, numT_reads h0 h1]
  rfl) m k
theorem number_of_any {z : Str} (hz : z.length ≤ sizeLine) (hs : Sgs z) (m : Mem) : m_number_of [.str z] m = .ok (optD (numO z)) m := by
  rcases numO_or z with ⟨n, hn, rfl, e⟩ | ⟨h, e⟩
  · rw [e]
    exact number_of_run (by omega) (by omega) m
  rw [e, K_start (m_number_of _), m_number_of, f_number_of]
  have hlen : z.length = (tl z).length := len_tl _
  by_cases h1 : 1 ≤ z.length
  · have c1 : decide ((1 : Int) ≤ (z.length : Nat)) = true := decide_eq_true (by omega)
    by_cases h3 : z.length ≤ 3
    · have c2 : decide (((z.length : Nat) : Int) ≤ 3) = true := decide_eq_true (by omega)
      have hsl : (strOf z).length = (tl z).length := List.length_map _
      have hcm := fun (k : List D → Mem → Rs D) => C_filter (w := wkStr z) (g := gNm 1) (t := tV (op2 gNotInS (vr 1) (cn (.str (Str.ofString "0123456789"))))) (e := vr 1) (ρ0 := [some (.str z), none]) (m := m) (n := (strOf z).length) (k := k) (tl z) sgn notFig sgn hsl (by omega) (fun i _ => rfl) (fun c hc => by
        unfold sgn
        simp_arith [↓K_exG_nm, ↓K2_fig]) (fun c hc _ => by
        unfold sgn
        simp_arith [↓K_exG_nm])
      have hpl : plains (((tl z).filter notFig).map sgn) = true := plains_sgn _ fun c hc => hs c (List.mem_filter.mp hc).1
      have hdp : deps (((tl z).filter notFig).map sgn) ≤ 50 := Nat.le_trans (deps_sgn _) (by decide)
      have hne := fun (k : D → Mem → Rs D) (m : Mem) => ne_nil_of hpl hdp m k
      by_cases hf : (tl z).filter notFig = []
      · have hb : (!(((tl z).filter notFig).map sgn).isEmpty) = false := by rw [hf]; rfl
        have hall : ∀ c, c ∈ tl z → 48 ≤ c ∧ c ≤ 57 := fun c hc => by
          rw [← notFig_iff]
          cases q : notFig c with
          | false => rfl
          | true =>
            have z := List.mem_filter.mpr ⟨hc, q⟩
            rw [hf] at z
            cases z
        cases et : tl z with
        | nil => rw [et] at hlen; simp at hlen; omega
        | cons c l =>
          have hh : ¬ (tl z = [48] ∨ (tl z).headD 0 ≠ 48) := fun q => h ⟨by omega, by omega, hall, q⟩
          have c48 : c = 48 := by
            rw [et] at hh
            exact Classical.byContradiction fun q => hh (.inr q)
          have hz2 : decide (z = Str.ofString "0") = false := decide_eq_false fun q => hh (.inl (by rw [q, t0]))
          have hc0 : decide (c = 48) = true := decide_eq_true c48
          simp_arith [↓KN_len_s hz, c1, c2, ↓K_itStr, ↓kStrI_at, ↓hcm, ↓hne, hb, Bool.not_true, ↓K2_eq_s, hz2, ↓hd0 et hz, ↓K2_ne_s, c0_iff, hc0]
          rfl
      · have hb : (!(((tl z).filter notFig).map sgn).isEmpty) = true := by
          cases q : (tl z).filter notFig with
          | nil => exact absurd q hf
          | cons a b => rfl
        simp_arith [↓KN_len_s hz, c1, c2, ↓K_itStr, ↓kStrI_at, ↓hcm, ↓hne, hb, Bool.not_true]
        rfl
    · have c2 : decide (((z.length : Nat) : Int) ≤ 3) = false := decide_eq_false (by omega)
      simp_arith [↓KN_len_s hz, c1, c2, Bool.not_false]
      rfl
  · have c1 : decide ((1 : Int) ≤ (z.length : Nat)) = false := decide_eq_false (by omega)
    simp_arith [↓KN_len_s hz, c1, Bool.not_false]
    rfl
end
end LB

set_option Elab.async false
set_option linter.all false
set_option autoImplicit false
set_option maxRecDepth 100000
set_option maxHeartbeats 2000000
/-! Plain: rows of any words. -/
namespace LB
open PySem L2 TL
noncomputable section
local macro_rules | `(tactic| simp_arith [$as,*]) => `(tactic| simp -implicitDefEqProofs (disch := first | assumption | decide | omega | (simp only [List.length_cons, List.length_nil, Mem.put_n, Mem.new_n, Mem.kill_n]; omega)) only [↓KO_some, ↓K_vr, ↓kVr_0, ↓kVr_s, ↓K_cn, ↓K_pure, ↓K_op2, ↓kOp2a_at, ↓kOp2b_at, ↓K_op1, ↓kOp1_at, ↓K_argN, ↓K_argC, ↓kArg1_at, ↓kArg2_at, ↓K_opN, ↓kOpN_at, ↓K_call, ↓kCall_1, ↓kCall_2, ↓kCall_3, ↓kCall_4, ↓kCall_5, ↓K_tpl, ↓K_lsl, ↓K_lsm, ↓K_dctE, ↓kTpl_0, ↓kTpl_1, ↓kTpl_2, ↓kTpl_3, ↓kTpl_4, ↓kTpl_5, ↓kLsl_0, ↓kLsl_1, ↓kLsl_2, ↓kLsl_3, ↓kLsl_4, ↓kLsm_0, ↓K_tV, ↓kTV_at, ↓K_tAnd, ↓kTAnd_t, ↓kTAnd_f, ↓K_tOr, ↓kTOr_t, ↓kTOr_f, ↓K_tNot, ↓kTNot_t, ↓kTNot_f, ↓kTNot_at, ↓K_tYes, ↓K_vAnd, ↓kVAnd_t, ↓kVAnd_f, ↓K_vOr, ↓kVOr_t, ↓kVOr_f, ↓K_vNot, ↓kVNot_at, ↓K_ifE, ↓kIfE_t, ↓kIfE_f, ↓K_chn, ↓kChn0_at, ↓kChn1_at, ↓kChn2_t, ↓kChn2_f, ↓K_soN, ↓K_soS, ↓kSoS_at, ↓K_slc, ↓kSlc0_at, ↓kSlc1_at, ↓kSlc2_at, ↓KSl_tup, ↓KSl_lst, ↓K_sNext, ↓K_sSeq, ↓kSeq_nx, ↓kSeq_rt, ↓K_sRet, ↓kRet_at, ↓K_sRetN, ↓K_sExp, ↓kExp_at, ↓K_sIf, ↓kIf_t, ↓kIf_f, ↓kSet_0, ↓kSet_s, ↓kUn_c, ↓kUn_n, ↓K_sAsg, ↓kAsg_nm, ↓kAsg_tp, ↓kNms_c, ↓kNmsC_at, ↓kNms_n, ↓K_sPar, ↓kPar1_at, ↓kPar2_at, ↓K_run, ↓kRun_rt, ↓kRun_nx, ↓K2_add_i, ↓K2_sub_i, ↓K2_mul_i, ↓K2_mod_i, ↓K2_fdiv_i, ↓K2_lt_i, ↓K2_le_i, ↓K2_gt_i, ↓K2_ge_i, ↓K2_eq_i, ↓K2_ne_i, ↓K2_eq_st, ↓K2_eq_sf, ↓K2_ne_st, ↓K2_ne_sf, ↓K2_eq_b, ↓K2_add_t, ↓K2_add_l, ↓K1_neg_i, ↓K2_isN_n, ↓K2_isN_i, ↓K2_isN_s, ↓K2_isN_t, ↓K2_isN_l, ↓K2_isN_c, ↓K2_notN_n, ↓K2_notN_i, ↓K2_notN_s, ↓K2_notN_t, ↓K2_notN_l, ↓K2_notN_c, ↓K2_ix_t, ↓K2_ix_l, ↓KIx_0, ↓KIx_1, ↓KIx_2, ↓KIx_3, ↓KIx_4, ↓KIx_m1a, ↓KIx_m1b, ↓KIx_m1c, ↓KIx_m1d, ↓KN_len_t, ↓KN_len_l, ↓KN_max2, ↓KN_min2, ↓KN_int_i, ↓KN_int_t, ↓KN_int_f, ↓KN_tuple_l, ↓KN_tuple_t, ↓KN_maxl, ↓KN_suml, ↓K1_isi_n, ↓K1_isi_b, ↓K1_isi_i, ↓K1_isi_s, ↓K1_isi_t, ↓K1_isi_l, ↓KG_put_eq, ↓KG_put_ne, ↓KG_new_eq, ↓KG_new_ne, ↓KG_kill_ne, ↓K2_ix_c, ↓kIxL_at, ↓KN_len_c, ↓kLenL_l, ↓kLenL_d, ↓KN_tuple_c, ↓kTupL_at, ↓KN_max_c, ↓kMaxL_at, ↓KSl_c, ↓kSlL_at, ↓K_appE, ↓kApp1_at, ↓kApp1b_at, ↓kApp2_at, ↓kApp3_at, ↓K_sLput, ↓kPut1_at, ↓kPut2_at, ↓kPut3_at, ↓kPut4_at, ↓K2_dget_i, ↓K2_dget_s, ↓kDgD_at, ↓KVk_eq, ↓KVk_ne, ↓KVd_eq, ↓KVd_ne, ↓KVd_n, ↓K_dget2, ↓kDg1_at, ↓kDg1b_at, ↓kDg2_at, ↓kDg3_at, ↓kDg4_i, ↓kDg4_s, ↓K_sDput, ↓kDp1_at, ↓kDp2_at, ↓kDp3_i, ↓kDp3_s, ↓kDp4_at, ↓K1_fld, ↓kFldO_at, ↓KFl_eq, ↓KFl_ne, ↓K_sFput, ↓kFp1_at, ↓kFp2_at, ↓kFp3_at, ↓kPf_n, ↓kPf_eq, ↓kPu_c, ↓kPu_n, ↓kPf_ne, ↓K_callM, ↓kMt1_at, ↓kMt2_at, ↓kNo_n, ↓kNo_c, ↓kMt3_0, ↓kMt3_1, ↓kMt3_2, ↓kMt3_3, ↓kMt3_4, ↓K_mkE, ↓kMk_1, ↓kMk_2, ↓kMk_3, ↓kMk2_at, ↓K_sFor, ↓kFor_at, ↓K_itRng1, ↓kRng1_nat, ↓K_itRng2, ↓kRng2_at, ↓K_itSeq, ↓kSeqI_t, ↓kSeqI_l, ↓kSeqI_c, ↓kSeqL_at, ↓K_bodyG_nm, ↓K_bodyG_tp, ↓K_sWhile, ↓kComp_at, ↓K_comp, ↓K_compM, ↓kLst_at, ↓kLstM_at, ↓kEx_at, ↓K_exG_nm, ↓K_exG_tp, ↓kAlc_at, ↓K_opNM, ↓kOpNM_at, ↓KN_list_l2, ↓KN_list_t2, ↓KN_list_c, ↓kListL_at, ↓K_op2M, ↓kOp2Ma_at, ↓kOp2Mb_at, ↓K2_rep1, ↓K_prE_n, ↓K_prE_c, ↓kPr1_at, ↓kPr2_at, ↓kPr3_at, ↓K_dspE, ↓kDsp_s1, ↓kDsp_s2, ↓kDsp_s3, ↓kDsp_s4, ↓K_frz, ↓kFrz_c, ↓kFrz_l, ↓kFrz_t, ↓kFrz_n, ↓kFrzL_at, ↓K_extE, ↓kExt1_at, ↓kExt1b_at, ↓kExt2_at, ↓kExt3_at, ↓K_mt0E, ↓kMt0_at, ↓kMt0L_clear, ↓kMt0L_rev, ↓K2_in_t, ↓K2_in_f, ↓K2_notIn_t, ↓K2_notIn_f, ↓K_itZp, ↓kZp1_at, ↓K_itEn, ↓kEnI_t, ↓kEnI_l, ↓K2_din_i, ↓kDinD_at, ↓KR_put_0, ↓KR_put_1, ↓KR_put_2, ↓KR_put_l, ↓KR_put_into, ↓KR_put_end, ↓KR_put_looked, ↓KR_put_cut, ↓KR_move_0, ↓KR_move_1, ↓KR_move_2, ↓KR_move_l, ↓KR_move_into, ↓KR_move_end, ↓KR_move_looked, ↓KR_move_cut, ↓KR_add_0, ↓KR_add_1, ↓KR_add_2, ↓KR_add_3, ↓KR_add_l, ↓KR_add_into, ↓KR_add_end, ↓KR_add_looked, ↓KR_add_cut, ↓KR_take_0, ↓KR_take_1, ↓KR_take_2, ↓KR_take_3, ↓KR_take_l, ↓KR_take_into, ↓KR_take_end, ↓KR_take_looked, ↓KR_take_cut, ↓KR_times_0, ↓KR_times_1, ↓KR_times_2, ↓KR_times_3, ↓KR_times_l, ↓KR_times_into, ↓KR_times_end, ↓KR_times_looked, ↓KR_times_cut, ↓KR_get_0, ↓KR_get_1, ↓KR_get_2, ↓KR_get_l, ↓KR_get_into, ↓KR_get_end, ↓KR_get_looked, ↓KR_get_cut, ↓KR_set_0, ↓KR_set_1, ↓KR_set_2, ↓KR_set_l, ↓KR_set_into, ↓KR_set_end, ↓KR_set_looked, ↓KR_set_cut, ↓KR_say_0, ↓KR_say_1, ↓KR_say_l, ↓KR_say_into, ↓KR_say_end, ↓KR_say_looked, ↓KR_say_cut, ↓KR_rest_0, ↓KR_rest_l, ↓KR_rest_into, ↓KR_rest_end, ↓KR_rest_looked, ↓KR_rest_cut, ↓KR_go_0, ↓KR_go_1, ↓KR_go_l, ↓KR_go_into, ↓KR_go_end, ↓KR_go_looked, ↓KR_go_cut, ↓KR_ifr_0, ↓KR_ifr_1, ↓KR_ifr_2, ↓KR_ifr_l, ↓KR_ifr_into, ↓KR_ifr_end, ↓KR_ifr_looked, ↓KR_ifr_cut, ↓KR_stop_0, ↓KR_stop_l, ↓KR_stop_into, ↓KR_stop_end, ↓KR_stop_looked, ↓KR_stop_cut, ↓KR_late, ↓KR_far, ↓KR_num, ↓KR_mill_0, ↓KR_mill_1, ↓KR_mill_2, ↓KR_mill_3, ↓KR_pi_len, ↓KA_stop, ↓KA_goes, ↓KA_ends, ↓K_mt1E, ↓kM1_l, ↓kM1_s, ↓kM1b_at, ↓K1_isi_c, ↓kIsiL_at, ↓KN_minl, start0, List.map_cons, List.map_nil, List.length_cons, List.length_nil, List.replicate_succ, List.replicate_zero, Nat.reduceSub, Nat.reduceAdd, wipeE, List.set_cons_zero, List.set_cons_succ, List.cons_append, List.nil_append, $as,*])
def sortsAt (k : Nat) : List Nat := ([[0, 2], [0, 1], [0, 1, 1], [0, 1, 1], [0, 1, 1], [0, 1], [1, 1], [1], [], [3], [1, 3], []] : List (List Nat)).getD k []
def formAt (k : Nat) : Str := (["wn", "wl", "wll", "wll", "wll", "wl", "ll", "l", "", "r", "lr", ""] : List Str).getD k Str.empty
theorem lt12 {p : Nat → Prop} (h : p 0 ∧ p 1 ∧ p 2 ∧ p 3 ∧ p 4 ∧ p 5 ∧ p 6 ∧ p 7 ∧ p 8 ∧ p 9 ∧ p 10 ∧ p 11) {k : Nat} (hk : k < 12) : p k := by
  obtain ⟨h0, h1, h2, h3, h4, h5, h6, h7, h8, h9, ha, hb⟩ := h
  have : k = 0 ∨ k = 1 ∨ k = 2 ∨ k = 3 ∨ k = 4 ∨ k = 5 ∨ k = 6 ∨ k = 7 ∨ k = 8 ∨ k = 9 ∨ k = 10 ∨ k = 11 := by omega
  rcases this with rfl | rfl | rfl | rfl | rfl | rfl | rfl | rfl | rfl | rfl | rfl | rfl <;> assumption
theorem formAt_sorts {k : Nat} (hk : k < 12) : strOf (formAt k) = (sortsAt k).map fun s => D.str (sortZ s) := lt12 (p := fun k => strOf (formAt k) = (sortsAt k).map fun s => D.str (sortZ s)) ⟨rfl, rfl, rfl, rfl, rfl, rfl, rfl, rfl, rfl, rfl, rfl, rfl⟩ hk
theorem formAt_len {k : Nat} (hk : k < 12) : (formAt k).length = (sortsAt k).length := lt12 (p := fun k => (formAt k).length = (sortsAt k).length) ⟨rfl, rfl, rfl, rfl, rfl, rfl, rfl, rfl, rfl, rfl, rfl, rfl⟩ hk
theorem formAt_lk {k : Nat} (hk : k < 12) : tbF.lookup (wordAt k) = some (.str (formAt k)) := lt12 (p := fun k => tbF.lookup (wordAt k) = some (.str (formAt k))) ⟨rfl, rfl, rfl, rfl, rfl, rfl, rfl, rfl, rfl, rfl, rfl, rfl⟩ hk
theorem sortsAt_le {k : Nat} (hk : k < 12) : (sortsAt k).length ≤ 3 := lt12 (p := fun k => (sortsAt k).length ≤ 3) (by decide) hk
def kindOf (w : Str) : Option Nat := (List.range 12).find? fun k => decide (wordAt k = w)
theorem kindOf_some {w : Str} {k : Nat} (h : kindOf w = some k) : k < 12 ∧ w = wordAt k := by
  have h1 := List.find?_some h
  have h2 := List.mem_of_find?_eq_some h
  exact ⟨List.mem_range.mp h2, (of_decide_eq_true h1).symm⟩
theorem kindOf_at {k : Nat} (hk : k < 12) : kindOf (wordAt k) = some k := by
  cases h : kindOf (wordAt k) with
  | none =>
    have z := List.find?_eq_none.mp h k (List.mem_range.mpr hk)
    simp at z
  | some j =>
    obtain ⟨hj, e⟩ := kindOf_some h
    rw [wordAt_inj _ hk _ hj e]
theorem kindOf_none {w : Str} (h : kindOf w = none) : ∀ k, k < 12 → wordAt k ≠ w := fun k hk e => by
  have z := List.find?_eq_none.mp h k (List.mem_range.mpr hk)
  simp [e] at z
theorem lookF_none {w : Str} (h : kindOf w = none) : tbF.lookup w = none := by
  have hn := kindOf_none h
  refine List.lookup_eq_none_iff.mpr fun p hp => ?_
  have hw : ∃ k, k < 12 ∧ p.1 = wordAt k := by
    unfold tbF at hp
    simp only [List.mem_cons, List.not_mem_nil, or_false] at hp
    rcases hp with rfl | rfl | rfl | rfl | rfl | rfl | rfl | rfl | rfl | rfl | rfl | rfl
    · exact ⟨0, by decide, rfl⟩
    · exact ⟨1, by decide, rfl⟩
    · exact ⟨2, by decide, rfl⟩
    · exact ⟨3, by decide, rfl⟩
    · exact ⟨4, by decide, rfl⟩
    · exact ⟨5, by decide, rfl⟩
    · exact ⟨6, by decide, rfl⟩
    · exact ⟨7, by decide, rfl⟩
    · exact ⟨8, by decide, rfl⟩
    · exact ⟨9, by decide, rfl⟩
    · exact ⟨10, by decide, rfl⟩
    · exact ⟨11, by decide, rfl⟩
  obtain ⟨k, hk, e⟩ := hw
  have := hn k hk
  rw [← e] at this
  simpa using fun q => this q.symm
theorem notInF {β : Type} (w : Str) (m : Mem) (k : D → Mem → Rs β) : K1 (gNotInK tbF) (.str w) m k = k (.bl (kindOf w).isNone) m := KO_of (by
  show some (D.bl (!(tbF.lookup w).isSome)) = _
  cases h : kindOf w with
  | none => rw [lookF_none h]; rfl
  | some j =>
    obtain ⟨hj, rfl⟩ := kindOf_some h
    rw [formAt_lk hj]
    rfl) m k
theorem getF {β : Type} {j : Nat} (hj : j < 12) (m : Mem) (k : D → Mem → Rs β) : K1 (gGetK tbF) (.str (wordAt j)) m k = k (.str (formAt j)) m := KO_of (formAt_lk hj) m k
/-! a row's parts, numbers or none -/
def okO (rows : Int) (q : Option Int × Nat) : Bool := match q.1 with
  | some i => numB i 0 (most rows q.2 - 1)
  | none => false
def isR (k : Nat) (os : List (Option Int)) (rows : Int) : Bool := decide (os.length = (sortsAt k).length) && (os.zip (sortsAt k)).all (okO rows)
theorem is_number_opt (o : Option Int) (lo hi : Int) (m : Mem) : m_is_number [optD o, .int lo, .int hi] m = .ok (.bl (match o with | some i => numB i lo hi | none => false)) m := by
  cases o with
  | none => rfl
  | some i => exact is_number_int i lo hi m
def pairO (q : Option Int × Nat) : D := .tup [optD q.1, .str (sortZ q.2)]
theorem zip_pairO : ∀ (xs : List (Option Int)) (ys : List Nat), List.zipWith (fun x y => D.tup [x, y]) (xs.map optD) (ys.map fun s => D.str (sortZ s)) = (xs.zip ys).map pairO
  | [], _ => by simp
  | _ :: _, [] => by simp
  | x :: xs, y :: ys => by
    rw [List.map_cons, List.map_cons, List.zipWith_cons_cons, List.zip_cons_cons, List.map_cons, zip_pairO xs ys]
    rfl
theorem plains_opt : ∀ xs : List (Option Int), plains (xs.map optD) = true
  | [] => rfl
  | none :: r => plains_opt r
  | some _ :: r => plains_opt r
theorem deps_opt : ∀ xs : List (Option Int), deps (xs.map optD) = 0
  | [] => rfl
  | none :: r => by
    show max 0 (deps (r.map optD)) = 0
    rw [deps_opt r]
    rfl
  | some _ :: r => by
    show max 0 (deps (r.map optD)) = 0
    rw [deps_opt r]
    rfl
theorem rowO_ne_nil {k : Nat} (hk : k < 12) (os : List (Option Int)) (m : Mem) {β : Type} (kk : D → Mem → Rs β) : K2 gEq (.tup (.str (wordAt k) :: os.map optD)) (.tup []) m kk = kk (.bl false) m := KO_of (by
  have hp : (D.tup (.str (wordAt k) :: os.map optD)).plain = true := by
    show ((D.str (wordAt k)).plain && plains (os.map optD)) = true
    rw [plains_opt, word_plain _ hk]
    rfl
  have hd : (D.tup (.str (wordAt k) :: os.map optD)).dep ≤ 60 := by
    show max 0 (deps (os.map optD)) + 1 ≤ 60
    rw [deps_opt]
    decide
  have h : eqDeep m (.tup (.str (wordAt k) :: os.map optD)) (.tup []) = some false := by
    unfold eqDeep
    have e1 : res m (.tup (.str (wordAt k) :: os.map optD)) = .tup (.str (wordAt k) :: os.map optD) := rfl
    have e2 : res m (.tup []) = .tup [] := rfl
    rw [e1, e2, if_pos ⟨hp, rfl, hd, by decide⟩]
    rfl
  show (eqDeep m (.tup (.str (wordAt k) :: os.map optD)) (.tup [])).map D.bl = _
  rw [h]
  rfl) m kk
theorem all_okO (rows : Int) : ∀ zs : List (Option Int × Nat), ((zs.filter fun q => !okO rows q).map fun q => optD q.1).isEmpty = zs.all (okO rows)
  | [] => rfl
  | q :: r => by
    have ih := all_okO rows r
    cases h : okO rows q with
    | true =>
      rw [List.filter_cons_of_neg (by rw [h]; decide), List.all_cons, h, ih]
      rfl
    | false =>
      rw [List.filter_cons_of_pos (by rw [h]; decide), List.all_cons, h]
      rfl
theorem is_row_any {k : Nat} (hk : k < 12) (os : List (Option Int)) (rows : Int) (hl : os.length ≤ 1000000) (m : Mem) : WP (run 6 f_is_row [.tup (.str (wordAt k) :: os.map optD), .int rows] m) (fun d m2 => d = .bl (isR k os rows) ∧ Keep m m2) fun _ _ => False := by
  rw [K_start (run 6 f_is_row _), f_is_row]
  have hz : (kindOf (wordAt k)).isNone = false := by rw [kindOf_at hk]; rfl
  have hfl : (formAt k).length ≤ sizeLine := by
    rw [formAt_len hk]
    exact Nat.le_trans (sortsAt_le hk) (by decide)
  have ht : (!("tuple" : String) == "tuple") = false := by decide
  have hs : (!("str" : String) == "str") = false := by decide
  simp_arith [↓rowO_ne_nil hk, ↓notInF, hz, ↓getF hk, ↓KN_len_s hfl, Bool.not_true, KIx_0, ht, hs]
  have hll : (os.map optD).length = os.length := List.length_map _
  by_cases he : os.length = (sortsAt k).length
  · have c1 : decide ((((os.map optD).length + 1 : Nat) : Int) = ((formAt k).length : Nat) + 1) = true := decide_eq_true (by rw [hll, formAt_len hk]; omega)
    have hsl := sortsAt_le hk
    have hstr : wlkOf (m.new (.dct [(.inr "w", .int 8), (.inr "l", .int 8), (.inr "n", .int 1000), (.inr "r", .int rows)])) (.str (formAt k)) = some ((sortsAt k).map fun s => D.str (sortZ s)) := by
      show some (strOf (formAt k)) = _
      rw [formAt_sorts hk]
    have hzl : min (os.map optD).length ((sortsAt k).map fun s => D.str (sortZ s)).length = (os.zip (sortsAt k)).length := by
      rw [List.length_zip, List.length_map, List.length_map]
    have hw : ∀ i, i ≤ (os.zip (sortsAt k)).length → wkZp (.tup (os.map optD)) (.str (formAt k)) i (m.new (.dct [(.inr "w", .int 8), (.inr "l", .int 8), (.inr "n", .int 1000), (.inr "r", .int rows)])) = some (((os.zip (sortsAt k)).map pairO)[i]?) := fun i hi => by
      have z := wkZp_eq (m := m.new (.dct [(.inr "w", .int 8), (.inr "l", .int 8), (.inr "n", .int 1000), (.inr "r", .int rows)])) (d := .tup (os.map optD)) (e := .str (formAt k)) (xs := os.map optD) (ys := (sortsAt k).map fun s => D.str (sortZ s)) rfl hstr i (by rw [zip_pairO, List.length_map]; exact hi)
      rw [zip_pairO] at z
      exact z
    have hdg : ∀ (s : Nat) (kk : D → Mem → Rs Bool), K2 gDget (.loc m.n) (.str (sortZ s)) (m.new (.dct [(.inr "w", .int 8), (.inr "l", .int 8), (.inr "n", .int 1000), (.inr "r", .int rows)])) kk = kk (.int (most rows s)) (m.new (.dct [(.inr "w", .int 8), (.inr "l", .int 8), (.inr "n", .int 1000), (.inr "r", .int rows)])) := fun s kk => KO_of (by
      show (dctOf (m.new (.dct (kvM rows))) (.loc m.n)).bind (fun kvs => (keyOf (.str (sortZ s))).bind fun k => valK kvs k) = _
      rw [dctOf_new]
      exact kvM_at rows s) _ kk
    have hcm := fun (kk : List D → Mem → Rs D) => C_filter (w := wkZp (.tup (os.map optD)) (.str (formAt k))) (g := gTp [4, 5]) (t := LB.tNot (tV (callN 3 m_is_number (argC (vr 4) (argC (cn (.int 0)) (argC (op2 gSub (op2 gDget (vr 2) (vr 5)) (cn (.int 1))) (argN))))))) (e := vr 4) (ρ0 := [some (.tup (.str (wordAt k) :: os.map optD)), some (.int rows), some (.loc m.n), some (.str (formAt k)), none, none]) (m := m.new (.dct [(.inr "w", .int 8), (.inr "l", .int 8), (.inr "n", .int 1000), (.inr "r", .int rows)])) (n := (os.zip (sortsAt k)).length) (k := kk) (os.zip (sortsAt k)) pairO (fun q => !okO rows q) (fun q => optD q.1) rfl (by rw [List.length_zip]; exact Nat.le_trans (Nat.min_le_right _ _) (Nat.le_trans hsl (by decide))) hw (fun q hq => by
      unfold pairO
      simp_arith [↓K_exG_tp, ↓hdg, ↓KF_ok (is_number_opt q.1 0 (most rows q.2 - 1) _)]
      rfl) (fun q hq _ => by
      unfold pairO
      simp_arith [↓K_exG_tp])
    have hpl : plains ((((os.zip (sortsAt k)).filter fun q => !okO rows q).map fun q => optD q.1)) = true := by
      have z := plains_opt (((os.zip (sortsAt k)).filter fun q => !okO rows q).map (·.1))
      rw [List.map_map] at z
      exact z
    have hdp : deps ((((os.zip (sortsAt k)).filter fun q => !okO rows q).map fun q => optD q.1)) ≤ 50 := by
      have z := deps_opt (((os.zip (sortsAt k)).filter fun q => !okO rows q).map (·.1))
      rw [List.map_map] at z
      exact Nat.le_trans (Nat.le_of_eq z) (by decide)
    have hzp := fun (kk : Wk × Nat → Mem → Rs D) => kZp2_of (d := .tup (os.map optD)) (e := .str (formAt k)) (xs := os.map optD) (m := m.new (.dct [(.inr "w", .int 8), (.inr "l", .int 8), (.inr "n", .int 1000), (.inr "r", .int rows)])) rfl hstr kk
    simp_arith [c1, Bool.not_true, cut1, List.drop_succ_cons, List.drop_zero, ↓hzp, hzl, ↓hcm, ↓eq_nil_of hpl hdp, all_okO]
    refine .ok ⟨?_, .new _ _⟩
    unfold isR
    rw [decide_eq_true he]
    rfl
  · have c1 : decide ((((os.map optD).length + 1 : Nat) : Int) = ((formAt k).length : Nat) + 1) = false := decide_eq_false (by rw [hll, formAt_len hk]; omega)
    simp_arith [c1, Bool.not_false]
    refine .ok ⟨?_, .new _ _⟩
    unfold isR
    rw [decide_eq_false he]
    rfl
theorem is_row_wp {k : Nat} (hk : k < 12) (os : List (Option Int)) (rows : Int) (hl : os.length ≤ 1000000) (m : Mem) : WP (m_is_row [.tup (.str (wordAt k) :: os.map optD), .int rows] m) (fun d m2 => d = .bl (isR k os rows) ∧ Keep m m2) fun _ _ => False := by
  have z := is_row_any hk os rows hl m
  by_cases c : ∃ a, encRI a = [.tup (.str (wordAt k) :: os.map optD), .int rows]
  · obtain ⟨⟨r, rw⟩, e⟩ := c
    rw [← e] at z ⊢
    obtain ⟨m2, e2, _⟩ := is_row_run r rw m
    rw [e2] at z
    have z2 := (WP_iff.mp z).1
    have z3 : m_is_row (encRI (r, rw)) m = .ok (.bl (r.okB rw)) m := is_row_row r rw m
    rw [z3, z2]
    exact .ok ⟨rfl, .refl _⟩
  · have z3 : m_is_row [.tup (.str (wordAt k) :: os.map optD), .int rows] m = run 6 f_is_row [.tup (.str (wordAt k) :: os.map optD), .int rows] m := specOr_no c m
    rw [z3]
    exact z
/-! the words of a text -/
theorem one_sp : Str.ofString " " = ⟨#[32]⟩ := by decide +kernel
theorem one_nl : Str.ofString "\n" = ⟨#[10]⟩ := by decide +kernel
theorem split_nil32 : Txt.split (⟨#[]⟩ : Str) ⟨#[32]⟩ = [⟨#[]⟩] := by decide +kernel
theorem split_nil10 : Txt.split (⟨#[]⟩ : Str) ⟨#[10]⟩ = [⟨#[]⟩] := by decide +kernel
theorem split_pos32 (z : Str) : Txt.split z ⟨#[32]⟩ ≠ [] := fun e => by
  have h := StrLaws.join_split z ⟨#[32]⟩
  rw [e] at h
  have hz : z = ⟨#[]⟩ := h.symm
  rw [hz, split_nil32] at e
  cases e
theorem split_pos10 (z : Str) : Txt.split z ⟨#[10]⟩ ≠ [] := fun e => by
  have h := StrLaws.join_split z ⟨#[10]⟩
  rw [e] at h
  have hz : z = ⟨#[]⟩ := h.symm
  rw [hz, split_nil10] at e
  cases e
theorem joinL_mem {S : List Nat} {c : Nat} : ∀ (ps : List (List Nat)) (p : List Nat), p ∈ ps → c ∈ p → c ∈ joinL S ps
  | [], _, h, _ => by cases h
  | [q], p, h, hc => by
    rw [List.mem_singleton.mp h] at hc
    exact hc
  | q :: r :: t, p, h, hc => by
    show c ∈ q ++ (S ++ joinL S (r :: t))
    rcases List.mem_cons.mp h with e | h
    · rw [e] at hc
      exact List.mem_append_left _ hc
    · exact List.mem_append_right _ (List.mem_append_right _ (joinL_mem (r :: t) p h hc))
theorem split_mem {z y p : Str} (hp : p ∈ Txt.split z y) {c : Nat} (hc : c ∈ tl p) : c ∈ tl z := by
  have e := StrLaws.join_split z y
  have h := joinL_mem (S := tl y) ((Txt.split z y).map tl) (tl p) (List.mem_map_of_mem hp) hc
  rw [← tl_join, e] at h
  exact h
theorem sum_mem {a : Nat} : ∀ (xs : List Nat), a ∈ xs → a ≤ xs.sum
  | [], h => by cases h
  | x :: r, h => by
    rw [List.sum_cons]
    rcases List.mem_cons.mp h with e | h
    · omega
    · have := sum_mem r h
      omega
theorem split_sum (z : Str) (c : Nat) : ((Txt.split z ⟨#[c]⟩).map (·.length)).sum + (Txt.split z ⟨#[c]⟩).length ≤ z.length + 1 := PyProof.Rows.split_weight z ⟨#[c]⟩ (Nat.le_of_eq rfl)
theorem split_each {z p : Str} {c : Nat} (hp : p ∈ Txt.split z ⟨#[c]⟩) : p.length ≤ z.length := by
  have h := split_sum z c
  have h2 := sum_mem _ (List.mem_map_of_mem (f := fun p : Str => p.length) hp)
  have h3 := List.length_pos_of_mem hp
  omega
theorem split_count (z : Str) (c : Nat) : (Txt.split z ⟨#[c]⟩).length ≤ z.length + 1 := by
  have h := split_sum z c
  omega
theorem split_sgs {z p : Str} {c : Nat} (h : Sgs z) (hp : p ∈ Txt.split z ⟨#[c]⟩) : Sgs p := fun x hx => h x (split_mem hp hx)
theorem K2_split {β : Type} {z : Str} {s : Str} {c : Nat} (hs : s = ⟨#[c]⟩) (hz : z.length + 2 ≤ sizeLine) (m : Mem) (k : D → Mem → Rs β) : K2 gSplit (.str z) (.str s) m k = k (.lst ((Txt.split z ⟨#[c]⟩).map D.str)) m := KO_of (by
  subst hs
  show (if ((⟨#[c]⟩ : Str).length == 0) = false ∧ z.length + 2 ≤ sizeLine then some (D.lst ((Txt.split z ⟨#[c]⟩).map D.str)) else none) = _
  rw [if_pos ⟨rfl, hz⟩]) m k
/-- the row of a line -/
def lineW (ws : List Str) (rows : Int) : D := match ws with
  | [] => .non
  | w :: r => match kindOf w with
    | none => .non
    | some k => if isR k (r.map numO) rows = true then .tup (.str w :: (r.map numO).map optD) else .non
def lineD (z : Str) (rows : Int) : D := lineW (Txt.split z ⟨#[32]⟩) rows
theorem row_of_any {z : Str} (hz : z.length ≤ 1000000) (hs : Sgs z) (rows : Int) (m : Mem) : WP (m_row_of [.str z, .int rows] m) (fun d m2 => d = lineD z rows ∧ Keep m m2) fun _ _ => False := by
  have big : (2000000 : Nat) ≤ sizeLine := by decide
  have hn := split_count z 32
  unfold lineD
  cases hw : Txt.split z ⟨#[32]⟩ with
  | nil => exact absurd hw (split_pos32 z)
  | cons w r =>
    rw [hw, List.length_cons] at hn
    have hmem : ∀ y, y ∈ r → y.length ≤ z.length ∧ Sgs y := fun y hy => by
      have h : y ∈ Txt.split z ⟨#[32]⟩ := by
        rw [hw]
        exact List.mem_cons_of_mem _ hy
      exact ⟨split_each h, split_sgs hs h⟩
    have hsp := fun (m : Mem) (k : D → Mem → Rs D) => K2_split (z := z) one_sp (by omega) m k
    rw [K_start (m_row_of _), m_row_of, f_row_of]
    cases hk : kindOf w with
    | none =>
      have hz : (kindOf w).isNone = true := by rw [hk]; rfl
      simp_arith [↓hsp, hw, List.map_cons, KIx_0, ↓notInF, hz]
      refine .ok ⟨?_, .refl _⟩
      simp only [lineW, hk]
    | some k =>
      obtain ⟨hk12, rfl⟩ := kindOf_some hk
      have hz : (kindOf (wordAt k)).isNone = false := by rw [hk]; rfl
      have hcm := fun (kk : List D → Mem → Rs D) => C_map (w := wkSeq (.lst (r.map D.str))) (g := gNm 4) (e := callN 1 m_number_of (argC (vr 4) (argN))) (ρ0 := [some (.str z), some (.int rows), some (.lst (.str (wordAt k) :: r.map D.str)), none, none]) (m := m) (n := (r.map D.str).length) (k := kk) r D.str (fun y => optD (numO y)) (List.length_map _) (by omega) (fun i _ => rfl) (fun _ _ => rfl) (fun y hy => by
        simp_arith [↓K_exG_nm, ↓KF_ok (number_of_any (z := y) (by have := (hmem y hy).1; omega) (hmem y hy).2 m)])
      have hmm : (r.map fun y => optD (numO y)) = (r.map numO).map optD := by rw [List.map_map]; rfl
      have hadd : [D.str (wordAt k)].length + ((r.map numO).map optD).length ≤ sizeLine := by
        rw [List.length_map, List.length_map]
        simp only [List.length_cons, List.length_nil]
        omega
      simp_arith [↓hsp, hw, List.map_cons, KIx_0, ↓notInF, hz, cut1, List.drop_succ_cons, List.drop_zero, ↓hcm, hmm]
      refine WP_F (is_row_wp hk12 (r.map numO) rows (by rw [List.length_map]; omega) m) fun d m2 q => ?_
      obtain ⟨rfl, k2⟩ := q
      have e : lineW (wordAt k :: r) rows = if isR k (r.map numO) rows = true then .tup (.str (wordAt k) :: (r.map numO).map optD) else .non := by simp only [lineW, hk]
      rw [e]
      cases hb : isR k (r.map numO) rows with
      | true =>
        simp_arith []
        exact .ok ⟨rfl, k2⟩
      | false =>
        simp_arith []
        exact .ok ⟨rfl, k2⟩
end
end LB

set_option Elab.async false
set_option linter.all false
set_option autoImplicit false
set_option maxRecDepth 100000
set_option maxHeartbeats 2000000
/-! Plain: any text, read. -/
namespace LB
open PySem L2 TL
noncomputable section
local macro_rules | `(tactic| simp_arith [$as,*]) => `(tactic| simp -implicitDefEqProofs (disch := first | assumption | decide | omega | (simp only [List.length_cons, List.length_nil, Mem.put_n, Mem.new_n, Mem.kill_n]; omega)) only [↓KO_some, ↓K_vr, ↓kVr_0, ↓kVr_s, ↓K_cn, ↓K_pure, ↓K_op2, ↓kOp2a_at, ↓kOp2b_at, ↓K_op1, ↓kOp1_at, ↓K_argN, ↓K_argC, ↓kArg1_at, ↓kArg2_at, ↓K_opN, ↓kOpN_at, ↓K_call, ↓kCall_1, ↓kCall_2, ↓kCall_3, ↓kCall_4, ↓kCall_5, ↓K_tpl, ↓K_lsl, ↓K_lsm, ↓K_dctE, ↓kTpl_0, ↓kTpl_1, ↓kTpl_2, ↓kTpl_3, ↓kTpl_4, ↓kTpl_5, ↓kLsl_0, ↓kLsl_1, ↓kLsl_2, ↓kLsl_3, ↓kLsl_4, ↓kLsm_0, ↓K_tV, ↓kTV_at, ↓K_tAnd, ↓kTAnd_t, ↓kTAnd_f, ↓K_tOr, ↓kTOr_t, ↓kTOr_f, ↓K_tNot, ↓kTNot_t, ↓kTNot_f, ↓kTNot_at, ↓K_tYes, ↓K_vAnd, ↓kVAnd_t, ↓kVAnd_f, ↓K_vOr, ↓kVOr_t, ↓kVOr_f, ↓K_vNot, ↓kVNot_at, ↓K_ifE, ↓kIfE_t, ↓kIfE_f, ↓K_chn, ↓kChn0_at, ↓kChn1_at, ↓kChn2_t, ↓kChn2_f, ↓K_soN, ↓K_soS, ↓kSoS_at, ↓K_slc, ↓kSlc0_at, ↓kSlc1_at, ↓kSlc2_at, ↓KSl_tup, ↓KSl_lst, ↓K_sNext, ↓K_sSeq, ↓kSeq_nx, ↓kSeq_rt, ↓K_sRet, ↓kRet_at, ↓K_sRetN, ↓K_sExp, ↓kExp_at, ↓K_sIf, ↓kIf_t, ↓kIf_f, ↓kSet_0, ↓kSet_s, ↓kUn_c, ↓kUn_n, ↓K_sAsg, ↓kAsg_nm, ↓kAsg_tp, ↓kNms_c, ↓kNmsC_at, ↓kNms_n, ↓K_sPar, ↓kPar1_at, ↓kPar2_at, ↓K_run, ↓kRun_rt, ↓kRun_nx, ↓K2_add_i, ↓K2_sub_i, ↓K2_mul_i, ↓K2_mod_i, ↓K2_fdiv_i, ↓K2_lt_i, ↓K2_le_i, ↓K2_gt_i, ↓K2_ge_i, ↓K2_eq_i, ↓K2_ne_i, ↓K2_eq_st, ↓K2_eq_sf, ↓K2_ne_st, ↓K2_ne_sf, ↓K2_eq_b, ↓K2_add_t, ↓K2_add_l, ↓K1_neg_i, ↓K2_isN_n, ↓K2_isN_i, ↓K2_isN_s, ↓K2_isN_t, ↓K2_isN_l, ↓K2_isN_c, ↓K2_notN_n, ↓K2_notN_i, ↓K2_notN_s, ↓K2_notN_t, ↓K2_notN_l, ↓K2_notN_c, ↓K2_ix_t, ↓K2_ix_l, ↓KIx_0, ↓KIx_1, ↓KIx_2, ↓KIx_3, ↓KIx_4, ↓KIx_m1a, ↓KIx_m1b, ↓KIx_m1c, ↓KIx_m1d, ↓KN_len_t, ↓KN_len_l, ↓KN_max2, ↓KN_min2, ↓KN_int_i, ↓KN_int_t, ↓KN_int_f, ↓KN_tuple_l, ↓KN_tuple_t, ↓KN_maxl, ↓KN_suml, ↓K1_isi_n, ↓K1_isi_b, ↓K1_isi_i, ↓K1_isi_s, ↓K1_isi_t, ↓K1_isi_l, ↓KG_put_eq, ↓KG_put_ne, ↓KG_new_eq, ↓KG_new_ne, ↓KG_kill_ne, ↓K2_ix_c, ↓kIxL_at, ↓KN_len_c, ↓kLenL_l, ↓kLenL_d, ↓KN_tuple_c, ↓kTupL_at, ↓KN_max_c, ↓kMaxL_at, ↓KSl_c, ↓kSlL_at, ↓K_appE, ↓kApp1_at, ↓kApp1b_at, ↓kApp2_at, ↓kApp3_at, ↓K_sLput, ↓kPut1_at, ↓kPut2_at, ↓kPut3_at, ↓kPut4_at, ↓K2_dget_i, ↓K2_dget_s, ↓kDgD_at, ↓KVk_eq, ↓KVk_ne, ↓KVd_eq, ↓KVd_ne, ↓KVd_n, ↓K_dget2, ↓kDg1_at, ↓kDg1b_at, ↓kDg2_at, ↓kDg3_at, ↓kDg4_i, ↓kDg4_s, ↓K_sDput, ↓kDp1_at, ↓kDp2_at, ↓kDp3_i, ↓kDp3_s, ↓kDp4_at, ↓K1_fld, ↓kFldO_at, ↓KFl_eq, ↓KFl_ne, ↓K_sFput, ↓kFp1_at, ↓kFp2_at, ↓kFp3_at, ↓kPf_n, ↓kPf_eq, ↓kPu_c, ↓kPu_n, ↓kPf_ne, ↓K_callM, ↓kMt1_at, ↓kMt2_at, ↓kNo_n, ↓kNo_c, ↓kMt3_0, ↓kMt3_1, ↓kMt3_2, ↓kMt3_3, ↓kMt3_4, ↓K_mkE, ↓kMk_1, ↓kMk_2, ↓kMk_3, ↓kMk2_at, ↓K_sFor, ↓kFor_at, ↓K_itRng1, ↓kRng1_nat, ↓K_itRng2, ↓kRng2_at, ↓K_itSeq, ↓kSeqI_t, ↓kSeqI_l, ↓kSeqI_c, ↓kSeqL_at, ↓K_bodyG_nm, ↓K_bodyG_tp, ↓K_sWhile, ↓kComp_at, ↓K_comp, ↓K_compM, ↓kLst_at, ↓kLstM_at, ↓kEx_at, ↓K_exG_nm, ↓K_exG_tp, ↓kAlc_at, ↓K_opNM, ↓kOpNM_at, ↓KN_list_l2, ↓KN_list_t2, ↓KN_list_c, ↓kListL_at, ↓K_op2M, ↓kOp2Ma_at, ↓kOp2Mb_at, ↓K2_rep1, ↓K_prE_n, ↓K_prE_c, ↓kPr1_at, ↓kPr2_at, ↓kPr3_at, ↓K_dspE, ↓kDsp_s1, ↓kDsp_s2, ↓kDsp_s3, ↓kDsp_s4, ↓K_frz, ↓kFrz_c, ↓kFrz_l, ↓kFrz_t, ↓kFrz_n, ↓kFrzL_at, ↓K_extE, ↓kExt1_at, ↓kExt1b_at, ↓kExt2_at, ↓kExt3_at, ↓K_mt0E, ↓kMt0_at, ↓kMt0L_clear, ↓kMt0L_rev, ↓K2_in_t, ↓K2_in_f, ↓K2_notIn_t, ↓K2_notIn_f, ↓K_itZp, ↓kZp1_at, ↓K_itEn, ↓kEnI_t, ↓kEnI_l, ↓K2_din_i, ↓kDinD_at, ↓KR_put_0, ↓KR_put_1, ↓KR_put_2, ↓KR_put_l, ↓KR_put_into, ↓KR_put_end, ↓KR_put_looked, ↓KR_put_cut, ↓KR_move_0, ↓KR_move_1, ↓KR_move_2, ↓KR_move_l, ↓KR_move_into, ↓KR_move_end, ↓KR_move_looked, ↓KR_move_cut, ↓KR_add_0, ↓KR_add_1, ↓KR_add_2, ↓KR_add_3, ↓KR_add_l, ↓KR_add_into, ↓KR_add_end, ↓KR_add_looked, ↓KR_add_cut, ↓KR_take_0, ↓KR_take_1, ↓KR_take_2, ↓KR_take_3, ↓KR_take_l, ↓KR_take_into, ↓KR_take_end, ↓KR_take_looked, ↓KR_take_cut, ↓KR_times_0, ↓KR_times_1, ↓KR_times_2, ↓KR_times_3, ↓KR_times_l, ↓KR_times_into, ↓KR_times_end, ↓KR_times_looked, ↓KR_times_cut, ↓KR_get_0, ↓KR_get_1, ↓KR_get_2, ↓KR_get_l, ↓KR_get_into, ↓KR_get_end, ↓KR_get_looked, ↓KR_get_cut, ↓KR_set_0, ↓KR_set_1, ↓KR_set_2, ↓KR_set_l, ↓KR_set_into, ↓KR_set_end, ↓KR_set_looked, ↓KR_set_cut, ↓KR_say_0, ↓KR_say_1, ↓KR_say_l, ↓KR_say_into, ↓KR_say_end, ↓KR_say_looked, ↓KR_say_cut, ↓KR_rest_0, ↓KR_rest_l, ↓KR_rest_into, ↓KR_rest_end, ↓KR_rest_looked, ↓KR_rest_cut, ↓KR_go_0, ↓KR_go_1, ↓KR_go_l, ↓KR_go_into, ↓KR_go_end, ↓KR_go_looked, ↓KR_go_cut, ↓KR_ifr_0, ↓KR_ifr_1, ↓KR_ifr_2, ↓KR_ifr_l, ↓KR_ifr_into, ↓KR_ifr_end, ↓KR_ifr_looked, ↓KR_ifr_cut, ↓KR_stop_0, ↓KR_stop_l, ↓KR_stop_into, ↓KR_stop_end, ↓KR_stop_looked, ↓KR_stop_cut, ↓KR_late, ↓KR_far, ↓KR_num, ↓KR_mill_0, ↓KR_mill_1, ↓KR_mill_2, ↓KR_mill_3, ↓KR_pi_len, ↓KA_stop, ↓KA_goes, ↓KA_ends, ↓K_mt1E, ↓kM1_l, ↓kM1_s, ↓kM1b_at, ↓K1_isi_c, ↓kIsiL_at, ↓KN_minl, start0, List.map_cons, List.map_nil, List.length_cons, List.length_nil, List.replicate_succ, List.replicate_zero, Nat.reduceSub, Nat.reduceAdd, wipeE, List.set_cons_zero, List.set_cons_succ, List.cons_append, List.nil_append, $as,*])
def isNonD : D → Bool
  | .non => true
  | _ => false
theorem K2_isNon {β : Type} (d : D) (m : Mem) (k : D → Mem → Rs β) : K2 gIsN d .non m k = k (.bl (isNonD d)) m := by cases d <;> rfl
def rowD (ls : List Str) (i : Nat) : D := lineD (ls.getD i Str.empty) ls.length
def badK (ls : List Str) (i : Nat) : Bool := isNonD (rowD ls i) || decide (199 < i)
def badsL (ls : List Str) : List Nat := (List.range ls.length).filter (badK ls)
def rowsD (ls : List Str) : List D := (List.range ls.length).map (rowD ls)
theorem bads_of {ls : List Str} {i : Nat} (hi : i < ls.length) (hb : badK ls i = true) (hn : ∀ j, j < i → badK ls j = false) : ∃ t, badsL ls = i :: t := by
  have h : (badsL ls).head? = some i := by
    unfold badsL
    rw [List.head?_filter]
    exact List.find?_range_eq_some.mpr ⟨hb, List.mem_range.mpr hi, fun j hj => by rw [hn j hj]; rfl⟩
  cases hs : badsL ls with
  | nil => rw [hs] at h; cases h
  | cons a t =>
    rw [hs] at h
    cases h
    exact ⟨t, rfl⟩
theorem bads_nil {ls : List Str} (hn : ∀ j, j < ls.length → badK ls j = false) : badsL ls = [] := List.filter_eq_nil_iff.mpr fun j hj => by
  rw [hn j (List.mem_range.mp hj)]
  decide
theorem read_any {z : Str} (hz : z.length ≤ 1000000) (hs : Sgs z) (m : Mem) : WP (m_read [.str z] m) (fun d m2 => badsL (Txt.split z ⟨#[10]⟩) = [] ∧ d = .tup (rowsD (Txt.split z ⟨#[10]⟩)) ∧ Keep m m2) fun er m2 => ∃ b t, badsL (Txt.split z ⟨#[10]⟩) = b :: t ∧ er = ⟨11, some (.int (b : Nat))⟩ ∧ Keep m m2 := by
  have big : (2000000 : Nat) ≤ sizeLine := by decide
  have hn := split_count z 10
  have hmem : ∀ y, y ∈ Txt.split z ⟨#[10]⟩ → y.length ≤ 1000000 ∧ Sgs y := fun y hy => ⟨Nat.le_trans (split_each hy) hz, split_sgs hs hy⟩
  have hsp := fun (m : Mem) (k : D → Mem → Rs D) => K2_split (z := z) one_nl (by omega) m k
  generalize Txt.split z ⟨#[10]⟩ = ls at *
  have hll : (ls.map D.str).length = ls.length := List.length_map _
  have hn62 : ls.length < 4611686018427387904 := by omega
  rw [K_start (m_read _), m_read, f_read]
  simp_arith [↓hsp, ↓hll, hll, ↓K_sFor, ↓kRng1_nat]
  refine W_rng (fun i ρ m2 => i ≤ ls.length ∧ m.n < m2.n ∧ m2.get m.n = some (.lst ((List.range i).map (rowD ls))) ∧ Keep m m2 ∧ (∀ j, j < i → badK ls j = false) ∧ ∃ a b, ρ = [some (.str z), some (.lst (ls.map D.str)), some (.loc m.n), a, b]) ⟨Nat.zero_le _, Nat.lt_succ_self _, if_pos rfl, Keep.new _ _, fun j hj => by omega, _, _, rfl⟩ (fun i ρ m2 hi hI => ?_) fun ρ m2 hI => ?_
  · obtain ⟨_, cn, g1, kp, hnb, a, b, rfl⟩ := hI
    have hgi : ls[i]? = some (ls.getD i Str.empty) := by rw [List.getD_eq_getElem?_getD, List.getElem?_eq_getElem hi]; rfl
    have hix : ∀ (k : D → Mem → Rs (Fl × Ev)) (m : Mem), KIx (ls.map D.str) (0 + (i : Nat)) m k = k (.str (ls.getD i Str.empty)) m := fun k m => by
      rw [Int.zero_add]
      exact KIx_of (by rw [List.getElem?_map, hgi]; rfl) m k
    have hm := hmem _ (List.mem_of_getElem? hgi)
    simp_arith [↓K_bodyG_nm, ↓hix, ↓hll, hll]
    refine WP_FX (e0 := fun _ _ => False) (row_of_any hm.1 hm.2 ls.length m2) (fun d m3 q => ?_) fun _ _ q => q.elim
    obtain ⟨rfl, k3⟩ := q
    have g3 : m3.get m.n = some (.lst ((List.range i).map (rowD ls))) := (k3.at_ _ cn).trans g1
    have cn3 : m.n < m3.n := Nat.lt_of_lt_of_le cn k3.n
    have kp3 := kp.trans k3
    have e0 : lineD (ls.getD i Str.empty) ls.length = rowD ls i := rfl
    rw [e0]
    by_cases hb : badK ls i = true
    · obtain ⟨t, ht⟩ := bads_of hi hb hnb
      cases hA : isNonD (rowD ls i) with
      | true =>
        simp_arith [↓K2_isNon, hA, ↓K_raiseF, ↓kRaiseF_at]
        refine WP.ex ⟨i, t, ht, by rw [Int.zero_add], kp3⟩
      | false =>
        have h199 : 199 < i := by
          unfold badK at hb
          rw [hA, Bool.false_or, decide_eq_true_eq] at hb
          exact hb
        have hge : decide ((200 : Int) ≤ 0 + (i : Nat)) = true := decide_eq_true (by omega)
        have hge2 : decide ((0 + (i : Nat) : Int) ≥ 200) = true := decide_eq_true (by omega)
        simp_arith [↓K2_isNon, hA, hge, hge2, ↓K_raiseF, ↓kRaiseF_at]
        refine WP.ex ⟨i, t, ht, by rw [Int.zero_add], kp3⟩
    · have hb2 : badK ls i = false := by
        cases q : badK ls i with
        | true => exact absurd q hb
        | false => rfl
      have hb3 := hb2
      unfold badK at hb3
      rw [Bool.or_eq_false_iff, decide_eq_false_iff_not] at hb3
      have hge : decide ((200 : Int) ≤ 0 + (i : Nat)) = false := decide_eq_false (by omega)
      have hge2 : decide ((0 + (i : Nat) : Int) ≥ 200) = false := decide_eq_false (by omega)
      have hsl : ((List.range i).map (rowD ls)).length < sizeLine := by
        rw [List.length_map, List.length_range]
        omega
      simp_arith [↓K2_isNon, hb3.1, hge, hge2, ↓KG_of g3]
      refine .ok ⟨hi, cn3, ?_, keep_put kp3 cn3, fun j hj => ?_, _, _, rfl⟩
      · rw [List.range_succ, List.map_append]
        exact if_pos rfl
      · rcases Nat.lt_succ_iff_lt_or_eq.mp hj with h | h
        · exact hnb j h
        · rw [h]
          exact hb2
  · obtain ⟨_, cn, g1, kp, hnb, a, b, rfl⟩ := hI
    simp_arith [↓KG_of g1]
    exact .ok ⟨bads_nil hnb, rfl, kp⟩
end
end LB

set_option Elab.async false
set_option linter.all false
set_option autoImplicit false
set_option maxRecDepth 100000
set_option maxHeartbeats 2000000
/-! Pure: the law's own reader of a line. -/
namespace LB
open PySem L2 TL
noncomputable section
local macro_rules | `(tactic| simp_arith [$as,*]) => `(tactic| simp -implicitDefEqProofs (disch := first | assumption | decide | omega | (simp only [List.length_cons, List.length_nil, Mem.put_n, Mem.new_n, Mem.kill_n]; omega)) only [↓KO_some, ↓K_vr, ↓kVr_0, ↓kVr_s, ↓K_cn, ↓K_pure, ↓K_op2, ↓kOp2a_at, ↓kOp2b_at, ↓K_op1, ↓kOp1_at, ↓K_argN, ↓K_argC, ↓kArg1_at, ↓kArg2_at, ↓K_opN, ↓kOpN_at, ↓K_call, ↓kCall_1, ↓kCall_2, ↓kCall_3, ↓kCall_4, ↓kCall_5, ↓K_tpl, ↓K_lsl, ↓K_lsm, ↓K_dctE, ↓kTpl_0, ↓kTpl_1, ↓kTpl_2, ↓kTpl_3, ↓kTpl_4, ↓kTpl_5, ↓kLsl_0, ↓kLsl_1, ↓kLsl_2, ↓kLsl_3, ↓kLsl_4, ↓kLsm_0, ↓K_tV, ↓kTV_at, ↓K_tAnd, ↓kTAnd_t, ↓kTAnd_f, ↓K_tOr, ↓kTOr_t, ↓kTOr_f, ↓K_tNot, ↓kTNot_t, ↓kTNot_f, ↓kTNot_at, ↓K_tYes, ↓K_vAnd, ↓kVAnd_t, ↓kVAnd_f, ↓K_vOr, ↓kVOr_t, ↓kVOr_f, ↓K_vNot, ↓kVNot_at, ↓K_ifE, ↓kIfE_t, ↓kIfE_f, ↓K_chn, ↓kChn0_at, ↓kChn1_at, ↓kChn2_t, ↓kChn2_f, ↓K_soN, ↓K_soS, ↓kSoS_at, ↓K_slc, ↓kSlc0_at, ↓kSlc1_at, ↓kSlc2_at, ↓KSl_tup, ↓KSl_lst, ↓K_sNext, ↓K_sSeq, ↓kSeq_nx, ↓kSeq_rt, ↓K_sRet, ↓kRet_at, ↓K_sRetN, ↓K_sExp, ↓kExp_at, ↓K_sIf, ↓kIf_t, ↓kIf_f, ↓kSet_0, ↓kSet_s, ↓kUn_c, ↓kUn_n, ↓K_sAsg, ↓kAsg_nm, ↓kAsg_tp, ↓kNms_c, ↓kNmsC_at, ↓kNms_n, ↓K_sPar, ↓kPar1_at, ↓kPar2_at, ↓K_run, ↓kRun_rt, ↓kRun_nx, ↓K2_add_i, ↓K2_sub_i, ↓K2_mul_i, ↓K2_mod_i, ↓K2_fdiv_i, ↓K2_lt_i, ↓K2_le_i, ↓K2_gt_i, ↓K2_ge_i, ↓K2_eq_i, ↓K2_ne_i, ↓K2_eq_st, ↓K2_eq_sf, ↓K2_ne_st, ↓K2_ne_sf, ↓K2_eq_b, ↓K2_add_t, ↓K2_add_l, ↓K1_neg_i, ↓K2_isN_n, ↓K2_isN_i, ↓K2_isN_s, ↓K2_isN_t, ↓K2_isN_l, ↓K2_isN_c, ↓K2_notN_n, ↓K2_notN_i, ↓K2_notN_s, ↓K2_notN_t, ↓K2_notN_l, ↓K2_notN_c, ↓K2_ix_t, ↓K2_ix_l, ↓KIx_0, ↓KIx_1, ↓KIx_2, ↓KIx_3, ↓KIx_4, ↓KIx_m1a, ↓KIx_m1b, ↓KIx_m1c, ↓KIx_m1d, ↓KN_len_t, ↓KN_len_l, ↓KN_max2, ↓KN_min2, ↓KN_int_i, ↓KN_int_t, ↓KN_int_f, ↓KN_tuple_l, ↓KN_tuple_t, ↓KN_maxl, ↓KN_suml, ↓K1_isi_n, ↓K1_isi_b, ↓K1_isi_i, ↓K1_isi_s, ↓K1_isi_t, ↓K1_isi_l, ↓KG_put_eq, ↓KG_put_ne, ↓KG_new_eq, ↓KG_new_ne, ↓KG_kill_ne, ↓K2_ix_c, ↓kIxL_at, ↓KN_len_c, ↓kLenL_l, ↓kLenL_d, ↓KN_tuple_c, ↓kTupL_at, ↓KN_max_c, ↓kMaxL_at, ↓KSl_c, ↓kSlL_at, ↓K_appE, ↓kApp1_at, ↓kApp1b_at, ↓kApp2_at, ↓kApp3_at, ↓K_sLput, ↓kPut1_at, ↓kPut2_at, ↓kPut3_at, ↓kPut4_at, ↓K2_dget_i, ↓K2_dget_s, ↓kDgD_at, ↓KVk_eq, ↓KVk_ne, ↓KVd_eq, ↓KVd_ne, ↓KVd_n, ↓K_dget2, ↓kDg1_at, ↓kDg1b_at, ↓kDg2_at, ↓kDg3_at, ↓kDg4_i, ↓kDg4_s, ↓K_sDput, ↓kDp1_at, ↓kDp2_at, ↓kDp3_i, ↓kDp3_s, ↓kDp4_at, ↓K1_fld, ↓kFldO_at, ↓KFl_eq, ↓KFl_ne, ↓K_sFput, ↓kFp1_at, ↓kFp2_at, ↓kFp3_at, ↓kPf_n, ↓kPf_eq, ↓kPu_c, ↓kPu_n, ↓kPf_ne, ↓K_callM, ↓kMt1_at, ↓kMt2_at, ↓kNo_n, ↓kNo_c, ↓kMt3_0, ↓kMt3_1, ↓kMt3_2, ↓kMt3_3, ↓kMt3_4, ↓K_mkE, ↓kMk_1, ↓kMk_2, ↓kMk_3, ↓kMk2_at, ↓K_sFor, ↓kFor_at, ↓K_itRng1, ↓kRng1_nat, ↓K_itRng2, ↓kRng2_at, ↓K_itSeq, ↓kSeqI_t, ↓kSeqI_l, ↓kSeqI_c, ↓kSeqL_at, ↓K_bodyG_nm, ↓K_bodyG_tp, ↓K_sWhile, ↓kComp_at, ↓K_comp, ↓K_compM, ↓kLst_at, ↓kLstM_at, ↓kEx_at, ↓K_exG_nm, ↓K_exG_tp, ↓kAlc_at, ↓K_opNM, ↓kOpNM_at, ↓KN_list_l2, ↓KN_list_t2, ↓KN_list_c, ↓kListL_at, ↓K_op2M, ↓kOp2Ma_at, ↓kOp2Mb_at, ↓K2_rep1, ↓K_prE_n, ↓K_prE_c, ↓kPr1_at, ↓kPr2_at, ↓kPr3_at, ↓K_dspE, ↓kDsp_s1, ↓kDsp_s2, ↓kDsp_s3, ↓kDsp_s4, ↓K_frz, ↓kFrz_c, ↓kFrz_l, ↓kFrz_t, ↓kFrz_n, ↓kFrzL_at, ↓K_extE, ↓kExt1_at, ↓kExt1b_at, ↓kExt2_at, ↓kExt3_at, ↓K_mt0E, ↓kMt0_at, ↓kMt0L_clear, ↓kMt0L_rev, ↓K2_in_t, ↓K2_in_f, ↓K2_notIn_t, ↓K2_notIn_f, ↓K_itZp, ↓kZp1_at, ↓K_itEn, ↓kEnI_t, ↓kEnI_l, ↓K2_din_i, ↓kDinD_at, ↓KR_put_0, ↓KR_put_1, ↓KR_put_2, ↓KR_put_l, ↓KR_put_into, ↓KR_put_end, ↓KR_put_looked, ↓KR_put_cut, ↓KR_move_0, ↓KR_move_1, ↓KR_move_2, ↓KR_move_l, ↓KR_move_into, ↓KR_move_end, ↓KR_move_looked, ↓KR_move_cut, ↓KR_add_0, ↓KR_add_1, ↓KR_add_2, ↓KR_add_3, ↓KR_add_l, ↓KR_add_into, ↓KR_add_end, ↓KR_add_looked, ↓KR_add_cut, ↓KR_take_0, ↓KR_take_1, ↓KR_take_2, ↓KR_take_3, ↓KR_take_l, ↓KR_take_into, ↓KR_take_end, ↓KR_take_looked, ↓KR_take_cut, ↓KR_times_0, ↓KR_times_1, ↓KR_times_2, ↓KR_times_3, ↓KR_times_l, ↓KR_times_into, ↓KR_times_end, ↓KR_times_looked, ↓KR_times_cut, ↓KR_get_0, ↓KR_get_1, ↓KR_get_2, ↓KR_get_l, ↓KR_get_into, ↓KR_get_end, ↓KR_get_looked, ↓KR_get_cut, ↓KR_set_0, ↓KR_set_1, ↓KR_set_2, ↓KR_set_l, ↓KR_set_into, ↓KR_set_end, ↓KR_set_looked, ↓KR_set_cut, ↓KR_say_0, ↓KR_say_1, ↓KR_say_l, ↓KR_say_into, ↓KR_say_end, ↓KR_say_looked, ↓KR_say_cut, ↓KR_rest_0, ↓KR_rest_l, ↓KR_rest_into, ↓KR_rest_end, ↓KR_rest_looked, ↓KR_rest_cut, ↓KR_go_0, ↓KR_go_1, ↓KR_go_l, ↓KR_go_into, ↓KR_go_end, ↓KR_go_looked, ↓KR_go_cut, ↓KR_ifr_0, ↓KR_ifr_1, ↓KR_ifr_2, ↓KR_ifr_l, ↓KR_ifr_into, ↓KR_ifr_end, ↓KR_ifr_looked, ↓KR_ifr_cut, ↓KR_stop_0, ↓KR_stop_l, ↓KR_stop_into, ↓KR_stop_end, ↓KR_stop_looked, ↓KR_stop_cut, ↓KR_late, ↓KR_far, ↓KR_num, ↓KR_mill_0, ↓KR_mill_1, ↓KR_mill_2, ↓KR_mill_3, ↓KR_pi_len, ↓KA_stop, ↓KA_goes, ↓KA_ends, ↓K_mt1E, ↓kM1_l, ↓kM1_s, ↓kM1b_at, ↓K1_isi_c, ↓kIsiL_at, ↓KN_minl, start0, List.map_cons, List.map_nil, List.length_cons, List.length_nil, List.replicate_succ, List.replicate_zero, Nat.reduceSub, Nat.reduceAdd, wipeE, List.set_cons_zero, List.set_cons_succ, List.cons_append, List.nil_append, $as,*])
section
variable {β : Type}
def kDu1 (e : SE) (ρ : Ev) (k : D → Mem → Rs β) : D → Mem → Rs β := fun dd m1 => K (M.bind (fun m => if isDct m dd = true then .ok () m else .bad) fun _ => M.bind (e ρ) fun ed => dupdK dd ed) m1 k
def kDu2 (dd : D) (k : D → Mem → Rs β) : D → Mem → Rs β := fun ed m => K (dupdK dd ed) m k
theorem K_dupdE (d e : SE) (ρ : Ev) (m : Mem) (k : D → Mem → Rs β) : K (dupdE d e ρ) m k = K (d ρ) m (kDu1 e ρ k) := K_bind _ _ _ _
theorem dct_at {m : Mem} {c : Nat} {kvs : List (KeyS × D)} (g : m.get c = some (.dct kvs)) (hc : c < m.n) : dctOf m (.loc c) = some kvs := by
  unfold dctOf
  simp only [if_pos hc, g]
theorem kDu1_of {c : Nat} {kvs : List (KeyS × D)} {m : Mem} (g : m.get c = some (.dct kvs)) (hc : c < m.n) (e : SE) (ρ : Ev) (k : D → Mem → Rs β) : kDu1 e ρ k (.loc c) m = K (e ρ) m (kDu2 (.loc c) k) := by
  unfold kDu1
  have hi : isDct m (.loc c) = true := by
    unfold isDct
    rw [dct_at g hc]
    rfl
  rw [K_bind, K_ok (x := ()) (m1 := m) (by simp only [hi, if_true]), K_bind]
  rfl
theorem kDu2_of {c c2 : Nat} {kvs more kv3 : List (KeyS × D)} {m : Mem} (hne : c ≠ c2) (g : m.get c = some (.dct kvs)) (hc : c < m.n) (g2 : m.get c2 = some (.dct more)) (hc2 : c2 < m.n) (hl : kvs.length + more.length ≤ sizeLine) (h3 : mergeD kvs more = kv3) (k : D → Mem → Rs β) : kDu2 (.loc c) k (.loc c2) m = k .non (m.put c (.dct kv3)) := by
  unfold kDu2
  exact K_ok (x := D.non) (m1 := m.put c (.dct kv3)) (by simp only [dupdK, if_pos hne, dct_at g hc, dct_at g2 hc2, if_pos hl, h3]) k
def kDcp (k : D → Mem → Rs β) : List D → Mem → Rs β := fun ds m => match ds with
  | [d] => K (dcpD d) m k
  | _ => .bad
theorem K_dcpE (a : SA) (ρ : Ev) (m : Mem) (k : D → Mem → Rs β) : K (dcpE a ρ) m k = K (a ρ) m (kDcp k) := by
  unfold dcpE
  rw [K_bind]
  congr 1
  funext ds m1
  match ds with
  | [] => rfl
  | [d] => rfl
  | _ :: _ :: _ => rfl
theorem kDcp_of {d : D} {ys : List D} {prs kv2 : List (KeyS × D)} {m : Mem} (h : lstOf m d = some ys) (h2 : prkOf ys = some prs) (h3 : mergeD [] prs = kv2) (k : D → Mem → Rs β) : kDcp k [d] m = k (.loc m.n) (m.new (.dct kv2)) := by
  subst h3
  exact K_ok (x := D.loc m.n) (m1 := m.new (.dct (mergeD [] prs))) (by unfold dcpD; simp only [h, Option.bind_some, h2]; rfl) k
def kG1a (kk : SE) (ρ : Ev) (k : D → Mem → Rs β) : D → Mem → Rs β := fun dd m1 => K (M.bind (fun m => if isDct m dd = true then .ok () m else .bad) fun _ => M.bind (kk ρ) fun kk => fun m => lift ((dctOf m dd).bind fun kvs => (keyOf kk).map fun k => (valK kvs k).getD .non) m) m1 k
def kG1b (dd : D) (k : D → Mem → Rs β) : D → Mem → Rs β := fun kk m => K (lift ((dctOf m dd).bind fun kvs => (keyOf kk).map fun k => (valK kvs k).getD .non)) m k
theorem K_dget1 (d kk : SE) (ρ : Ev) (m : Mem) (k : D → Mem → Rs β) : K (dget1 d kk ρ) m k = K (d ρ) m (kG1a kk ρ k) := K_bind _ _ _ _
theorem kG1a_of {c : Nat} {kvs : List (KeyS × D)} {m : Mem} (g : m.get c = some (.dct kvs)) (hc : c < m.n) (kk : SE) (ρ : Ev) (k : D → Mem → Rs β) : kG1a kk ρ k (.loc c) m = K (kk ρ) m (kG1b (.loc c) k) := by
  unfold kG1a
  have hi : isDct m (.loc c) = true := by
    unfold isDct
    rw [dct_at g hc]
    rfl
  rw [K_bind, K_ok (x := ()) (m1 := m) (by simp only [hi, if_true]), K_bind]
  rfl
theorem kG1b_of {c : Nat} {kvs : List (KeyS × D)} {m : Mem} (g : m.get c = some (.dct kvs)) (hc : c < m.n) (s : Str) (k : D → Mem → Rs β) : kG1b (.loc c) k (.str s) m = k ((valK kvs (.inr s)).getD .non) m := by
  unfold kG1b
  rw [K_lift, dct_at g hc]
  rfl
end
def lfAt (k : Nat) : Str := (["bn", "bb", "bbb", "bbb", "bbb", "bb", "bb", "b", "", "r", "br", ""] : List Str).getD k Str.empty
def sortL : Nat → Str
  | 0 => "b" | 1 => "b" | 2 => "n" | _ => "r"
def forms8 : List (KeyS × D) := [(.inr "put", .str "bn"), (.inr "move", .str "bb"), (.inr "get", .str "bb"), (.inr "set", .str "bb"), (.inr "say", .str "b"), (.inr "rest", .str ""), (.inr "go", .str "r"), (.inr "if", .str "br")]
def forms9 : List (KeyS × D) := forms8 ++ [(.inr "stop", .str "")]
def forms3 : List (KeyS × D) := [(.inr "add", .str "bbb"), (.inr "take", .str "bbb"), (.inr "times", .str "bbb")]
def forms12 : List (KeyS × D) := forms9 ++ forms3
theorem forms_9 : putKD forms8 (.inr "stop") (.str "") = forms9 := rfl
theorem forms_12 : mergeD forms9 forms3 = forms12 := rfl
theorem lfAt_sorts {k : Nat} (hk : k < 12) : strOf (lfAt k) = (sortsAt k).map fun s => D.str (sortL s) := lt12 (p := fun k => strOf (lfAt k) = (sortsAt k).map fun s => D.str (sortL s)) ⟨rfl, rfl, rfl, rfl, rfl, rfl, rfl, rfl, rfl, rfl, rfl, rfl⟩ hk
theorem lfAt_len {k : Nat} (hk : k < 12) : (lfAt k).length = (sortsAt k).length := lt12 (p := fun k => (lfAt k).length = (sortsAt k).length) ⟨rfl, rfl, rfl, rfl, rfl, rfl, rfl, rfl, rfl, rfl, rfl, rfl⟩ hk
theorem forms_at {k : Nat} (hk : k < 12) : valK forms12 (.inr (wordAt k)) = some (.str (lfAt k)) := lt12 (p := fun k => valK forms12 (.inr (wordAt k)) = some (.str (lfAt k))) ⟨rfl, rfl, rfl, rfl, rfl, rfl, rfl, rfl, rfl, rfl, rfl, rfl⟩ hk
theorem forms_no {w : Str} (h : kindOf w = none) : valK forms12 (.inr w) = none := by
  have hn := kindOf_none h
  have e : forms12.find? (fun kv => decide (kv.1 = (.inr w : KeyS))) = none := List.find?_eq_none.mpr fun p hp => by
    have hw : ∃ k, k < 12 ∧ p.1 = .inr (wordAt k) := by
      simp only [forms12, forms9, forms8, forms3, List.cons_append, List.nil_append, List.mem_cons, List.not_mem_nil, or_false] at hp
      rcases hp with rfl | rfl | rfl | rfl | rfl | rfl | rfl | rfl | rfl | rfl | rfl | rfl
      · exact ⟨0, by decide, rfl⟩
      · exact ⟨1, by decide, rfl⟩
      · exact ⟨5, by decide, rfl⟩
      · exact ⟨6, by decide, rfl⟩
      · exact ⟨7, by decide, rfl⟩
      · exact ⟨8, by decide, rfl⟩
      · exact ⟨9, by decide, rfl⟩
      · exact ⟨10, by decide, rfl⟩
      · exact ⟨11, by decide, rfl⟩
      · exact ⟨2, by decide, rfl⟩
      · exact ⟨3, by decide, rfl⟩
      · exact ⟨4, by decide, rfl⟩
    obtain ⟨k, hk, e⟩ := hw
    rw [e, decide_eq_true_eq]
    exact fun q => hn k hk (Sum.inr.inj q)
  unfold valK
  rw [e]
  rfl
def f_l_line : SS := sSeq (sAsg (dspE [(cn (.str (Str.ofString "put")), cn (.str (Str.ofString "bn"))), (cn (.str (Str.ofString "move")), cn (.str (Str.ofString "bb"))), (cn (.str (Str.ofString "get")), cn (.str (Str.ofString "bb"))), (cn (.str (Str.ofString "set")), cn (.str (Str.ofString "bb"))), (cn (.str (Str.ofString "say")), cn (.str (Str.ofString "b"))), (cn (.str (Str.ofString "rest")), cn (.str (Str.ofString ""))), (cn (.str (Str.ofString "go")), cn (.str (Str.ofString "r"))), (cn (.str (Str.ofString "if")), cn (.str (Str.ofString "br")))]) (gNm 2)) (sSeq (sDput (vr 2) (cn (.str (Str.ofString "stop"))) (cn (.str (Str.ofString "")))) (sSeq (sExp (dupdE (vr 2) (dcpE (argC (comp (itSeq (tpl (argC (cn (.str (Str.ofString "add"))) (argC (cn (.str (Str.ofString "take"))) (argC (cn (.str (Str.ofString "times"))) (argN)))))) (gNm 3) (LB.tYes) (tpl (argC (vr 3) (argC (cn (.str (Str.ofString "bbb"))) (argN)))) [3]) (argN))))) (sSeq (sAsg (mt1E isStr gSplit (vr 0) (cn (.str (Str.ofString " ")))) (gNm 4)) (sSeq (sAsg (dget1 (vr 2) (op2 gIx (vr 4) (cn (.int 0)))) (gNm 5)) (sSeq (sIf (LB.tOr (tV (op2 gIsN (vr 5) (cn .non))) (tV (op2 gNe (opN gLen (argC (vr 4) (argN))) (op2 gAdd (opN gLen (argC (vr 5) (argN))) (cn (.int 1)))))) (sRet (cn .non)) (sNext)) (sSeq (sAsg (tpl (argC (op2 gIx (vr 4) (cn (.int 0))) (argN))) (gNm 6)) (sSeq (sFor (itZp (slc (vr 4) (soS (cn (.int 1))) (soN)) (vr 5)) (gTp [3, 7]) (sSeq (sIf (LB.tOr (LB.tNot (tV (chn gLt gLt (cn (.int 0)) (opN gLen (argC (vr 3) (argN))) (cn (.int 4))))) (tV (op2 gNe (comp (itStr (vr 3)) (gNm 8) (tV (op2 gNotInS (vr 8) (cn (.str (Str.ofString "0123456789"))))) (vr 8) [8]) (lsl (argN))))) (sRet (cn .non)) (sNext)) (sSeq (sIf (LB.tOr (LB.tAnd (tV (op2 gGt (opN gLen (argC (vr 3) (argN))) (cn (.int 1)))) (tV (op2 gEq (op2 gIx (vr 3) (cn (.int 0))) (cn (.str (Str.ofString "0")))))) (tV (op2 gGt (opN gIntS (argC (vr 3) (argN))) (op2 gDget (dspE [(cn (.str (Str.ofString "b")), cn (.int 7)), (cn (.str (Str.ofString "n")), cn (.int 999)), (cn (.str (Str.ofString "r")), op2 gSub (vr 1) (cn (.int 1)))]) (vr 7))))) (sRet (cn .non)) (sNext)) (sAsg (op2 gAdd (vr 6) (tpl (argC (opN gIntS (argC (vr 3) (argN))) (argN)))) (gNm 6))))) (sRet (vr 6)))))))))
def m_l_line : Fn := run 9 f_l_line
theorem le_l_line (ds : List D) (m : Mem) : LeR m (m_l_line ds m) (run 9 f_l_line ds m) := .same _
def lbody : SS := sSeq (sIf (LB.tOr (LB.tNot (tV (chn gLt gLt (cn (.int 0)) (opN gLen (argC (vr 3) (argN))) (cn (.int 4))))) (tV (op2 gNe (comp (itStr (vr 3)) (gNm 8) (tV (op2 gNotInS (vr 8) (cn (.str (Str.ofString "0123456789"))))) (vr 8) [8]) (lsl (argN))))) (sRet (cn .non)) (sNext)) (sSeq (sIf (LB.tOr (LB.tAnd (tV (op2 gGt (opN gLen (argC (vr 3) (argN))) (cn (.int 1)))) (tV (op2 gEq (op2 gIx (vr 3) (cn (.int 0))) (cn (.str (Str.ofString "0")))))) (tV (op2 gGt (opN gIntS (argC (vr 3) (argN))) (op2 gDget (dspE [(cn (.str (Str.ofString "b")), cn (.int 7)), (cn (.str (Str.ofString "n")), cn (.int 999)), (cn (.str (Str.ofString "r")), op2 gSub (vr 1) (cn (.int 1)))]) (vr 7))))) (sRet (cn .non)) (sNext)) (sAsg (op2 gAdd (vr 6) (tpl (argC (opN gIntS (argC (vr 3) (argN))) (argN)))) (gNm 6)))
theorem line_body {y : Str} (hy : y.length ≤ 1000000) (hs : Sgs y) (rows : Int) (s : Nat) (e0 e2 a3 e4 e5 a7 a8 : Option D) (acc : List D) (hacc : acc.length ≤ 100) (m : Mem) : WP (K (bodyG (gTp [3, 7]) lbody (.tup [.str y, .str (sortL s)]) [e0, some (.int rows), e2, a3, e4, e5, some (.tup acc), a7, a8]) m Rs.ok) (fun r m3 => Keep m m3 ∧ ((okO rows (numO y, s) = true ∧ ∃ a3 a7 a8, r = (.nx, [e0, some (.int rows), e2, a3, e4, e5, some (.tup (acc ++ [optD (numO y)])), a7, a8])) ∨ (okO rows (numO y, s) = false ∧ ∃ ρ2, r = (.rt .non, ρ2)))) fun _ _ => False := by
  have big : (2000000 : Nat) ≤ sizeLine := by decide
  have hz : y.length ≤ sizeLine := by omega
  have hlen : y.length = (tl y).length := len_tl _
  have hsl : (strOf y).length = (tl y).length := List.length_map _
  have hcm := fun (k : List D → Mem → Rs (Fl × Ev)) => C_filter (w := wkStr y) (g := gNm 8) (t := tV (op2 gNotInS (vr 8) (cn (.str (Str.ofString "0123456789"))))) (e := vr 8) (ρ0 := [e0, some (.int rows), e2, some (.str y), e4, e5, some (.tup acc), some (.str (sortL s)), none]) (m := m) (n := (strOf y).length) (k := k) (tl y) sgn notFig sgn hsl (by omega) (fun i _ => rfl) (fun c hc => by
    unfold sgn
    simp_arith [↓K_exG_nm, ↓K2_fig]) (fun c hc _ => by
    unfold sgn
    simp_arith [↓K_exG_nm])
  have hpl : plains (((tl y).filter notFig).map sgn) = true := plains_sgn _ fun c hc => hs c (List.mem_filter.mp hc).1
  have hdp : deps (((tl y).filter notFig).map sgn) ≤ 50 := Nat.le_trans (deps_sgn _) (by decide)
  have hne := fun (k : D → Mem → Rs (Fl × Ev)) (m : Mem) => ne_nil_of hpl hdp m k
  rcases numO_or y with ⟨n, hn, rfl, e⟩ | ⟨hno, e⟩
  · have ok := numT_ok (i := (n : Int)) (by omega) (by omega)
    have h1 := ok.one
    have h3 := ok.most
    have c1 : decide ((0 : Int) < ((numT (n : Int)).length : Nat)) = true := decide_eq_true (by omega)
    have c2 : decide ((((numT (n : Int)).length : Nat) : Int) < 4) = true := decide_eq_true (by omega)
    have hf : (tl (numT (n : Int))).filter notFig = [] := List.filter_eq_nil_iff.mpr fun c hc => by
      rw [(notFig_iff c).mpr (ok.figs c hc)]
      decide
    have hb : (!(((tl (numT (n : Int))).filter notFig).map sgn).isEmpty) = false := by rw [hf]; rfl
    rw [e]
    unfold lbody
    simp_arith [↓K_bodyG_tp, ↓KN_len_s hz, c1, c2, ↓K_itStr, ↓kStrI_at, ↓hcm, ↓hne, hb, Bool.not_true]
    have hq : ∀ (kk : Bool → Mem → Rs (Fl × Ev)), kTAnd (tV (op2 gEq (op2 gIx (vr 3) (cn (D.int 0))) (cn (D.str (Str.ofString "0"))))) [e0, some (D.int rows), e2, some (D.str (numT (n : Int))), e4, e5, some (D.tup acc), some (D.str (sortL s)), a8] kk (decide ((1 : Int) < ((numT (n : Int)).length : Nat))) m = kk false m := fun kk => by
      by_cases hl : 1 < (numT (n : Int)).length
      · have c3 : decide ((1 : Int) < ((numT (n : Int)).length : Nat)) = true := decide_eq_true (by omega)
        cases et : tl (numT (n : Int)) with
        | nil => rw [et] at hlen; simp at hlen; omega
        | cons c l =>
          have c48 : decide (c = 48) = false := decide_eq_false fun q => by
            rcases ok.head with h | h
            · rw [h] at hlen
              simp at hlen
              omega
            · rw [et] at h
              exact h q
          simp_arith [c3, ↓hd0 et hz, ↓K2_eq_s, c0_iff, c48]
      · have c3 : decide ((1 : Int) < ((numT (n : Int)).length : Nat)) = false := decide_eq_false (by omega)
        simp_arith [c3]
    have hdg : ∀ (kk : D → Mem → Rs (Fl × Ev)), K2 gDget (.loc m.n) (.str (sortL s)) (m.new (.dct [(.inr "b", .int 7), (.inr "n", .int 999), (.inr "r", .int (rows - 1))])) kk = kk (.int (most rows s - 1)) (m.new (.dct [(.inr "b", .int 7), (.inr "n", .int 999), (.inr "r", .int (rows - 1))])) := fun kk => KO_of (by
      show (dctOf (m.new (.dct [(.inr "b", .int 7), (.inr "n", .int 999), (.inr "r", .int (rows - 1))])) (.loc m.n)).bind (fun kvs => (keyOf (.str (sortL s))).bind fun k => valK kvs k) = _
      rw [dctOf_new]
      match s with
      | 0 => rfl
      | 1 => rfl
      | 2 => rfl
      | _ + 3 => rfl) _ kk
    have hi := fun (kk : D → Mem → Rs (Fl × Ev)) (m : Mem) => KN_intS (i := (n : Int)) (by omega) (by omega) m kk
    have hle2 : acc.length + 1 ≤ sizeLine := by omega
    by_cases hle : (n : Int) ≤ most rows s - 1
    · have c4 : decide (most rows s - 1 < (n : Int)) = false := decide_eq_false (by omega)
      simp_arith [↓hq, ↓hi, ↓hdg, c4, gt_iff_lt]
      refine .ok ⟨.new _ _, .inl ⟨?_, _, _, _, rfl⟩⟩
      show numB (n : Int) 0 (most rows s - 1) = true
      unfold numB
      rw [decide_eq_true (show (0 : Int) ≤ (n : Int) by omega), decide_eq_true hle]
      rfl
    · have c4 : decide (most rows s - 1 < (n : Int)) = true := decide_eq_true (by omega)
      simp_arith [↓hq, ↓hi, ↓hdg, c4, gt_iff_lt]
      refine .ok ⟨.new _ _, .inr ⟨?_, _, rfl⟩⟩
      show numB (n : Int) 0 (most rows s - 1) = false
      unfold numB
      rw [decide_eq_false hle, Bool.and_false]
  · rw [e]
    unfold lbody
    have hfin : ∀ ρ2, WP (.ok (Fl.rt D.non, ρ2) m : Rs (Fl × Ev)) (fun r m3 => Keep m m3 ∧ ((okO rows (none, s) = true ∧ ∃ a3 a7 a8, r = (Fl.nx, [e0, some (D.int rows), e2, a3, e4, e5, some (D.tup (acc ++ [optD none])), a7, a8])) ∨ (okO rows (none, s) = false ∧ ∃ ρ2, r = (Fl.rt D.non, ρ2)))) fun _ _ => False := fun ρ2 => .ok ⟨.refl _, .inr ⟨rfl, ρ2, rfl⟩⟩
    by_cases h1 : 0 < y.length
    · have c1 : decide ((0 : Int) < (y.length : Nat)) = true := decide_eq_true (by omega)
      by_cases h3 : y.length < 4
      · have c2 : decide (((y.length : Nat) : Int) < 4) = true := decide_eq_true (by omega)
        by_cases hf : (tl y).filter notFig = []
        · have hb : (!(((tl y).filter notFig).map sgn).isEmpty) = false := by rw [hf]; rfl
          have hall : ∀ c, c ∈ tl y → 48 ≤ c ∧ c ≤ 57 := fun c hc => by
            rw [← notFig_iff]
            cases q : notFig c with
            | false => rfl
            | true =>
              have z := List.mem_filter.mpr ⟨hc, q⟩
              rw [hf] at z
              cases z
          cases et : tl y with
          | nil => rw [et] at hlen; simp at hlen; omega
          | cons c l =>
            have hh : ¬ (tl y = [48] ∨ (tl y).headD 0 ≠ 48) := fun q => hno ⟨by omega, by omega, hall, q⟩
            have c48 : c = 48 := by
              rw [et] at hh
              exact Classical.byContradiction fun q => hh (.inr q)
            have hl1 : 1 < y.length := by
              rw [hlen, et]
              cases l with
              | nil => exact absurd (.inl (by rw [et, c48])) hh
              | cons a b => simp
            have c3 : decide ((1 : Int) < (y.length : Nat)) = true := decide_eq_true (by omega)
            have hc0 : decide (c = 48) = true := decide_eq_true c48
            simp_arith [↓K_bodyG_tp, ↓KN_len_s hz, c1, c2, ↓K_itStr, ↓kStrI_at, ↓hcm, ↓hne, hb, Bool.not_true, c3, gt_iff_lt, ↓hd0 et hz, ↓K2_eq_s, c0_iff, hc0]
            exact hfin _
        · have hb : (!(((tl y).filter notFig).map sgn).isEmpty) = true := by
            cases q : (tl y).filter notFig with
            | nil => exact absurd q hf
            | cons a b => rfl
          simp_arith [↓K_bodyG_tp, ↓KN_len_s hz, c1, c2, ↓K_itStr, ↓kStrI_at, ↓hcm, ↓hne, hb, Bool.not_true]
          exact hfin _
      · have c2 : decide (((y.length : Nat) : Int) < 4) = false := decide_eq_false (by omega)
        simp_arith [↓K_bodyG_tp, ↓KN_len_s hz, c1, c2, Bool.not_false]
        exact hfin _
    · have c1 : decide ((0 : Int) < (y.length : Nat)) = false := decide_eq_false (by omega)
      simp_arith [↓K_bodyG_tp, ↓KN_len_s hz, c1, Bool.not_false]
      exact hfin _
def encQL (q : Str × Nat) : D := .tup [.str q.1, .str (sortL q.2)]
theorem zip_pairL : ∀ (xs : List Str) (ys : List Nat), List.zipWith (fun x y => D.tup [x, y]) (xs.map D.str) (ys.map fun s => D.str (sortL s)) = (xs.zip ys).map encQL
  | [], _ => by simp
  | _ :: _, [] => by simp
  | x :: xs, y :: ys => by
    rw [List.map_cons, List.map_cons, List.zipWith_cons_cons, List.zip_cons_cons, List.map_cons, zip_pairL xs ys]
    rfl
theorem map_zip_fst : ∀ (xs : List Str) (ys : List Nat), xs.length = ys.length → ((xs.zip ys).map fun q => optD (numO q.1)) = (xs.map numO).map optD
  | [], _, _ => by simp
  | _ :: _, [], h => by cases h
  | x :: xs, y :: ys, h => by
    rw [List.zip_cons_cons, List.map_cons, List.map_cons, List.map_cons, map_zip_fst xs ys (by simpa using h)]
theorem zip_numO : ∀ (xs : List Str) (ys : List Nat), (xs.map numO).zip ys = (xs.zip ys).map fun q => (numO q.1, q.2)
  | [], _ => by simp
  | _ :: _, [] => by simp
  | x :: xs, y :: ys => by
    rw [List.map_cons, List.zip_cons_cons, List.zip_cons_cons, List.map_cons, zip_numO xs ys]
theorem lbody_eq : sSeq (sIf (LB.tOr (LB.tNot (tV (chn gLt gLt (cn (.int 0)) (opN gLen (argC (vr 3) (argN))) (cn (.int 4))))) (tV (op2 gNe (comp (itStr (vr 3)) (gNm 8) (tV (op2 gNotInS (vr 8) (cn (.str (Str.ofString "0123456789"))))) (vr 8) [8]) (lsl (argN))))) (sRet (cn .non)) (sNext)) (sSeq (sIf (LB.tOr (LB.tAnd (tV (op2 gGt (opN gLen (argC (vr 3) (argN))) (cn (.int 1)))) (tV (op2 gEq (op2 gIx (vr 3) (cn (.int 0))) (cn (.str (Str.ofString "0")))))) (tV (op2 gGt (opN gIntS (argC (vr 3) (argN))) (op2 gDget (dspE [(cn (.str (Str.ofString "b")), cn (.int 7)), (cn (.str (Str.ofString "n")), cn (.int 999)), (cn (.str (Str.ofString "r")), op2 gSub (vr 1) (cn (.int 1)))]) (vr 7))))) (sRet (cn .non)) (sNext)) (sAsg (op2 gAdd (vr 6) (tpl (argC (opN gIntS (argC (vr 3) (argN))) (argN)))) (gNm 6))) = lbody := rfl
theorem line_loop {zs : List (Str × Nat)} (hm : ∀ q, q ∈ zs → q.1.length ≤ 1000000 ∧ Sgs q.1) (hl : zs.length ≤ 3) {w : Wk} (hw : ∀ i (m2 : Mem), i ≤ zs.length → w i m2 = some ((zs.map encQL)[i]?)) (rows : Int) (e0 e2 e4 e5 : Option D) (a : D) (m : Mem) : WP (K (forG w (gTp [3, 7]) lbody zs.length 0 [e0, some (.int rows), e2, none, e4, e5, some (.tup [a]), none, none]) m (kSeq (sRet (vr 6)) (kRun Rs.ok))) (fun d m2 => (d = if (zs.all fun q => okO rows (numO q.1, q.2)) = true then .tup (a :: zs.map fun q => optD (numO q.1)) else .non) ∧ Keep m m2) fun _ _ => False := by
  refine W_seq (ys := zs) (enc := encQL) (fun i ρ m2 => i ≤ zs.length ∧ Keep m m2 ∧ (∀ q, q ∈ zs.take i → okO rows (numO q.1, q.2) = true) ∧ ∃ a3 a7 a8, ρ = [e0, some (.int rows), e2, a3, e4, e5, some (.tup (a :: (zs.take i).map fun q => optD (numO q.1))), a7, a8]) rfl (fun i ρ m2 hI => hw i m2 hI.1) ⟨Nat.zero_le _, .refl _, (fun q hq => by rw [List.take_zero] at hq; cases hq), none, none, none, rfl⟩ (fun i q ρ m2 hq hI => ?_) fun ρ m2 hI => ?_
  · obtain ⟨_, kp, hnb, a3, a7, a8, rfl⟩ := hI
    have hil := (List.getElem?_eq_some_iff.mp hq).1
    have hqz := List.mem_of_getElem? hq
    have h := hm _ hqz
    have hz := line_body (y := q.1) h.1 h.2 rows q.2 e0 e2 a3 e4 e5 a7 a8 (a :: (zs.take i).map fun q => optD (numO q.1)) (by rw [List.length_cons, List.length_map, List.length_take]; omega) m2
    refine WP.monoX hz (fun rr m3 z => ?_) (fun _ _ z => z.elim)
    obtain ⟨k3, z | z⟩ := z
    · obtain ⟨ok, b3, b7, b8, rfl⟩ := z
      refine ⟨hil, kp.trans k3, fun q2 hq2 => ?_, b3, b7, b8, ?_⟩
      · rw [List.take_add_one, hq] at hq2
        rcases List.mem_append.mp hq2 with h | h
        · exact hnb q2 h
        · have : q2 = q := by simpa using h
          rw [this]
          exact ok
      · rw [List.take_add_one, hq, List.map_append]
        rfl
    · obtain ⟨no, ρ2, rfl⟩ := z
      have hall : (zs.all fun q => okO rows (numO q.1, q.2)) = false := by
        cases h : zs.all fun q => okO rows (numO q.1, q.2) with
        | false => rfl
        | true =>
          have z := List.all_eq_true.mp h q hqz
          simp only [no] at z
          cases z
      rw [hall]
      show WP (kSeq _ _ (Fl.rt D.non, ρ2) m3) _ _
      simp_arith []
      exact .ok ⟨rfl, kp.trans k3⟩
  · obtain ⟨_, kp, hnb, a3, a7, a8, rfl⟩ := hI
    rw [List.take_length] at hnb ⊢
    have hall : (zs.all fun q => okO rows (numO q.1, q.2)) = true := List.all_eq_true.mpr hnb
    rw [hall]
    simp_arith []
    exact .ok ⟨rfl, kp⟩
theorem line_any {z : Str} (hz : z.length ≤ 1000000) (hs : Sgs z) (rows : Int) (m : Mem) : WP (m_l_line [.str z, .int rows] m) (fun d m2 => d = lineD z rows ∧ Keep m m2) fun _ _ => False := by
  have big : (2000000 : Nat) ≤ sizeLine := by decide
  have hn := split_count z 32
  unfold lineD
  rw [K_start (m_l_line _), m_l_line, f_l_line]
  have hd8 := fun (kk : D → Mem → Rs D) (m : Mem) => kDsp_of (xs := [(.str "put", .str "bn"), (.str "move", .str "bb"), (.str "get", .str "bb"), (.str "set", .str "bb"), (.str "say", .str "b"), (.str "rest", .str ""), (.str "go", .str "r"), (.str "if", .str "br")]) (kvs := forms8) (kvs2 := forms8) rfl (by decide) rfl kk m
  have hsp := fun (m : Mem) (k : D → Mem → Rs D) => K2_split (z := z) one_sp (by omega) m k
  have hf8 : forms8.length < sizeLine := by decide
  simp_arith [↓hd8, forms_9, Mem.put_new', ↓K_dupdE]
  have hdu1 := fun (e : SE) (ρ : Ev) (k : D → Mem → Rs D) => kDu1_of (c := m.n) (m := m.new (.dct forms9)) (if_pos rfl) (Nat.lt_succ_self _) e ρ k
  have hcm := fun (kk : List D → Mem → Rs D) => C_map (w := wkSeq (.tup [.str "add", .str "take", .str "times"])) (g := gNm 3) (e := tpl (argC (vr 3) (argC (cn (.str (Str.ofString "bbb"))) (argN)))) (ρ0 := [some (.str z), some (.int rows), some (.loc m.n), none, none, none, none, none, none]) (m := m.new (.dct forms9)) (n := 3) (k := kk) [Str.ofString "add", Str.ofString "take", Str.ofString "times"] D.str (fun w => .tup [.str w, .str (Str.ofString "bbb")]) rfl (by decide) (fun i _ => rfl) (fun _ _ => rfl) (fun y hy => by
    simp_arith [↓K_exG_nm])
  have hdcp := fun (kk : D → Mem → Rs D) => kDcp_of (d := .lst ([Str.ofString "add", Str.ofString "take", Str.ofString "times"].map fun w => .tup [.str w, .str (Str.ofString "bbb")])) (ys := [Str.ofString "add", Str.ofString "take", Str.ofString "times"].map fun w => .tup [.str w, .str (Str.ofString "bbb")]) (prs := forms3) (kv2 := forms3) (m := m.new (.dct forms9)) rfl rfl rfl kk
  have hdu2 := fun (kk : D → Mem → Rs D) => kDu2_of (c := m.n) (c2 := (m.new (.dct forms9)).n) (kvs := forms9) (more := forms3) (kv3 := forms12) (m := (m.new (.dct forms9)).new (.dct forms3)) (show m.n ≠ m.n + 1 by omega) (by
    show (if m.n = m.n + 1 then _ else (if m.n = m.n then _ else _)) = _
    rw [if_neg (by omega), if_pos rfl]) (by show m.n < m.n + 1 + 1; omega) (if_pos rfl) (by show m.n + 1 < m.n + 1 + 1; omega) (by decide) forms_12 kk
  simp_arith [↓hdu1, ↓K_dcpE, ↓hcm, ↓hdcp, ↓hdu2]
  have g12 : (((m.new (.dct forms9)).new (.dct forms3)).put m.n (.dct forms12)).get m.n = some (.dct forms12) := if_pos rfl
  have cn3 : m.n < (((m.new (.dct forms9)).new (.dct forms3)).put m.n (.dct forms12)).n := by show m.n < m.n + 1 + 1; omega
  have kp3 : Keep m (((m.new (.dct forms9)).new (.dct forms3)).put m.n (.dct forms12)) := keep_put ((Keep.new _ _).trans (.new _ _)) (by show m.n < m.n + 1 + 1; omega)
  generalize (((m.new (.dct forms9)).new (.dct forms3)).put m.n (.dct forms12)) = M3 at *
  have hg1 := fun (kk : SE) (ρ : Ev) (k : D → Mem → Rs D) => kG1a_of g12 cn3 kk ρ k
  have hg2 := fun (s : Str) (k : D → Mem → Rs D) => kG1b_of g12 cn3 s k
  cases hw : Txt.split z ⟨#[32]⟩ with
  | nil => exact absurd hw (split_pos32 z)
  | cons w r =>
    rw [hw, List.length_cons] at hn
    have hmem : ∀ y, y ∈ r → y.length ≤ z.length ∧ Sgs y := fun y hy => by
      have h : y ∈ Txt.split z ⟨#[32]⟩ := by
        rw [hw]
        exact List.mem_cons_of_mem _ hy
      exact ⟨split_each h, split_sgs hs h⟩
    cases hk : kindOf w with
    | none =>
      have hv : (valK forms12 (.inr w)).getD D.non = .non := by rw [forms_no hk]; rfl
      simp_arith [↓hsp, hw, List.map_cons, KIx_0, ↓K_dget1, ↓hg1, ↓hg2, hv]
      refine .ok ⟨?_, kp3⟩
      simp only [lineW, hk]
    | some k =>
      obtain ⟨hk12, rfl⟩ := kindOf_some hk
      have hv : (valK forms12 (.inr (wordAt k))).getD D.non = .str (lfAt k) := by rw [forms_at hk12]; rfl
      have hfl : (lfAt k).length ≤ sizeLine := by
        rw [lfAt_len hk12]
        exact Nat.le_trans (sortsAt_le hk12) (by decide)
      have e : lineW (wordAt k :: r) rows = if isR k (r.map numO) rows = true then .tup (.str (wordAt k) :: (r.map numO).map optD) else .non := by simp only [lineW, hk]
      rw [e]
      have hll : (r.map D.str).length = r.length := List.length_map _
      by_cases he : r.length = (sortsAt k).length
      · have c1 : decide ((((r.map D.str).length + 1 : Nat) : Int) = ((lfAt k).length : Nat) + 1) = true := decide_eq_true (by rw [hll, lfAt_len hk12]; omega)
        simp_arith [↓hsp, hw, List.map_cons, KIx_0, ↓K_dget1, ↓hg1, ↓hg2, hv, ↓KN_len_s hfl, c1, Bool.not_true, cut1, List.drop_succ_cons, List.drop_zero]
        have hsl := sortsAt_le hk12
        have hstr : wlkOf M3 (.str (lfAt k)) = some ((sortsAt k).map fun s => D.str (sortL s)) := by
          show some (strOf (lfAt k)) = _
          rw [lfAt_sorts hk12]
        have hzp := fun (kk : Wk × Nat → Mem → Rs D) => kZp2_of (d := .lst (r.map D.str)) (e := .str (lfAt k)) (xs := r.map D.str) (m := M3) rfl hstr kk
        have hzl : min (r.map D.str).length ((sortsAt k).map fun s => D.str (sortL s)).length = (r.zip (sortsAt k)).length := by
          rw [List.length_zip, List.length_map, List.length_map]
        have hisR : isR k (r.map numO) rows = (r.zip (sortsAt k)).all fun q => okO rows (numO q.1, q.2) := by
          unfold isR
          rw [List.length_map, decide_eq_true he, Bool.true_and, zip_numO, List.all_map]
          rfl
        rw [hisR]
        simp_arith [↓hzp, hzl]
        have hw : ∀ i (m2 : Mem), i ≤ (r.zip (sortsAt k)).length → wkZp (.lst (r.map D.str)) (.str (lfAt k)) i m2 = some (((r.zip (sortsAt k)).map encQL)[i]?) := fun i m2 hi => by
          have z := wkZp_eq (m := m2) (d := .lst (r.map D.str)) (e := .str (lfAt k)) (xs := r.map D.str) (ys := (sortsAt k).map fun s => D.str (sortL s)) rfl (by
            show some (strOf (lfAt k)) = _
            rw [lfAt_sorts hk12]) i (by rw [zip_pairL, List.length_map]; exact hi)
          rw [zip_pairL] at z
          exact z
        have hzn : (r.zip (sortsAt k)).length ≤ 3 := by
          rw [List.length_zip]
          omega
        rw [lbody_eq, ← map_zip_fst r (sortsAt k) he]
        refine (line_loop (fun q hq => ?_) hzn hw rows _ _ _ _ _ M3).mono fun d m2 z => ⟨z.1, kp3.trans z.2⟩
        have hm := hmem _ (List.of_mem_zip hq).1
        exact ⟨Nat.le_trans hm.1 hz, hm.2⟩
      · have c1 : decide ((((r.map D.str).length + 1 : Nat) : Int) = ((lfAt k).length : Nat) + 1) = false := decide_eq_false (by rw [hll, lfAt_len hk12]; omega)
        simp_arith [↓hsp, hw, List.map_cons, KIx_0, ↓K_dget1, ↓hg1, ↓hg2, hv, ↓KN_len_s hfl, c1, Bool.not_false]
        refine .ok ⟨?_, kp3⟩
        have q : isR k (r.map numO) rows = false := by
          unfold isR
          rw [List.length_map, decide_eq_false he]
          rfl
        rw [q]
        rfl
end
end LB

set_option Elab.async false
set_option linter.all false
set_option autoImplicit false
set_option maxRecDepth 100000
set_option maxHeartbeats 4000000
/-! Plain: a text spoilt. -/
namespace LB
open PySem L2 TL
noncomputable section
local macro_rules | `(tactic| simp_arith [$as,*]) => `(tactic| simp -implicitDefEqProofs (disch := first | assumption | decide | omega | (simp only [List.length_cons, List.length_nil, Mem.put_n, Mem.new_n, Mem.kill_n]; omega)) only [↓KO_some, ↓K_vr, ↓kVr_0, ↓kVr_s, ↓K_cn, ↓K_pure, ↓K_op2, ↓kOp2a_at, ↓kOp2b_at, ↓K_op1, ↓kOp1_at, ↓K_argN, ↓K_argC, ↓kArg1_at, ↓kArg2_at, ↓K_opN, ↓kOpN_at, ↓K_call, ↓kCall_1, ↓kCall_2, ↓kCall_3, ↓kCall_4, ↓kCall_5, ↓K_tpl, ↓K_lsl, ↓K_lsm, ↓K_dctE, ↓kTpl_0, ↓kTpl_1, ↓kTpl_2, ↓kTpl_3, ↓kTpl_4, ↓kTpl_5, ↓kLsl_0, ↓kLsl_1, ↓kLsl_2, ↓kLsl_3, ↓kLsl_4, ↓kLsm_0, ↓K_tV, ↓kTV_at, ↓K_tAnd, ↓kTAnd_t, ↓kTAnd_f, ↓K_tOr, ↓kTOr_t, ↓kTOr_f, ↓K_tNot, ↓kTNot_t, ↓kTNot_f, ↓kTNot_at, ↓K_tYes, ↓K_vAnd, ↓kVAnd_t, ↓kVAnd_f, ↓K_vOr, ↓kVOr_t, ↓kVOr_f, ↓K_vNot, ↓kVNot_at, ↓K_ifE, ↓kIfE_t, ↓kIfE_f, ↓K_chn, ↓kChn0_at, ↓kChn1_at, ↓kChn2_t, ↓kChn2_f, ↓K_soN, ↓K_soS, ↓kSoS_at, ↓K_slc, ↓kSlc0_at, ↓kSlc1_at, ↓kSlc2_at, ↓KSl_tup, ↓KSl_lst, ↓K_sNext, ↓K_sSeq, ↓kSeq_nx, ↓kSeq_rt, ↓K_sRet, ↓kRet_at, ↓K_sRetN, ↓K_sExp, ↓kExp_at, ↓K_sIf, ↓kIf_t, ↓kIf_f, ↓kSet_0, ↓kSet_s, ↓kUn_c, ↓kUn_n, ↓K_sAsg, ↓kAsg_nm, ↓kAsg_tp, ↓kNms_c, ↓kNmsC_at, ↓kNms_n, ↓K_sPar, ↓kPar1_at, ↓kPar2_at, ↓K_run, ↓kRun_rt, ↓kRun_nx, ↓K2_add_i, ↓K2_sub_i, ↓K2_mul_i, ↓K2_mod_i, ↓K2_fdiv_i, ↓K2_lt_i, ↓K2_le_i, ↓K2_gt_i, ↓K2_ge_i, ↓K2_eq_i, ↓K2_ne_i, ↓K2_eq_st, ↓K2_eq_sf, ↓K2_ne_st, ↓K2_ne_sf, ↓K2_eq_b, ↓K2_add_t, ↓K2_add_l, ↓K1_neg_i, ↓K2_isN_n, ↓K2_isN_i, ↓K2_isN_s, ↓K2_isN_t, ↓K2_isN_l, ↓K2_isN_c, ↓K2_notN_n, ↓K2_notN_i, ↓K2_notN_s, ↓K2_notN_t, ↓K2_notN_l, ↓K2_notN_c, ↓K2_ix_t, ↓K2_ix_l, ↓KIx_0, ↓KIx_1, ↓KIx_2, ↓KIx_3, ↓KIx_4, ↓KIx_m1a, ↓KIx_m1b, ↓KIx_m1c, ↓KIx_m1d, ↓KN_len_t, ↓KN_len_l, ↓KN_max2, ↓KN_min2, ↓KN_int_i, ↓KN_int_t, ↓KN_int_f, ↓KN_tuple_l, ↓KN_tuple_t, ↓KN_maxl, ↓KN_suml, ↓K1_isi_n, ↓K1_isi_b, ↓K1_isi_i, ↓K1_isi_s, ↓K1_isi_t, ↓K1_isi_l, ↓KG_put_eq, ↓KG_put_ne, ↓KG_new_eq, ↓KG_new_ne, ↓KG_kill_ne, ↓K2_ix_c, ↓kIxL_at, ↓KN_len_c, ↓kLenL_l, ↓kLenL_d, ↓KN_tuple_c, ↓kTupL_at, ↓KN_max_c, ↓kMaxL_at, ↓KSl_c, ↓kSlL_at, ↓K_appE, ↓kApp1_at, ↓kApp1b_at, ↓kApp2_at, ↓kApp3_at, ↓K_sLput, ↓kPut1_at, ↓kPut2_at, ↓kPut3_at, ↓kPut4_at, ↓K2_dget_i, ↓K2_dget_s, ↓kDgD_at, ↓KVk_eq, ↓KVk_ne, ↓KVd_eq, ↓KVd_ne, ↓KVd_n, ↓K_dget2, ↓kDg1_at, ↓kDg1b_at, ↓kDg2_at, ↓kDg3_at, ↓kDg4_i, ↓kDg4_s, ↓K_sDput, ↓kDp1_at, ↓kDp2_at, ↓kDp3_i, ↓kDp3_s, ↓kDp4_at, ↓K1_fld, ↓kFldO_at, ↓KFl_eq, ↓KFl_ne, ↓K_sFput, ↓kFp1_at, ↓kFp2_at, ↓kFp3_at, ↓kPf_n, ↓kPf_eq, ↓kPu_c, ↓kPu_n, ↓kPf_ne, ↓K_callM, ↓kMt1_at, ↓kMt2_at, ↓kNo_n, ↓kNo_c, ↓kMt3_0, ↓kMt3_1, ↓kMt3_2, ↓kMt3_3, ↓kMt3_4, ↓K_mkE, ↓kMk_1, ↓kMk_2, ↓kMk_3, ↓kMk2_at, ↓K_sFor, ↓kFor_at, ↓K_itRng1, ↓kRng1_nat, ↓K_itRng2, ↓kRng2_at, ↓K_itSeq, ↓kSeqI_t, ↓kSeqI_l, ↓kSeqI_c, ↓kSeqL_at, ↓K_bodyG_nm, ↓K_bodyG_tp, ↓K_sWhile, ↓kComp_at, ↓K_comp, ↓K_compM, ↓kLst_at, ↓kLstM_at, ↓kEx_at, ↓K_exG_nm, ↓K_exG_tp, ↓kAlc_at, ↓K_opNM, ↓kOpNM_at, ↓KN_list_l2, ↓KN_list_t2, ↓KN_list_c, ↓kListL_at, ↓K_op2M, ↓kOp2Ma_at, ↓kOp2Mb_at, ↓K2_rep1, ↓K_prE_n, ↓K_prE_c, ↓kPr1_at, ↓kPr2_at, ↓kPr3_at, ↓K_dspE, ↓kDsp_s1, ↓kDsp_s2, ↓kDsp_s3, ↓kDsp_s4, ↓K_frz, ↓kFrz_c, ↓kFrz_l, ↓kFrz_t, ↓kFrz_n, ↓kFrzL_at, ↓K_extE, ↓kExt1_at, ↓kExt1b_at, ↓kExt2_at, ↓kExt3_at, ↓K_mt0E, ↓kMt0_at, ↓kMt0L_clear, ↓kMt0L_rev, ↓K2_in_t, ↓K2_in_f, ↓K2_notIn_t, ↓K2_notIn_f, ↓K_itZp, ↓kZp1_at, ↓K_itEn, ↓kEnI_t, ↓kEnI_l, ↓K2_din_i, ↓kDinD_at, ↓KR_put_0, ↓KR_put_1, ↓KR_put_2, ↓KR_put_l, ↓KR_put_into, ↓KR_put_end, ↓KR_put_looked, ↓KR_put_cut, ↓KR_move_0, ↓KR_move_1, ↓KR_move_2, ↓KR_move_l, ↓KR_move_into, ↓KR_move_end, ↓KR_move_looked, ↓KR_move_cut, ↓KR_add_0, ↓KR_add_1, ↓KR_add_2, ↓KR_add_3, ↓KR_add_l, ↓KR_add_into, ↓KR_add_end, ↓KR_add_looked, ↓KR_add_cut, ↓KR_take_0, ↓KR_take_1, ↓KR_take_2, ↓KR_take_3, ↓KR_take_l, ↓KR_take_into, ↓KR_take_end, ↓KR_take_looked, ↓KR_take_cut, ↓KR_times_0, ↓KR_times_1, ↓KR_times_2, ↓KR_times_3, ↓KR_times_l, ↓KR_times_into, ↓KR_times_end, ↓KR_times_looked, ↓KR_times_cut, ↓KR_get_0, ↓KR_get_1, ↓KR_get_2, ↓KR_get_l, ↓KR_get_into, ↓KR_get_end, ↓KR_get_looked, ↓KR_get_cut, ↓KR_set_0, ↓KR_set_1, ↓KR_set_2, ↓KR_set_l, ↓KR_set_into, ↓KR_set_end, ↓KR_set_looked, ↓KR_set_cut, ↓KR_say_0, ↓KR_say_1, ↓KR_say_l, ↓KR_say_into, ↓KR_say_end, ↓KR_say_looked, ↓KR_say_cut, ↓KR_rest_0, ↓KR_rest_l, ↓KR_rest_into, ↓KR_rest_end, ↓KR_rest_looked, ↓KR_rest_cut, ↓KR_go_0, ↓KR_go_1, ↓KR_go_l, ↓KR_go_into, ↓KR_go_end, ↓KR_go_looked, ↓KR_go_cut, ↓KR_ifr_0, ↓KR_ifr_1, ↓KR_ifr_2, ↓KR_ifr_l, ↓KR_ifr_into, ↓KR_ifr_end, ↓KR_ifr_looked, ↓KR_ifr_cut, ↓KR_stop_0, ↓KR_stop_l, ↓KR_stop_into, ↓KR_stop_end, ↓KR_stop_looked, ↓KR_stop_cut, ↓KR_late, ↓KR_far, ↓KR_num, ↓KR_mill_0, ↓KR_mill_1, ↓KR_mill_2, ↓KR_mill_3, ↓KR_pi_len, ↓KA_stop, ↓KA_goes, ↓KA_ends, ↓K_mt1E, ↓kM1_l, ↓kM1_s, ↓kM1b_at, ↓K1_isi_c, ↓kIsiL_at, ↓KN_minl, start0, List.map_cons, List.map_nil, List.length_cons, List.length_nil, List.replicate_succ, List.replicate_zero, Nat.reduceSub, Nat.reduceAdd, wipeE, List.set_cons_zero, List.set_cons_succ, List.cons_append, List.nil_append, $as,*])
section
variable {β : Type}
def kZs2 (x : D) (l : Option Int) (k : D → Mem → Rs β) : Option Int → Mem → Rs β := fun h m => KO (gSlS x l h) m k
def kZs1 (x : D) (hi : SO) (ρ : Ev) (k : D → Mem → Rs β) : Option Int → Mem → Rs β := fun l m => K (hi ρ) m (kZs2 x l k)
def kZs0 (lo hi : SO) (ρ : Ev) (k : D → Mem → Rs β) : D → Mem → Rs β := fun x m => K (lo ρ) m (kZs1 x hi ρ k)
theorem K_slcS (a : SE) (lo hi : SO) (ρ : Ev) (m : Mem) (k : D → Mem → Rs β) : K (slcS a lo hi ρ) m k = K (a ρ) m (kZs0 lo hi ρ k) := by
  unfold slcS
  rw [K_bind]
  congr 1
  funext x m1
  unfold kZs0
  rw [K_bind]
  congr 1
  funext l m2
  unfold kZs1
  rw [K_bind]
  congr 1
  funext h m3
  exact K_lift _ _ _
theorem kZs0_at (lo hi : SO) (ρ : Ev) (k : D → Mem → Rs β) (x : D) (m : Mem) : kZs0 lo hi ρ k x m = K (lo ρ) m (kZs1 x hi ρ k) := rfl
theorem kZs1_at (x : D) (hi : SO) (ρ : Ev) (k : D → Mem → Rs β) (l : Option Int) (m : Mem) : kZs1 x hi ρ k l m = K (hi ρ) m (kZs2 x l k) := rfl
theorem kZs2_of {z : Str} (hz : z.length ≤ sizeLine) (l h : Option Int) (m : Mem) (k : D → Mem → Rs β) : kZs2 (.str z) l k h m = k (.str (cutZ z l h)) m := KO_of (if_pos hz) m k
end
theorem cutD_mem {α : Type} {xs : List α} {l h : Option Int} {x : α} (hx : x ∈ cutD xs l h) : x ∈ xs := List.mem_of_mem_drop (List.mem_of_mem_take hx)
theorem cutD_map {α β : Type} (f : α → β) (xs : List α) (l h : Option Int) : cutD (xs.map f) l h = (cutD xs l h).map f := by
  unfold cutD
  rw [List.length_map, List.map_take, List.map_drop]
theorem cutD_len {α : Type} (xs : List α) (l h : Option Int) : (cutD xs l h).length ≤ xs.length := by
  unfold cutD
  rw [List.length_take, List.length_drop]
  omega
theorem cutZ_len (z : Str) (l h : Option Int) : (cutZ z l h).length ≤ z.length := by
  rw [len_tl, len_tl]
  exact cutD_len _ l h
theorem cutZ_sgs {z : Str} (hs : Sgs z) (l h : Option Int) : Sgs (cutZ z l h) := fun c hc => hs c (cutD_mem (xs := tl z) (l := l) (h := h) hc)
theorem app_sgs {x y : Str} (hx : Sgs x) (hy : Sgs y) : Sgs (x ++ y) := fun c hc => by
  rw [tl_append] at hc
  rcases List.mem_append.mp hc with h | h
  · exact hx c h
  · exact hy c h
/-- how long texts are, one behind the other -/
def wgt (ls : List Str) : Nat := (ls.map (·.length)).sum + ls.length
theorem wgt_app (xs ys : List Str) : wgt (xs ++ ys) = wgt xs + wgt ys := by
  unfold wgt
  rw [List.map_append, List.sum_append, List.length_append]
  omega
theorem wgt_take (n : Nat) (xs : List Str) : wgt (xs.take n) ≤ wgt xs := by
  have e := wgt_app (xs.take n) (xs.drop n)
  rw [List.take_append_drop] at e
  omega
theorem wgt_drop (n : Nat) (xs : List Str) : wgt (xs.drop n) ≤ wgt xs := by
  have e := wgt_app (xs.take n) (xs.drop n)
  rw [List.take_append_drop] at e
  omega
theorem wgt_cut (xs : List Str) (l h : Option Int) : wgt (cutD xs l h) ≤ wgt xs := Nat.le_trans (wgt_take _ _) (wgt_drop _ _)
theorem wgt_one (x : Str) : wgt [x] = x.length + 1 := by
  unfold wgt
  simp
theorem wgt_len (xs : List Str) : xs.length ≤ wgt xs := Nat.le_add_left _ _
theorem joinL_wgt {S : List Nat} (hS : S.length = 1) : ∀ ps : List (List Nat), (joinL S ps).length ≤ (ps.map (·.length)).sum + ps.length
  | [] => Nat.zero_le _
  | [p] => by
    show p.length ≤ _
    simp
  | p :: q :: r => by
    have ih := joinL_wgt hS (q :: r)
    show (p ++ (S ++ joinL S (q :: r))).length ≤ _
    rw [List.length_append, List.length_append, List.map_cons, List.sum_cons, List.length_cons, hS]
    omega
theorem join_wgt {y : Str} (hy : y.length = 1) (ps : List Str) : (Txt.join y ps).length ≤ wgt ps := by
  rw [join_eq, len_tl, tl_join]
  have z := joinL_wgt (S := tl y) (by rw [← len_tl]; exact hy) (ps.map tl)
  rw [List.map_map, List.length_map] at z
  refine Nat.le_trans z (Nat.le_of_eq ?_)
  unfold wgt
  congr 2
theorem joinL_sub {S : List Nat} {c : Nat} : ∀ ps : List (List Nat), c ∈ joinL S ps → c ∈ S ∨ ∃ p, p ∈ ps ∧ c ∈ p
  | [], h => by cases h
  | [p], h => .inr ⟨p, List.mem_cons_self, h⟩
  | p :: q :: r, h => by
    have h2 : c ∈ p ++ (S ++ joinL S (q :: r)) := h
    rcases List.mem_append.mp h2 with h3 | h3
    · exact .inr ⟨p, List.mem_cons_self, h3⟩
    · rcases List.mem_append.mp h3 with h4 | h4
      · exact .inl h4
      · rcases joinL_sub (q :: r) h4 with h5 | ⟨x, hx, hc⟩
        · exact .inl h5
        · exact .inr ⟨x, List.mem_cons_of_mem _ hx, hc⟩
def SgsL (ls : List Str) : Prop := ∀ p, p ∈ ls → Sgs p
theorem join_sgs {y : Str} (hy : Sgs y) {ps : List Str} (h : SgsL ps) : Sgs (Txt.join y ps) := fun c hc => by
  rw [join_eq, tl_join] at hc
  rcases joinL_sub _ hc with h1 | ⟨p, hp, hc2⟩
  · exact hy c h1
  · obtain ⟨q, hq, rfl⟩ := List.mem_map.mp hp
    exact h q hq c hc2
theorem SgsL.app {xs ys : List Str} (h1 : SgsL xs) (h2 : SgsL ys) : SgsL (xs ++ ys) := fun p hp => (List.mem_append.mp hp).elim (h1 p) (h2 p)
theorem SgsL.cut {xs : List Str} (h : SgsL xs) (l u : Option Int) : SgsL (cutD xs l u) := fun p hp => h p (cutD_mem hp)
theorem sgs_sp : Sgs (Str.ofString " ") := by
  rw [one_sp]
  intro c hc
  have : c = 32 := by simpa using (show c ∈ [32] from hc)
  omega
theorem sgs_nl : Sgs (Str.ofString "\n") := by
  rw [one_nl]
  intro c hc
  have : c = 10 := by simpa using (show c ∈ [10] from hc)
  omega
theorem len_sp : (Str.ofString " ").length = 1 := by decide +kernel
theorem len_nl : (Str.ofString "\n").length = 1 := by decide +kernel
theorem K2_joinW {β : Type} {a : Str} (ha : a.length = 1) {ys : List Str} (hl : wgt ys ≤ 16777216) (m : Mem) (k : D → Mem → Rs β) : K2 gJoin (.str a) (.lst (ys.map D.str)) m k = k (.str (Txt.join a ys)) m := KO_of (by
  show (strsOf (ys.map D.str)).bind (fun ys => if (ys.map (·.length)).sum + ys.length * a.length ≤ 16777216 then some (D.str (Txt.join a ys)) else none) = _
  rw [strsOf_map, Option.bind_some, ha, Nat.mul_one]
  exact if_pos hl) m k
theorem KIx_strs (ws : List Str) {v : Int} (h0 : 0 ≤ v) (h1 : v < ws.length) : ∃ w, w ∈ ws ∧ ∀ {β : Type} (m : Mem) (k : D → Mem → Rs β), KIx (ws.map D.str) v m k = k (.str w) m := by
  have hj : v.toNat < ws.length := by omega
  refine ⟨ws[v.toNat], List.getElem_mem hj, fun m k => KIx_ofI h0 ?_ m k⟩
  rw [List.getElem?_map, List.getElem?_eq_getElem hj]
  rfl
theorem KIx_sign {z : Str} {v : Int} (h0 : 0 ≤ v) (h1 : v < z.length) (hz : z.length ≤ sizeLine) : ∃ c, c ∈ tl z ∧ ∀ {β : Type} (m : Mem) (k : D → Mem → Rs β), K2 gIx (.str z) (.int v) m k = k (.str ⟨#[c]⟩) m := by
  have hl : z.length = (tl z).length := len_tl _
  obtain ⟨j, rfl⟩ := Int.eq_ofNat_of_zero_le h0
  have hj : j < (tl z).length := by omega
  refine ⟨(tl z)[j], List.getElem_mem hj, fun m k => KO_of ?_ m k⟩
  show (if z.length ≤ sizeLine then (atD (tl z) ((j : Nat) : Int)).map (fun c => D.str ⟨#[c]⟩) else none) = _
  rw [if_pos hz, atD_nat, List.getElem?_eq_getElem hj]
  rfl
theorem cutT {α : Type} (xs : List α) (k : Nat) : cutD xs none (some (k : Int)) = xs.take k := by
  unfold cutD sIxD
  simp only [List.drop_zero, Nat.sub_zero, Int.toNat_natCast]
  rw [if_neg (by omega)]
  by_cases h : k ≤ xs.length
  · rw [Nat.min_eq_left h]
  · rw [Nat.min_eq_right (by omega), List.take_length, List.take_of_length_le (by omega)]
theorem wgt_two (xs : List Str) {v : Int} (h0 : 0 ≤ v) (h1 : v < xs.length) : wgt (cutD xs none (some v)) + wgt (cutD xs (some (v + 1)) none) ≤ wgt xs := by
  obtain ⟨j, rfl⟩ := Int.eq_ofNat_of_zero_le h0
  rw [cutT, show ((j : Int) + 1) = ((j + 1 : Nat) : Int) by omega, cut_behind _ _ (by omega)]
  have e := wgt_app (xs.take j) (xs.drop j)
  rw [List.take_append_drop] at e
  have e2 := wgt_drop 1 (xs.drop j)
  rw [List.drop_drop] at e2
  have : j + 1 = 1 + j := by omega
  rw [show j + 1 = 1 + j by omega]
  rw [show j + 1 = 1 + j by omega] at e2
  omega
theorem KIx_map {α : Type} (f : α → D) (ws : List α) {v : Int} (h0 : 0 ≤ v) (h1 : v < ws.length) : ∃ w, w ∈ ws ∧ ∀ {β : Type} (m : Mem) (k : D → Mem → Rs β), KIx (ws.map f) v m k = k (f w) m := by
  have hj : v.toNat < ws.length := by omega
  refine ⟨ws[v.toNat], List.getElem_mem hj, fun m k => KIx_ofI h0 ?_ m k⟩
  rw [List.getElem?_map, List.getElem?_eq_getElem hj]
  rfl
def lstS (ls : List Str) : D := .lst (ls.map D.str)
end
end LB

set_option Elab.async false
set_option linter.all false
set_option autoImplicit false
set_option maxRecDepth 100000
set_option maxHeartbeats 8000000
/-! Pure: a text spoilt by the law. -/
namespace LB
open PySem L2 TL
noncomputable section
local macro_rules | `(tactic| simp_arith [$as,*]) => `(tactic| simp -implicitDefEqProofs (disch := first | assumption | decide | omega | (simp only [List.length_cons, List.length_nil, Mem.put_n, Mem.new_n, Mem.kill_n]; omega)) only [↓KO_some, ↓K_vr, ↓kVr_0, ↓kVr_s, ↓K_cn, ↓K_pure, ↓K_op2, ↓kOp2a_at, ↓kOp2b_at, ↓K_op1, ↓kOp1_at, ↓K_argN, ↓K_argC, ↓kArg1_at, ↓kArg2_at, ↓K_opN, ↓kOpN_at, ↓K_call, ↓kCall_1, ↓kCall_2, ↓kCall_3, ↓kCall_4, ↓kCall_5, ↓K_tpl, ↓K_lsl, ↓K_lsm, ↓K_dctE, ↓kTpl_0, ↓kTpl_1, ↓kTpl_2, ↓kTpl_3, ↓kTpl_4, ↓kTpl_5, ↓kLsl_0, ↓kLsl_1, ↓kLsl_2, ↓kLsl_3, ↓kLsl_4, ↓kLsm_0, ↓K_tV, ↓kTV_at, ↓K_tAnd, ↓kTAnd_t, ↓kTAnd_f, ↓K_tOr, ↓kTOr_t, ↓kTOr_f, ↓K_tNot, ↓kTNot_t, ↓kTNot_f, ↓kTNot_at, ↓K_tYes, ↓K_vAnd, ↓kVAnd_t, ↓kVAnd_f, ↓K_vOr, ↓kVOr_t, ↓kVOr_f, ↓K_vNot, ↓kVNot_at, ↓K_ifE, ↓kIfE_t, ↓kIfE_f, ↓K_chn, ↓kChn0_at, ↓kChn1_at, ↓kChn2_t, ↓kChn2_f, ↓K_soN, ↓K_soS, ↓kSoS_at, ↓K_slc, ↓kSlc0_at, ↓kSlc1_at, ↓kSlc2_at, ↓KSl_tup, ↓KSl_lst, ↓K_sNext, ↓K_sSeq, ↓kSeq_nx, ↓kSeq_rt, ↓K_sRet, ↓kRet_at, ↓K_sRetN, ↓K_sExp, ↓kExp_at, ↓K_sIf, ↓kIf_t, ↓kIf_f, ↓kSet_0, ↓kSet_s, ↓kUn_c, ↓kUn_n, ↓K_sAsg, ↓kAsg_nm, ↓kAsg_tp, ↓kNms_c, ↓kNmsC_at, ↓kNms_n, ↓K_sPar, ↓kPar1_at, ↓kPar2_at, ↓K_run, ↓kRun_rt, ↓kRun_nx, ↓K2_add_i, ↓K2_sub_i, ↓K2_mul_i, ↓K2_mod_i, ↓K2_fdiv_i, ↓K2_lt_i, ↓K2_le_i, ↓K2_gt_i, ↓K2_ge_i, ↓K2_eq_i, ↓K2_ne_i, ↓K2_eq_st, ↓K2_eq_sf, ↓K2_ne_st, ↓K2_ne_sf, ↓K2_eq_b, ↓K2_add_t, ↓K2_add_l, ↓K1_neg_i, ↓K2_isN_n, ↓K2_isN_i, ↓K2_isN_s, ↓K2_isN_t, ↓K2_isN_l, ↓K2_isN_c, ↓K2_notN_n, ↓K2_notN_i, ↓K2_notN_s, ↓K2_notN_t, ↓K2_notN_l, ↓K2_notN_c, ↓K2_ix_t, ↓K2_ix_l, ↓KIx_0, ↓KIx_1, ↓KIx_2, ↓KIx_3, ↓KIx_4, ↓KIx_m1a, ↓KIx_m1b, ↓KIx_m1c, ↓KIx_m1d, ↓KN_len_t, ↓KN_len_l, ↓KN_max2, ↓KN_min2, ↓KN_int_i, ↓KN_int_t, ↓KN_int_f, ↓KN_tuple_l, ↓KN_tuple_t, ↓KN_maxl, ↓KN_suml, ↓K1_isi_n, ↓K1_isi_b, ↓K1_isi_i, ↓K1_isi_s, ↓K1_isi_t, ↓K1_isi_l, ↓KG_put_eq, ↓KG_put_ne, ↓KG_new_eq, ↓KG_new_ne, ↓KG_kill_ne, ↓K2_ix_c, ↓kIxL_at, ↓KN_len_c, ↓kLenL_l, ↓kLenL_d, ↓KN_tuple_c, ↓kTupL_at, ↓KN_max_c, ↓kMaxL_at, ↓KSl_c, ↓kSlL_at, ↓K_appE, ↓kApp1_at, ↓kApp1b_at, ↓kApp2_at, ↓kApp3_at, ↓K_sLput, ↓kPut1_at, ↓kPut2_at, ↓kPut3_at, ↓kPut4_at, ↓K2_dget_i, ↓K2_dget_s, ↓kDgD_at, ↓KVk_eq, ↓KVk_ne, ↓KVd_eq, ↓KVd_ne, ↓KVd_n, ↓K_dget2, ↓kDg1_at, ↓kDg1b_at, ↓kDg2_at, ↓kDg3_at, ↓kDg4_i, ↓kDg4_s, ↓K_sDput, ↓kDp1_at, ↓kDp2_at, ↓kDp3_i, ↓kDp3_s, ↓kDp4_at, ↓K1_fld, ↓kFldO_at, ↓KFl_eq, ↓KFl_ne, ↓K_sFput, ↓kFp1_at, ↓kFp2_at, ↓kFp3_at, ↓kPf_n, ↓kPf_eq, ↓kPu_c, ↓kPu_n, ↓kPf_ne, ↓K_callM, ↓kMt1_at, ↓kMt2_at, ↓kNo_n, ↓kNo_c, ↓kMt3_0, ↓kMt3_1, ↓kMt3_2, ↓kMt3_3, ↓kMt3_4, ↓K_mkE, ↓kMk_1, ↓kMk_2, ↓kMk_3, ↓kMk2_at, ↓K_sFor, ↓kFor_at, ↓K_itRng1, ↓kRng1_nat, ↓K_itRng2, ↓kRng2_at, ↓K_itSeq, ↓kSeqI_t, ↓kSeqI_l, ↓kSeqI_c, ↓kSeqL_at, ↓K_bodyG_nm, ↓K_bodyG_tp, ↓K_sWhile, ↓kComp_at, ↓K_comp, ↓K_compM, ↓kLst_at, ↓kLstM_at, ↓kEx_at, ↓K_exG_nm, ↓K_exG_tp, ↓kAlc_at, ↓K_opNM, ↓kOpNM_at, ↓KN_list_l2, ↓KN_list_t2, ↓KN_list_c, ↓kListL_at, ↓K_op2M, ↓kOp2Ma_at, ↓kOp2Mb_at, ↓K2_rep1, ↓K_prE_n, ↓K_prE_c, ↓kPr1_at, ↓kPr2_at, ↓kPr3_at, ↓K_dspE, ↓kDsp_s1, ↓kDsp_s2, ↓kDsp_s3, ↓kDsp_s4, ↓K_frz, ↓kFrz_c, ↓kFrz_l, ↓kFrz_t, ↓kFrz_n, ↓kFrzL_at, ↓K_extE, ↓kExt1_at, ↓kExt1b_at, ↓kExt2_at, ↓kExt3_at, ↓K_mt0E, ↓kMt0_at, ↓kMt0L_clear, ↓kMt0L_rev, ↓K2_in_t, ↓K2_in_f, ↓K2_notIn_t, ↓K2_notIn_f, ↓K_itZp, ↓kZp1_at, ↓K_itEn, ↓kEnI_t, ↓kEnI_l, ↓K2_din_i, ↓kDinD_at, ↓KR_put_0, ↓KR_put_1, ↓KR_put_2, ↓KR_put_l, ↓KR_put_into, ↓KR_put_end, ↓KR_put_looked, ↓KR_put_cut, ↓KR_move_0, ↓KR_move_1, ↓KR_move_2, ↓KR_move_l, ↓KR_move_into, ↓KR_move_end, ↓KR_move_looked, ↓KR_move_cut, ↓KR_add_0, ↓KR_add_1, ↓KR_add_2, ↓KR_add_3, ↓KR_add_l, ↓KR_add_into, ↓KR_add_end, ↓KR_add_looked, ↓KR_add_cut, ↓KR_take_0, ↓KR_take_1, ↓KR_take_2, ↓KR_take_3, ↓KR_take_l, ↓KR_take_into, ↓KR_take_end, ↓KR_take_looked, ↓KR_take_cut, ↓KR_times_0, ↓KR_times_1, ↓KR_times_2, ↓KR_times_3, ↓KR_times_l, ↓KR_times_into, ↓KR_times_end, ↓KR_times_looked, ↓KR_times_cut, ↓KR_get_0, ↓KR_get_1, ↓KR_get_2, ↓KR_get_l, ↓KR_get_into, ↓KR_get_end, ↓KR_get_looked, ↓KR_get_cut, ↓KR_set_0, ↓KR_set_1, ↓KR_set_2, ↓KR_set_l, ↓KR_set_into, ↓KR_set_end, ↓KR_set_looked, ↓KR_set_cut, ↓KR_say_0, ↓KR_say_1, ↓KR_say_l, ↓KR_say_into, ↓KR_say_end, ↓KR_say_looked, ↓KR_say_cut, ↓KR_rest_0, ↓KR_rest_l, ↓KR_rest_into, ↓KR_rest_end, ↓KR_rest_looked, ↓KR_rest_cut, ↓KR_go_0, ↓KR_go_1, ↓KR_go_l, ↓KR_go_into, ↓KR_go_end, ↓KR_go_looked, ↓KR_go_cut, ↓KR_ifr_0, ↓KR_ifr_1, ↓KR_ifr_2, ↓KR_ifr_l, ↓KR_ifr_into, ↓KR_ifr_end, ↓KR_ifr_looked, ↓KR_ifr_cut, ↓KR_stop_0, ↓KR_stop_l, ↓KR_stop_into, ↓KR_stop_end, ↓KR_stop_looked, ↓KR_stop_cut, ↓KR_late, ↓KR_far, ↓KR_num, ↓KR_mill_0, ↓KR_mill_1, ↓KR_mill_2, ↓KR_mill_3, ↓KR_pi_len, ↓KA_stop, ↓KA_goes, ↓KA_ends, ↓K_mt1E, ↓kM1_l, ↓kM1_s, ↓kM1b_at, ↓K1_isi_c, ↓kIsiL_at, ↓KN_minl, start0, List.map_cons, List.map_nil, List.length_cons, List.length_nil, List.replicate_succ, List.replicate_zero, Nat.reduceSub, Nat.reduceAdd, wipeE, List.set_cons_zero, List.set_cons_succ, List.cons_append, List.nil_append, $as,*])
def signsT : Str := Str.ofString "0123456789 -\nabcdefghijklmnopqrstuvwxyz!#$&'()*+,./:;<=>?@ABCDEFGHIJKLMNOPQRSTUVWXYZ[]^_{|}~"
theorem signsT_len : signsT.length = 92 := by decide +kernel
theorem signsT_sgs : Sgs signsT := fun c hc => by
  have z : (tl signsT).all (fun c => decide (c < 1114112)) = true := by decide +kernel
  exact of_decide_eq_true (List.all_eq_true.mp z c hc)
def oddT : List Str := ["", "0", "00", "07", "7", "8", "199", "200", "999", "1000", "-1", "-", "put", "rest", "stop", "if", "Put"]
theorem oddT_ok : oddT.all (fun w => decide (w.length ≤ 4) && (tl w).all (fun c => decide (c < 1114112))) = true := by decide +kernel
theorem oddT_at {w : Str} (h : w ∈ oddT) : w.length ≤ 4 ∧ Sgs w := by
  have z := List.all_eq_true.mp oddT_ok w h
  rw [Bool.and_eq_true, decide_eq_true_eq] at z
  exact ⟨z.1, fun c hc => of_decide_eq_true (List.all_eq_true.mp z.2 c hc)⟩
def f_l_spoilt : SS := sSeq (sAsg (callN 2 m_l_next (argC (vr 0) (argC (cn (.int 9)) (argN)))) (gNm 2)) (sSeq (sAsg (callN 2 m_l_next (argC (vr 0) (argC (op2 gAdd (opN gLen (argC (vr 1) (argN))) (cn (.int 1))) (argN)))) (gNm 3)) (sSeq (sAsg (cn (.str (Str.ofString "0123456789 -\nabcdefghijklmnopqrstuvwxyz!#$&'()*+,./:;<=>?@ABCDEFGHIJKLMNOPQRSTUVWXYZ[]^_{|}~"))) (gNm 4)) (sSeq (sAsg (op2 gIx (vr 4) (callN 2 m_l_next (argC (vr 0) (argC (op2 gIx (lsl (argC (cn (.int 13)) (argC (opN gLen (argC (vr 4) (argN))) (argN)))) (callN 2 m_l_next (argC (vr 0) (argC (cn (.int 2)) (argN))))) (argN))))) (gNm 5)) (sSeq (sIf (tV (op2 gLt (vr 2) (cn (.int 3)))) (sRet (op2 gAdd (op2 gAdd (slcS (vr 1) (soN) (soS (vr 3))) (op2 gIx (lsl (argC (vr 5) (argC (cn (.str (Str.ofString ""))) (argC (vr 5) (argN))))) (vr 2))) (slcS (vr 1) (soS (op2 gAdd (vr 3) (opN gInt (argC (op2 gGt (vr 2) (cn (.int 0))) (argN))))) (soN)))) (sNext)) (sSeq (sAsg (mt1E isStr gSplit (vr 1) (cn (.str (Str.ofString "\n")))) (gNm 6)) (sSeq (sAsg (callN 2 m_l_next (argC (vr 0) (argC (opN gLen (argC (vr 6) (argN))) (argN)))) (gNm 7)) (sSeq (sIf (tV (op2 gLt (vr 2) (cn (.int 6)))) (sRet (mt1E isStr gJoin (cn (.str (Str.ofString "\n"))) (op2 gIx (lsl (argC (op2 gAdd (slc (vr 6) (soN) (soS (vr 7))) (slc (vr 6) (soS (op2 gAdd (vr 7) (cn (.int 1)))) (soN))) (argC (op2 gAdd (slc (vr 6) (soN) (soS (op2 gAdd (vr 7) (cn (.int 1))))) (slc (vr 6) (soS (vr 7)) (soN))) (argC (op2 gAdd (slc (vr 6) (soS (vr 7)) (soN)) (slc (vr 6) (soN) (soS (vr 7)))) (argN))))) (op2 gSub (vr 2) (cn (.int 3)))))) (sNext)) (sSeq (sAsg (mt1E isStr gSplit (op2 gIx (vr 6) (vr 7)) (cn (.str (Str.ofString " ")))) (gNm 8)) (sSeq (sAsg (callN 2 m_l_next (argC (vr 0) (argC (opN gLen (argC (vr 8) (argN))) (argN)))) (gNm 9)) (sSeq (sAsg (lsl (argC (cn (.str (Str.ofString ""))) (argC (cn (.str (Str.ofString "0"))) (argC (cn (.str (Str.ofString "00"))) (argC (cn (.str (Str.ofString "07"))) (argC (cn (.str (Str.ofString "7"))) (argC (cn (.str (Str.ofString "8"))) (argC (cn (.str (Str.ofString "199"))) (argC (cn (.str (Str.ofString "200"))) (argC (cn (.str (Str.ofString "999"))) (argC (cn (.str (Str.ofString "1000"))) (argC (cn (.str (Str.ofString "-1"))) (argC (cn (.str (Str.ofString "-"))) (argC (cn (.str (Str.ofString "put"))) (argC (cn (.str (Str.ofString "rest"))) (argC (cn (.str (Str.ofString "stop"))) (argC (cn (.str (Str.ofString "if"))) (argC (cn (.str (Str.ofString "Put"))) (argN))))))))))))))))))) (gNm 10)) (sSeq (sAsg (op2 gAdd (op2 gAdd (slc (vr 8) (soN) (soS (vr 9))) (op2 gIx (lsl (argC (lsl (argN)) (argC (op2 gRep (lsl (argC (op2 gIx (vr 8) (vr 9)) (argN))) (cn (.int 2))) (argC (lsl (argC (op2 gIx (vr 10) (callN 2 m_l_next (argC (vr 0) (argC (cn (.int 17)) (argN))))) (argN))) (argN))))) (op2 gSub (vr 2) (cn (.int 6))))) (slc (vr 8) (soS (op2 gAdd (vr 9) (cn (.int 1)))) (soN))) (gNm 8)) (sRet (mt1E isStr gJoin (cn (.str (Str.ofString "\n"))) (op2 gAdd (op2 gAdd (slc (vr 6) (soN) (soS (vr 7))) (lsl (argC (mt1E isStr gJoin (cn (.str (Str.ofString " "))) (vr 8)) (argN)))) (slc (vr 6) (soS (op2 gAdd (vr 7) (cn (.int 1)))) (soN))))))))))))))))
def m_l_spoilt : Fn := run 11 f_l_spoilt
theorem le_l_spoilt (ds : List D) (m : Mem) : LeR m (m_l_spoilt ds m) (run 11 f_l_spoilt ds m) := .same _
def SpQ (k c : Nat) (m : Mem) (z : Str) : D → Mem → Prop := fun d m2 => ∃ y : Str, d = .str y ∧ y.length ≤ 5 * z.length + 40 ∧ Sgs y ∧ Drw k c m2 ∧ Same k c m m2
theorem spoilt_wp {k c : Nat} {m : Mem} {z : Str} (h : Drw k c m) (hz : z.length ≤ 900000) (hs : Sgs z) : WP (m_l_spoilt [.loc k, .str z] m) (SpQ k c m z) fun _ _ => False := by
  have big : (4000000 : Nat) ≤ sizeLine := by decide
  have hzs : z.length ≤ sizeLine := by omega
  rw [K_start (m_l_spoilt _), m_l_spoilt, f_l_spoilt]
  simp_arith []
  refine WP_F (next_wp h (by decide) (by decide)) fun d m1 q => ?_
  obtain ⟨v, rfl, hv0, hv1, d1, s1, _⟩ := q
  simp_arith [↓KN_len_s hzs]
  refine WP_F (next_wp d1 (by omega) (by omega)) fun d m2 q => ?_
  obtain ⟨at', rfl, ha0, ha1, d2, s2, _⟩ := q
  have hS : (Str.ofString "0123456789 -\nabcdefghijklmnopqrstuvwxyz!#$&'()*+,./:;<=>?@ABCDEFGHIJKLMNOPQRSTUVWXYZ[]^_{|}~") = signsT := rfl
  rw [hS]
  have hSl : signsT.length ≤ sizeLine := by rw [signsT_len]; decide
  simp_arith [↓KN_len_s hSl, signsT_len]
  refine WP_F (next_wp d2 (by decide) (by decide)) fun d m3 q => ?_
  obtain ⟨b, rfl, hb0, hb1, d3, s3, _⟩ := q
  obtain ⟨w, hw, e1⟩ := KIx_nats [13, 92] (v := b) hb0 hb1
  have e2 : ∀ (m : Mem) (kk : D → Mem → Rs D), KIx [.int 13, .int ((92 : Nat) : Int)] b m kk = kk (.int (w : Nat)) m := fun m kk => e1 m kk
  have hw2 : 0 < w ∧ w ≤ 92 := by simp at hw; omega
  simp_arith [↓e2]
  refine WP_F (next_wp d3 (by omega) (by omega)) fun d m4 q => ?_
  obtain ⟨u, rfl, hu0, hu1, d4, s4, _⟩ := q
  obtain ⟨sg, hsg, e3⟩ := KIx_sign (z := signsT) hu0 (by rw [signsT_len]; omega) hSl
  have hsgs : Sgs (⟨#[sg]⟩ : Str) := fun c hc => by
    have : c = sg := by simpa using (show c ∈ [sg] from hc)
    rw [this]
    exact signsT_sgs sg hsg
  have ss4 : Same k c m m4 := ((s1.trans s2).trans s3).trans s4
  simp_arith [↓e3]
  by_cases h3 : v < 3
  · have c3 : decide (v < 3) = true := decide_eq_true h3
    obtain ⟨x, hx, e4⟩ := KIx_strs [⟨#[sg]⟩, Str.ofString "", ⟨#[sg]⟩] (v := v) hv0 (by simpa using h3)
    have e5 : ∀ (m : Mem) (kk : D → Mem → Rs D), KIx [.str ⟨#[sg]⟩, .str (Str.ofString ""), .str ⟨#[sg]⟩] v m kk = kk (.str x) m := fun m kk => e4 m kk
    have hx2 : x.length ≤ 1 ∧ Sgs x := by
      simp only [List.mem_cons, List.not_mem_nil, or_false] at hx
      rcases hx with rfl | rfl | rfl
      · exact ⟨Nat.le_refl _, hsgs⟩
      · exact ⟨Nat.zero_le _, fun c hc => by cases hc⟩
      · exact ⟨Nat.le_refl _, hsgs⟩
    have hz1 := cutZ_len z none (some at')
    have l1 : (cutZ z none (some at')).length + x.length ≤ sizeLine := by omega
    have l2 : ∀ t : Int, (cutZ z none (some at') ++ x).length + (cutZ z (some t) none).length ≤ sizeLine := fun t => by
      have := cutZ_len z (some t) none
      rw [Str.length_append]
      omega
    have hadd : ∀ (t : Int) (m : Mem) (kk : D → Mem → Rs D), K2 gAdd (.str (cutZ z none (some at') ++ x)) (.str (cutZ z (some t) none)) m kk = kk (.str (cutZ z none (some at') ++ x ++ cutZ z (some t) none)) m := fun t m kk => K2_add_s _ _ m kk (l2 t)
    simp_arith [c3, ↓K_slcS, ↓kZs0_at, ↓kZs1_at, ↓kZs2_of hzs, ↓e5, ↓K2_add_s, ↓KN_int_b, ↓hadd]
    refine .ok ⟨_, rfl, ?_, app_sgs (app_sgs (cutZ_sgs hs _ _) hx2.2) (cutZ_sgs hs _ _), d4, ss4⟩
    have hz2 := cutZ_len z (some (at' + if decide (0 < v) = true then 1 else 0)) none
    rw [Str.length_append, Str.length_append]
    omega
  · have c3 : decide (v < 3) = false := decide_eq_false h3
    have hsp := fun (m : Mem) (k : D → Mem → Rs D) => K2_split (z := z) one_nl (by omega) m k
    have hwl : wgt (Txt.split z ⟨#[10]⟩) ≤ z.length + 1 := split_sum z 10
    have hln : Txt.split z ⟨#[10]⟩ ≠ [] := split_pos10 z
    have hsl : SgsL (Txt.split z ⟨#[10]⟩) := fun p hp => split_sgs hs hp
    have hel : ∀ p, p ∈ Txt.split z ⟨#[10]⟩ → p.length ≤ z.length := fun p hp => split_each hp
    simp_arith [c3, ↓hsp]
    generalize Txt.split z ⟨#[10]⟩ = ls at *
    have hll : (ls.map D.str).length = ls.length := List.length_map _
    have hlw := wgt_len ls
    have hl0 : 0 < ls.length := List.length_pos_iff.mpr hln
    refine WP_F (next_wp d4 (by omega) (by omega)) fun d m5 q => ?_
    obtain ⟨kk, rfl, hk0, hk1, d5, s5, _⟩ := q
    have ss5 := ss4.trans s5
    rw [hll] at hk1
    have hA1 := cutD_len (ls.map D.str) none (some kk)
    have hB1 := cutD_len (ls.map D.str) (some (kk + 1)) none
    have hA2 := cutD_len (ls.map D.str) none (some (kk + 1))
    have hB2 := cutD_len (ls.map D.str) (some kk) none
    by_cases h6 : v < 6
    · have c6 : decide (v < 6) = true := decide_eq_true h6
      have l1 : (cutD (ls.map D.str) none (some kk)).length + (cutD (ls.map D.str) (some (kk + 1)) none).length ≤ sizeLine := by omega
      have l2 : (cutD (ls.map D.str) none (some (kk + 1))).length + (cutD (ls.map D.str) (some kk) none).length ≤ sizeLine := by omega
      have l3 : (cutD (ls.map D.str) (some kk) none).length + (cutD (ls.map D.str) none (some kk)).length ≤ sizeLine := by omega
      obtain ⟨X, hX, e4⟩ := KIx_map lstS [cutD ls none (some kk) ++ cutD ls (some (kk + 1)) none, cutD ls none (some (kk + 1)) ++ cutD ls (some kk) none, cutD ls (some kk) none ++ cutD ls none (some kk)] (v := v - 3) (by omega) (by simp; omega)
      have e5 : ∀ (m : Mem) (k2 : D → Mem → Rs D), KIx [.lst (cutD (ls.map D.str) none (some kk) ++ cutD (ls.map D.str) (some (kk + 1)) none), .lst (cutD (ls.map D.str) none (some (kk + 1)) ++ cutD (ls.map D.str) (some kk) none), .lst (cutD (ls.map D.str) (some kk) none ++ cutD (ls.map D.str) none (some kk))] (v - 3) m k2 = k2 (.lst (X.map D.str)) m := fun m k2 => by
        simp only [cutD_map, ← List.map_append]
        exact e4 m k2
      have hX2 : wgt X ≤ 2 * wgt ls ∧ SgsL X := by
        have w1 := wgt_cut ls none (some kk)
        have w2 := wgt_cut ls (some (kk + 1)) none
        have w3 := wgt_cut ls none (some (kk + 1))
        have w4 := wgt_cut ls (some kk) none
        simp only [List.mem_cons, List.not_mem_nil, or_false] at hX
        rcases hX with rfl | rfl | rfl
        · exact ⟨by rw [wgt_app]; omega, (hsl.cut _ _).app (hsl.cut _ _)⟩
        · exact ⟨by rw [wgt_app]; omega, (hsl.cut _ _).app (hsl.cut _ _)⟩
        · exact ⟨by rw [wgt_app]; omega, (hsl.cut _ _).app (hsl.cut _ _)⟩
      have hj := fun (m : Mem) (k2 : D → Mem → Rs D) => K2_joinW len_nl (ys := X) (by omega) m k2
      simp_arith [c6, ↓e5, ↓hj]
      refine .ok ⟨_, rfl, ?_, join_sgs sgs_nl hX2.2, d5, ss5⟩
      have := join_wgt len_nl X
      omega
    · have c6 : decide (v < 6) = false := decide_eq_false h6
      obtain ⟨ln, hlnm, e4⟩ := KIx_strs ls hk0 hk1
      have hln2 := hel ln hlnm
      have hsp2 := fun (m : Mem) (k : D → Mem → Rs D) => K2_split (z := ln) one_sp (by omega) m k
      have hwl2 : wgt (Txt.split ln ⟨#[32]⟩) ≤ ln.length + 1 := split_sum ln 32
      have hwn : Txt.split ln ⟨#[32]⟩ ≠ [] := split_pos32 ln
      have hws : SgsL (Txt.split ln ⟨#[32]⟩) := fun p hp => split_sgs (hsl ln hlnm) hp
      have hew : ∀ p, p ∈ Txt.split ln ⟨#[32]⟩ → p.length ≤ ln.length := fun p hp => split_each hp
      simp_arith [c6, ↓e4, ↓hsp2]
      generalize Txt.split ln ⟨#[32]⟩ = ws at *
      have hwl3 : (ws.map D.str).length = ws.length := List.length_map _
      have hww := wgt_len ws
      have hw0 : 0 < ws.length := List.length_pos_iff.mpr hwn
      refine WP_F (next_wp d5 (by omega) (by omega)) fun d m6 q => ?_
      obtain ⟨j, rfl, hj0, hj1, d6, s6, _⟩ := q
      have ss6 := ss5.trans s6
      rw [hwl3] at hj1
      obtain ⟨wj, hwj, e6⟩ := KIx_strs ws hj0 hj1
      have hA3 := cutD_len (ws.map D.str) none (some j)
      have hrep : List.replicate (Int.toNat 2) (D.str wj) = [.str wj, .str wj] := rfl
      simp_arith [↓kLsl_at, ↓e6, hrep]
      refine WP_F (next_wp d6 (by decide) (by decide)) fun d m7 q => ?_
      obtain ⟨o, rfl, ho0, ho1, d7, s7, _⟩ := q
      have ss7 := ss6.trans s7
      obtain ⟨od, hod, e7⟩ := KIx_strs oddT ho0 (by simpa [oddT] using ho1)
      have hod2 := oddT_at hod
      have e8 : ∀ (m : Mem) (k2 : D → Mem → Rs D), KIx [D.str (Str.ofString ""), D.str (Str.ofString "0"), D.str (Str.ofString "00"), D.str (Str.ofString "07"), D.str (Str.ofString "7"), D.str (Str.ofString "8"), D.str (Str.ofString "199"), D.str (Str.ofString "200"), D.str (Str.ofString "999"), D.str (Str.ofString "1000"), D.str (Str.ofString "-1"), D.str (Str.ofString "-"), D.str (Str.ofString "put"), D.str (Str.ofString "rest"), D.str (Str.ofString "stop"), D.str (Str.ofString "if"), D.str (Str.ofString "Put")] o m k2 = k2 (.str od) m := fun m k2 => e7 m k2
      obtain ⟨X, hX, e9⟩ := KIx_map lstS [[], [wj, wj], [od]] (v := v - 6) (by omega) (by simp; omega)
      have e10 : ∀ (m : Mem) (k2 : D → Mem → Rs D), KIx [.lst [], .lst [.str wj, .str wj], .lst [.str od]] (v - 6) m k2 = k2 (.lst (X.map D.str)) m := fun m k2 => e9 m k2
      have hwj2 := hew wj hwj
      have hX2 : wgt X ≤ 2 * ln.length + 10 ∧ SgsL X := by
        simp only [List.mem_cons, List.not_mem_nil, or_false] at hX
        rcases hX with rfl | rfl | rfl
        · exact ⟨Nat.zero_le _, fun p hp => by cases hp⟩
        · refine ⟨?_, fun p hp => ?_⟩
          · rw [show [wj, wj] = [wj] ++ [wj] from rfl, wgt_app, wgt_one]
            omega
          · have : p = wj := by simpa using hp
            rw [this]
            exact hws wj hwj
        · refine ⟨?_, fun p hp => ?_⟩
          · rw [wgt_one]
            omega
          · have : p = od := by simpa using hp
            rw [this]
            exact hod2.2
      have hXl := wgt_len X
      have hXm : (X.map D.str).length = X.length := List.length_map _
      have hB3 := cutD_len (ws.map D.str) (some (j + 1)) none
      have l1 : (cutD (ws.map D.str) none (some j)).length + (X.map D.str).length ≤ sizeLine := by omega
      have l2 : (cutD (ws.map D.str) none (some j) ++ X.map D.str).length + (cutD (ws.map D.str) (some (j + 1)) none).length ≤ sizeLine := by
        rw [List.length_append]
        omega
      have hW : wgt (cutD ws none (some j) ++ X ++ cutD ws (some (j + 1)) none) ≤ 3 * ln.length + 11 := by
        have := wgt_two ws hj0 hj1
        rw [wgt_app, wgt_app]
        omega
      have hWs : SgsL (cutD ws none (some j) ++ X ++ cutD ws (some (j + 1)) none) := ((hws.cut _ _).app hX2.2).app (hws.cut _ _)
      have hj1 : ∀ (m : Mem) (k2 : D → Mem → Rs D), K2 gJoin (.str (Str.ofString " ")) (.lst (cutD (ws.map D.str) none (some j) ++ X.map D.str ++ cutD (ws.map D.str) (some (j + 1)) none)) m k2 = k2 (.str (Txt.join (Str.ofString " ") (cutD ws none (some j) ++ X ++ cutD ws (some (j + 1)) none))) m := fun m k2 => by
        rw [cutD_map, cutD_map, ← List.map_append, ← List.map_append]
        exact K2_joinW len_sp (by omega) m k2
      have hWj := join_wgt len_sp (cutD ws none (some j) ++ X ++ cutD ws (some (j + 1)) none)
      have hWg := join_sgs sgs_sp hWs
      simp_arith [↓e8, ↓e10, ↓hj1]
      generalize Txt.join (Str.ofString " ") (cutD ws none (some j) ++ X ++ cutD ws (some (j + 1)) none) = wl at *
      have l3 : (cutD (ls.map D.str) none (some kk)).length + [D.str wl].length ≤ sizeLine := by
        rw [List.length_cons, List.length_nil]
        omega
      have l4 : (cutD (ls.map D.str) none (some kk) ++ [D.str wl]).length + (cutD (ls.map D.str) (some (kk + 1)) none).length ≤ sizeLine := by
        rw [List.length_append, List.length_cons, List.length_nil]
        omega
      have hY : wgt (cutD ls none (some kk) ++ [wl] ++ cutD ls (some (kk + 1)) none) ≤ 4 * z.length + 15 := by
        have := wgt_two ls hk0 hk1
        rw [wgt_app, wgt_app, wgt_one]
        omega
      have hYs : SgsL (cutD ls none (some kk) ++ [wl] ++ cutD ls (some (kk + 1)) none) := ((hsl.cut _ _).app (fun p hp => by
        have : p = wl := by simpa using hp
        rw [this]
        exact hWg)).app (hsl.cut _ _)
      have hj2 : ∀ (m : Mem) (k2 : D → Mem → Rs D), K2 gJoin (.str (Str.ofString "\n")) (.lst (cutD (ls.map D.str) none (some kk) ++ [D.str wl] ++ cutD (ls.map D.str) (some (kk + 1)) none)) m k2 = k2 (.str (Txt.join (Str.ofString "\n") (cutD ls none (some kk) ++ [wl] ++ cutD ls (some (kk + 1)) none))) m := fun m k2 => by
        rw [cutD_map, cutD_map, show [D.str wl] = [wl].map D.str from rfl, ← List.map_append, ← List.map_append]
        exact K2_joinW len_nl (by omega) m k2
      simp_arith [↓hj2]
      refine .ok ⟨_, rfl, ?_, join_sgs sgs_nl hYs, d7, ss7⟩
      have := join_wgt len_nl (cutD ls none (some kk) ++ [wl] ++ cutD ls (some (kk + 1)) none)
      omega
end
end LB

set_option Elab.async false
set_option linter.all false
set_option autoImplicit false
set_option maxRecDepth 100000
set_option maxHeartbeats 4000000
/-! Plain: the law of texts refused. -/
namespace LB
open PySem L2 TL
noncomputable section
local macro_rules | `(tactic| simp_arith [$as,*]) => `(tactic| simp -implicitDefEqProofs (disch := first | assumption | decide | omega | (simp only [List.length_cons, List.length_nil, Mem.put_n, Mem.new_n, Mem.kill_n]; omega)) only [↓KO_some, ↓K_vr, ↓kVr_0, ↓kVr_s, ↓K_cn, ↓K_pure, ↓K_op2, ↓kOp2a_at, ↓kOp2b_at, ↓K_op1, ↓kOp1_at, ↓K_argN, ↓K_argC, ↓kArg1_at, ↓kArg2_at, ↓K_opN, ↓kOpN_at, ↓K_call, ↓kCall_1, ↓kCall_2, ↓kCall_3, ↓kCall_4, ↓kCall_5, ↓K_tpl, ↓K_lsl, ↓K_lsm, ↓K_dctE, ↓kTpl_0, ↓kTpl_1, ↓kTpl_2, ↓kTpl_3, ↓kTpl_4, ↓kTpl_5, ↓kLsl_0, ↓kLsl_1, ↓kLsl_2, ↓kLsl_3, ↓kLsl_4, ↓kLsm_0, ↓K_tV, ↓kTV_at, ↓K_tAnd, ↓kTAnd_t, ↓kTAnd_f, ↓K_tOr, ↓kTOr_t, ↓kTOr_f, ↓K_tNot, ↓kTNot_t, ↓kTNot_f, ↓kTNot_at, ↓K_tYes, ↓K_vAnd, ↓kVAnd_t, ↓kVAnd_f, ↓K_vOr, ↓kVOr_t, ↓kVOr_f, ↓K_vNot, ↓kVNot_at, ↓K_ifE, ↓kIfE_t, ↓kIfE_f, ↓K_chn, ↓kChn0_at, ↓kChn1_at, ↓kChn2_t, ↓kChn2_f, ↓K_soN, ↓K_soS, ↓kSoS_at, ↓K_slc, ↓kSlc0_at, ↓kSlc1_at, ↓kSlc2_at, ↓KSl_tup, ↓KSl_lst, ↓K_sNext, ↓K_sSeq, ↓kSeq_nx, ↓kSeq_rt, ↓K_sRet, ↓kRet_at, ↓K_sRetN, ↓K_sExp, ↓kExp_at, ↓K_sIf, ↓kIf_t, ↓kIf_f, ↓kSet_0, ↓kSet_s, ↓kUn_c, ↓kUn_n, ↓K_sAsg, ↓kAsg_nm, ↓kAsg_tp, ↓kNms_c, ↓kNmsC_at, ↓kNms_n, ↓K_sPar, ↓kPar1_at, ↓kPar2_at, ↓K_run, ↓kRun_rt, ↓kRun_nx, ↓K2_add_i, ↓K2_sub_i, ↓K2_mul_i, ↓K2_mod_i, ↓K2_fdiv_i, ↓K2_lt_i, ↓K2_le_i, ↓K2_gt_i, ↓K2_ge_i, ↓K2_eq_i, ↓K2_ne_i, ↓K2_eq_st, ↓K2_eq_sf, ↓K2_ne_st, ↓K2_ne_sf, ↓K2_eq_b, ↓K2_add_t, ↓K2_add_l, ↓K1_neg_i, ↓K2_isN_n, ↓K2_isN_i, ↓K2_isN_s, ↓K2_isN_t, ↓K2_isN_l, ↓K2_isN_c, ↓K2_notN_n, ↓K2_notN_i, ↓K2_notN_s, ↓K2_notN_t, ↓K2_notN_l, ↓K2_notN_c, ↓K2_ix_t, ↓K2_ix_l, ↓KIx_0, ↓KIx_1, ↓KIx_2, ↓KIx_3, ↓KIx_4, ↓KIx_m1a, ↓KIx_m1b, ↓KIx_m1c, ↓KIx_m1d, ↓KN_len_t, ↓KN_len_l, ↓KN_max2, ↓KN_min2, ↓KN_int_i, ↓KN_int_t, ↓KN_int_f, ↓KN_tuple_l, ↓KN_tuple_t, ↓KN_maxl, ↓KN_suml, ↓K1_isi_n, ↓K1_isi_b, ↓K1_isi_i, ↓K1_isi_s, ↓K1_isi_t, ↓K1_isi_l, ↓KG_put_eq, ↓KG_put_ne, ↓KG_new_eq, ↓KG_new_ne, ↓KG_kill_ne, ↓K2_ix_c, ↓kIxL_at, ↓KN_len_c, ↓kLenL_l, ↓kLenL_d, ↓KN_tuple_c, ↓kTupL_at, ↓KN_max_c, ↓kMaxL_at, ↓KSl_c, ↓kSlL_at, ↓K_appE, ↓kApp1_at, ↓kApp1b_at, ↓kApp2_at, ↓kApp3_at, ↓K_sLput, ↓kPut1_at, ↓kPut2_at, ↓kPut3_at, ↓kPut4_at, ↓K2_dget_i, ↓K2_dget_s, ↓kDgD_at, ↓KVk_eq, ↓KVk_ne, ↓KVd_eq, ↓KVd_ne, ↓KVd_n, ↓K_dget2, ↓kDg1_at, ↓kDg1b_at, ↓kDg2_at, ↓kDg3_at, ↓kDg4_i, ↓kDg4_s, ↓K_sDput, ↓kDp1_at, ↓kDp2_at, ↓kDp3_i, ↓kDp3_s, ↓kDp4_at, ↓K1_fld, ↓kFldO_at, ↓KFl_eq, ↓KFl_ne, ↓K_sFput, ↓kFp1_at, ↓kFp2_at, ↓kFp3_at, ↓kPf_n, ↓kPf_eq, ↓kPu_c, ↓kPu_n, ↓kPf_ne, ↓K_callM, ↓kMt1_at, ↓kMt2_at, ↓kNo_n, ↓kNo_c, ↓kMt3_0, ↓kMt3_1, ↓kMt3_2, ↓kMt3_3, ↓kMt3_4, ↓K_mkE, ↓kMk_1, ↓kMk_2, ↓kMk_3, ↓kMk2_at, ↓K_sFor, ↓kFor_at, ↓K_itRng1, ↓kRng1_nat, ↓K_itRng2, ↓kRng2_at, ↓K_itSeq, ↓kSeqI_t, ↓kSeqI_l, ↓kSeqI_c, ↓kSeqL_at, ↓K_bodyG_nm, ↓K_bodyG_tp, ↓K_sWhile, ↓kComp_at, ↓K_comp, ↓K_compM, ↓kLst_at, ↓kLstM_at, ↓kEx_at, ↓K_exG_nm, ↓K_exG_tp, ↓kAlc_at, ↓K_opNM, ↓kOpNM_at, ↓KN_list_l2, ↓KN_list_t2, ↓KN_list_c, ↓kListL_at, ↓K_op2M, ↓kOp2Ma_at, ↓kOp2Mb_at, ↓K2_rep1, ↓K_prE_n, ↓K_prE_c, ↓kPr1_at, ↓kPr2_at, ↓kPr3_at, ↓K_dspE, ↓kDsp_s1, ↓kDsp_s2, ↓kDsp_s3, ↓kDsp_s4, ↓K_frz, ↓kFrz_c, ↓kFrz_l, ↓kFrz_t, ↓kFrz_n, ↓kFrzL_at, ↓K_extE, ↓kExt1_at, ↓kExt1b_at, ↓kExt2_at, ↓kExt3_at, ↓K_mt0E, ↓kMt0_at, ↓kMt0L_clear, ↓kMt0L_rev, ↓K2_in_t, ↓K2_in_f, ↓K2_notIn_t, ↓K2_notIn_f, ↓K_itZp, ↓kZp1_at, ↓K_itEn, ↓kEnI_t, ↓kEnI_l, ↓K2_din_i, ↓kDinD_at, ↓KR_put_0, ↓KR_put_1, ↓KR_put_2, ↓KR_put_l, ↓KR_put_into, ↓KR_put_end, ↓KR_put_looked, ↓KR_put_cut, ↓KR_move_0, ↓KR_move_1, ↓KR_move_2, ↓KR_move_l, ↓KR_move_into, ↓KR_move_end, ↓KR_move_looked, ↓KR_move_cut, ↓KR_add_0, ↓KR_add_1, ↓KR_add_2, ↓KR_add_3, ↓KR_add_l, ↓KR_add_into, ↓KR_add_end, ↓KR_add_looked, ↓KR_add_cut, ↓KR_take_0, ↓KR_take_1, ↓KR_take_2, ↓KR_take_3, ↓KR_take_l, ↓KR_take_into, ↓KR_take_end, ↓KR_take_looked, ↓KR_take_cut, ↓KR_times_0, ↓KR_times_1, ↓KR_times_2, ↓KR_times_3, ↓KR_times_l, ↓KR_times_into, ↓KR_times_end, ↓KR_times_looked, ↓KR_times_cut, ↓KR_get_0, ↓KR_get_1, ↓KR_get_2, ↓KR_get_l, ↓KR_get_into, ↓KR_get_end, ↓KR_get_looked, ↓KR_get_cut, ↓KR_set_0, ↓KR_set_1, ↓KR_set_2, ↓KR_set_l, ↓KR_set_into, ↓KR_set_end, ↓KR_set_looked, ↓KR_set_cut, ↓KR_say_0, ↓KR_say_1, ↓KR_say_l, ↓KR_say_into, ↓KR_say_end, ↓KR_say_looked, ↓KR_say_cut, ↓KR_rest_0, ↓KR_rest_l, ↓KR_rest_into, ↓KR_rest_end, ↓KR_rest_looked, ↓KR_rest_cut, ↓KR_go_0, ↓KR_go_1, ↓KR_go_l, ↓KR_go_into, ↓KR_go_end, ↓KR_go_looked, ↓KR_go_cut, ↓KR_ifr_0, ↓KR_ifr_1, ↓KR_ifr_2, ↓KR_ifr_l, ↓KR_ifr_into, ↓KR_ifr_end, ↓KR_ifr_looked, ↓KR_ifr_cut, ↓KR_stop_0, ↓KR_stop_l, ↓KR_stop_into, ↓KR_stop_end, ↓KR_stop_looked, ↓KR_stop_cut, ↓KR_late, ↓KR_far, ↓KR_num, ↓KR_mill_0, ↓KR_mill_1, ↓KR_mill_2, ↓KR_mill_3, ↓KR_pi_len, ↓KA_stop, ↓KA_goes, ↓KA_ends, ↓K_mt1E, ↓kM1_l, ↓kM1_s, ↓kM1b_at, ↓K1_isi_c, ↓kIsiL_at, ↓KN_minl, start0, List.map_cons, List.map_nil, List.length_cons, List.length_nil, List.replicate_succ, List.replicate_zero, Nat.reduceSub, Nat.reduceAdd, wipeE, List.set_cons_zero, List.set_cons_succ, List.cons_append, List.nil_append, $as,*])
theorem word_sgs (r : Row) : Sgs r.word := fun c hc => by
  have z : (List.range 12).all (fun k => (tl (wordAt k)).all (fun c => decide (c < 1114112))) = true := by decide +kernel
  rw [r.word_at] at hc
  exact of_decide_eq_true (List.all_eq_true.mp (List.all_eq_true.mp z _ (List.mem_range.mpr r.kind_lt)) c hc)
theorem progT_sgs {p : List Row} (hN : ∀ r, r ∈ p → RowN p.length r) : Sgs (progT p) := join_sgs sgs_nl fun y hy => by
  obtain ⟨r, hr, rfl⟩ := List.mem_map.mp hy
  refine join_sgs sgs_sp fun w hw => ?_
  rcases List.mem_cons.mp hw with rfl | hw
  · exact word_sgs r
  · obtain ⟨i, hi, rfl⟩ := List.mem_map.mp hw
    have h := (hN r hr).nums i hi
    exact numT_sgs h.1 h.2
theorem progT_len {p : List Row} (hN : ∀ r, r ∈ p → RowN p.length r) (h200 : p.length ≤ 200) : (progT p).length ≤ 5000 := by
  have z := join_le (y := Str.ofString "\n") (ps := p.map rowT) (b := 24) fun y hy => by
    obtain ⟨r, hr, rfl⟩ := List.mem_map.mp hy
    exact rowT_len (hN r hr).nums
  rw [len_nl, List.length_map] at z
  exact Nat.le_trans z (by omega)
def some11 : List Str := ["", "\n", "rest", "rest\n", "go 1", "go 0", "say 8", "put 0 1000", "put 0 00", "rest 0", "Add 0 0 0"]
def rest2 (n : Nat) : Str := Txt.join (Str.ofString "\n") (List.replicate n (Str.ofString "rest"))
def go2 (n : Nat) : Str := Txt.join (Str.ofString "\n") (List.replicate n (Str.ofString "go 200"))
def some17 : List Str := some11 ++ [Str.ofString " rest", Str.ofString "rest ", Str.ofString "if 0 1\nrest", Str.ofString "put 0 -1", rest2 201, rest2 200]
def some18 : List Str := some17 ++ [go2 201]
theorem short_ok : (some11 ++ [Str.ofString " rest", Str.ofString "rest ", Str.ofString "if 0 1\nrest", Str.ofString "put 0 -1", Str.ofString "rest", Str.ofString "go 200"]).all (fun w => decide (w.length ≤ 20) && (tl w).all (fun c => decide (c < 1114112))) = true := by decide +kernel
theorem short_at {w : Str} (h : w ∈ some11 ++ [Str.ofString " rest", "rest ", "if 0 1\nrest", "put 0 -1", "rest", "go 200"]) : w.length ≤ 20 ∧ Sgs w := by
  have z := List.all_eq_true.mp short_ok w h
  rw [Bool.and_eq_true, decide_eq_true_eq] at z
  exact ⟨z.1, fun c hc => of_decide_eq_true (List.all_eq_true.mp z.2 c hc)⟩
theorem wgt_rep (w : Str) : ∀ n, wgt (List.replicate n w) = n * (w.length + 1)
  | 0 => by
    show 0 = _
    omega
  | n + 1 => by
    rw [List.replicate_succ, show w :: List.replicate n w = [w] ++ List.replicate n w from rfl, wgt_app, wgt_one, wgt_rep w n, Nat.succ_mul]
    omega
theorem rep_ok {w : Str} (h : w.length ≤ 20 ∧ Sgs w) {n : Nat} (hn : n ≤ 201) : (Txt.join (Str.ofString "\n") (List.replicate n w)).length ≤ 5000 ∧ Sgs (Txt.join (Str.ofString "\n") (List.replicate n w)) := by
  refine ⟨?_, join_sgs sgs_nl fun y hy => ?_⟩
  · refine Nat.le_trans (join_wgt len_nl _) ?_
    rw [wgt_rep]
    have : n * (w.length + 1) ≤ 201 * 21 := Nat.mul_le_mul hn (by omega)
    omega
  · rw [List.eq_of_mem_replicate hy]
    exact h.2
theorem some18_at {w : Str} (h : w ∈ some18) : w.length ≤ 5000 ∧ Sgs w := by
  have hrest := short_at (w := Str.ofString "rest") (by simp)
  have hgo := short_at (w := Str.ofString "go 200") (by simp)
  have hs : w ∈ some11 ++ [Str.ofString " rest", "rest ", "if 0 1\nrest", "put 0 -1", "rest", "go 200"] ∨ w = rest2 201 ∨ w = rest2 200 ∨ w = go2 201 := by
    simp only [some18, some17, List.mem_append, List.mem_cons, List.not_mem_nil, or_false] at h ⊢
    rcases h with (h | h | h | h | h | h | h) | h
    · exact .inl (.inl h)
    · exact .inl (.inr (.inl h))
    · exact .inl (.inr (.inr (.inl h)))
    · exact .inl (.inr (.inr (.inr (.inl h))))
    · exact .inl (.inr (.inr (.inr (.inr (.inl h)))))
    · exact .inr (.inl h)
    · exact .inr (.inr (.inl h))
    · exact .inr (.inr (.inr h))
  rcases hs with h | rfl | rfl | rfl
  · have z := short_at h
    exact ⟨by omega, z.2⟩
  · exact rep_ok hrest (by decide)
  · exact rep_ok hrest (by decide)
  · exact rep_ok hgo (by decide)
theorem some18_len : some18.length = 18 := rfl
/-! one text, read by both -/
def lines (z : Str) : List Str := Txt.split z ⟨#[10]⟩
theorem isNon_line (z : Str) (rows : Int) : isNonD (lineD z rows) = false → ∃ (w : Str) (os : List (Option Int)), lineD z rows = .tup (.str w :: os.map optD) ∧ os.length ≤ 1000 := by
  intro h
  unfold lineD lineW at h ⊢
  split at h
  · cases h
  · rename_i w r hs
    split at h
    · cases h
    · rename_i k hk
      split at h
      · rename_i hr
        rw [if_pos hr]
        refine ⟨w, r.map numO, rfl, ?_⟩
        unfold isR at hr
        rw [Bool.and_eq_true, decide_eq_true_eq] at hr
        rw [hr.1]
        exact Nat.le_trans (sortsAt_le (kindOf_some hk).1) (by decide)
      · cases h
theorem Al_opt (n : Nat) (m : Mem) (o : Option Int) : Al (n + 1) m (optD o) (optD o) := by
  cases o with
  | none => exact Al_non
  | some i => exact Al_int i
theorem al_rows {ls : List Str} (hb : badsL ls = []) (hl : ls.length ≤ 1000000) (m : Mem) : Al 6 m (.tup (rowsD ls)) (.tup (rowsD ls)) := by
  have hnb : ∀ j, j < ls.length → badK ls j = false := fun j hj => by
    have z := List.filter_eq_nil_iff.mp hb j (List.mem_range.mpr hj)
    cases q : badK ls j with
    | false => rfl
    | true => exact absurd q z
  have hlen : (rowsD ls).length = ls.length := by
    unfold rowsD
    rw [List.length_map, List.length_range]
  refine Al_tup rfl (by rw [hlen]; exact Nat.le_trans hl (by decide)) fun a x y hx hy => ?_
  have e : x = y := Option.some.inj (hx.symm.trans hy)
  subst e
  obtain ⟨j, hj, rfl⟩ := List.mem_map.mp (List.mem_of_getElem? hx)
  have hj2 := hnb j (List.mem_range.mp hj)
  unfold badK at hj2
  rw [Bool.or_eq_false_iff] at hj2
  obtain ⟨w, os, e, ho⟩ := isNon_line _ _ hj2.1
  rw [show rowD ls j = _ from e]
  refine Al_tup rfl (by rw [List.length_cons, List.length_map]; exact Nat.le_trans (show os.length + 1 ≤ 1001 by omega) (by decide)) fun a x y hx hy => ?_
  have e : x = y := Option.some.inj (hx.symm.trans hy)
  subst e
  rcases List.mem_cons.mp (List.mem_of_getElem? hx) with e | hm
  · rw [e]
    exact Al_str _
  · obtain ⟨v, _, rfl⟩ := List.mem_map.mp hm
    exact Al_opt _ _ v
def f_law : SS := sSeq (sAsg (callN 2 m_l_mix (argC (vr 0) (argC (cn (.int 73)) (argN)))) (gNm 1)) (sSeq (sAsg (lsm (argC (cn (.str (Str.ofString ""))) (argC (cn (.str (Str.ofString "\n"))) (argC (cn (.str (Str.ofString "rest"))) (argC (cn (.str (Str.ofString "rest\n"))) (argC (cn (.str (Str.ofString "go 1"))) (argC (cn (.str (Str.ofString "go 0"))) (argC (cn (.str (Str.ofString "say 8"))) (argC (cn (.str (Str.ofString "put 0 1000"))) (argC (cn (.str (Str.ofString "put 0 00"))) (argC (cn (.str (Str.ofString "rest 0"))) (argC (cn (.str (Str.ofString "Add 0 0 0"))) (argN))))))))))))) (gNm 2)) (sSeq (sAsg (op2M gAddL (vr 2) (lsl (argC (cn (.str (Str.ofString " rest"))) (argC (cn (.str (Str.ofString "rest "))) (argC (cn (.str (Str.ofString "if 0 1\nrest"))) (argC (cn (.str (Str.ofString "put 0 -1"))) (argC (mt1E isStr gJoin (cn (.str (Str.ofString "\n"))) (op2 gRep (lsl (argC (cn (.str (Str.ofString "rest"))) (argN))) (cn (.int 201)))) (argC (mt1E isStr gJoin (cn (.str (Str.ofString "\n"))) (op2 gRep (lsl (argC (cn (.str (Str.ofString "rest"))) (argN))) (cn (.int 200)))) (argN))))))))) (gNm 2)) (sSeq (sExp (appE (vr 2) (mt1E isStr gJoin (cn (.str (Str.ofString "\n"))) (op2 gRep (lsl (argC (cn (.str (Str.ofString "go 200"))) (argN))) (cn (.int 201)))))) (sSeq (sFor (itRng1 (argC (cn (.int 5)) (argN))) (gNm 3) (sSeq (sAsg (callN 1 m_written (argC (callN 2 m_l_plain (argC (vr 1) (argC (op2 gIx (lsl (argC (cn (.int 6)) (argC (cn (.int 40)) (argC (cn (.int 200)) (argN))))) (callN 2 m_l_next (argC (vr 1) (argC (cn (.int 3)) (argN))))) (argN)))) (argN))) (gNm 4)) (sSeq (sFor (itRng1 (argC (callN 2 m_l_next (argC (vr 1) (argC (cn (.int 4)) (argN)))) (argN))) (gNm 5) (sAsg (callN 2 m_l_spoilt (argC (vr 1) (argC (vr 4) (argN)))) (gNm 4))) (sFor (itSeq (lsl (argC (vr 4) (argC (op2 gIx (vr 2) (callN 2 m_l_next (argC (vr 1) (argC (cn (.int 18)) (argN))))) (argN))))) (gNm 6) (sSeq (sAsg (mt1E isStr gSplit (vr 6) (cn (.str (Str.ofString "\n")))) (gNm 7)) (sSeq (sAsg (comp (itSeq (vr 7)) (gNm 9) (LB.tYes) (callN 2 m_l_line (argC (vr 9) (argC (opN gLen (argC (vr 7) (argN))) (argN)))) [9]) (gNm 8)) (sSeq (sAsg (comp (itRng1 (argC (opN gLen (argC (vr 8) (argN))) (argN))) (gNm 11) (LB.tOr (tV (op2 gIsN (op2 gIx (vr 8) (vr 11)) (cn .non))) (tV (op2 gGt (vr 11) (cn (.int 199))))) (vr 11) [11]) (gNm 10)) (sIf (tV (op2 gNe (vr 10) (lsl (argN)))) (sIf (tV (op2 gNe (kindE (callN 1 m_read (argC (vr 6) (argN)))) (tpl (argC (cn (.str (Str.ofString "BadText"))) (argC (op2 gIx (vr 10) (cn (.int 0))) (argN)))))) (sRet (cn (.bl false))) (sNext)) (sIf (LB.tNot (tV (callN 2 (m_l_alike 6) (argC (callN 1 m_read (argC (vr 6) (argN))) (argC (opN gTuple (argC (vr 8) (argN))) (argN)))))) (sRet (cn (.bl false))) (sNext)))))))))) (sRet (cn (.bl true)))))))
theorem kind_ne {β : Type} (i : Int) (m : Mem) (k : D → Mem → Rs β) : K2 gNe (.tup [.str (Str.ofString "BadText"), .int i]) (.tup [.str (Str.ofString "BadText"), .int i]) m k = k (.bl false) m := KO_of (by
  have h : eqDeep m (.tup [.str (Str.ofString "BadText"), .int i]) (.tup [.str (Str.ofString "BadText"), .int i]) = some true := by
    unfold eqDeep
    have e1 : res m (.tup [.str (Str.ofString "BadText"), .int i]) = .tup [.str (Str.ofString "BadText"), .int i] := rfl
    have hp : (D.tup [.str (Str.ofString "BadText"), .int i]).plain = true := by
      show ((D.str (Str.ofString "BadText")).plain && true) = true
      have : (D.str (Str.ofString "BadText")).plain = true := by decide +kernel
      rw [this]
      rfl
    rw [e1, if_pos ⟨hp, hp, Nat.le_of_ble_eq_true rfl, Nat.le_of_ble_eq_true rfl⟩]
    have e2 : (D.tup [.str (Str.ofString "BadText"), .int i]).eqv (.tup [.str (Str.ofString "BadText"), .int i]) = ((D.str (Str.ofString "BadText")).eqv (.str (Str.ofString "BadText")) && ((D.int i).eqv (.int i) && true)) := rfl
    have e3 : (D.int i).eqv (.int i) = true := decide_eq_true rfl
    have e4 : ∀ z : Str, (D.str z).eqv (.str z) = true := fun z => decide_eq_true rfl
    rw [e2, e3, e4]
    rfl
  show (eqDeep m (.tup [.str (Str.ofString "BadText"), .int i]) (.tup [.str (Str.ofString "BadText"), .int i])).map (fun b => D.bl (!b)) = _
  rw [h]
  rfl) m k
def oneB : SS := sSeq (sAsg (mt1E isStr gSplit (vr 6) (cn (.str (Str.ofString "\n")))) (gNm 7)) (sSeq (sAsg (comp (itSeq (vr 7)) (gNm 9) (LB.tYes) (callN 2 m_l_line (argC (vr 9) (argC (opN gLen (argC (vr 7) (argN))) (argN)))) [9]) (gNm 8)) (sSeq (sAsg (comp (itRng1 (argC (opN gLen (argC (vr 8) (argN))) (argN))) (gNm 11) (LB.tOr (tV (op2 gIsN (op2 gIx (vr 8) (vr 11)) (cn .non))) (tV (op2 gGt (vr 11) (cn (.int 199))))) (vr 11) [11]) (gNm 10)) (sIf (tV (op2 gNe (vr 10) (lsl (argN)))) (sIf (tV (op2 gNe (kindE (callN 1 m_read (argC (vr 6) (argN)))) (tpl (argC (cn (.str (Str.ofString "BadText"))) (argC (op2 gIx (vr 10) (cn (.int 0))) (argN)))))) (sRet (cn (.bl false))) (sNext)) (sIf (LB.tNot (tV (callN 2 (m_l_alike 6) (argC (callN 1 m_read (argC (vr 6) (argN))) (argC (opN gTuple (argC (vr 8) (argN))) (argN)))))) (sRet (cn (.bl false))) (sNext)))))
theorem one_wp {z : Str} (hz : z.length ≤ 900000) (hs : Sgs z) (e0 e1 e2 e3 e4 e5 a7 a8 a9 a10 a11 : Option D) (m : Mem) : WP (K (oneB [e0, e1, e2, e3, e4, e5, some (.str z), a7, a8, a9, a10, a11]) m Rs.ok) (fun r m2 => Keep m m2 ∧ ∃ b7 b8 b9 b10 b11, r = (.nx, [e0, e1, e2, e3, e4, e5, some (.str z), b7, b8, b9, b10, b11])) fun _ _ => False := by
  have big : (4000000 : Nat) ≤ sizeLine := by decide
  have hsp := fun (m : Mem) (k : D → Mem → Rs (Fl × Ev)) => K2_split (z := z) one_nl (by omega) m k
  have hn := split_count z 10
  have hmem : ∀ y, y ∈ lines z → y.length ≤ 1000000 ∧ Sgs y := fun y hy => ⟨Nat.le_trans (split_each hy) (by omega), split_sgs hs hy⟩
  have hrd : ∀ m, WP (m_read [.str z] m) (fun d m2 => badsL (lines z) = [] ∧ d = .tup (rowsD (lines z)) ∧ Keep m m2) fun er m2 => ∃ b t, badsL (lines z) = b :: t ∧ er = ⟨11, some (.int (b : Nat))⟩ ∧ Keep m m2 := fun m => read_any (by omega) hs m
  have hn2 : (lines z).length ≤ z.length + 1 := hn
  have hsp2 : ∀ (m : Mem) (k : D → Mem → Rs (Fl × Ev)), K2 gSplit (.str z) (.str (Str.ofString "\n")) m k = k (.lst ((lines z).map D.str)) m := hsp
  clear hsp hn
  generalize lines z = ls at *
  have hll : (ls.map D.str).length = ls.length := List.length_map _
  unfold oneB
  simp_arith [↓hsp2, ↓hll, hll]
  refine W_comp (ys := ls) (enc := D.str) (fun i acc m2 => i ≤ ls.length ∧ acc = (List.range i).map (rowD ls) ∧ Keep m m2) rfl (fun i acc m2 _ => rfl) ⟨Nat.zero_le _, rfl, .refl _⟩ (fun i y acc m2 hy hI => ?_) fun acc m2 hI => ?_
  · obtain ⟨_, rfl, kp⟩ := hI
    have hi := (List.getElem?_eq_some_iff.mp hy).1
    have hm := hmem y (List.mem_of_getElem? hy)
    have hr : rowD ls i = lineD y ls.length := by
      unfold rowD
      rw [List.getD_eq_getElem?_getD, hy]
      rfl
    simp_arith [↓K_exG_nm, ↓hll, hll]
    refine WP_F (line_any hm.1 hm.2 ls.length m2) fun d m3 q => ?_
    obtain ⟨rfl, k3⟩ := q
    refine .ok ⟨?_, hi, ?_, kp.trans k3⟩
    · rw [List.length_map, List.length_range]
      omega
    · rw [List.range_succ, List.map_append, List.map_cons, hr]
      rfl
  · obtain ⟨_, rfl, kp⟩ := hI
    have hn62 : ls.length < 4611686018427387904 := by omega
    have hrl : ((List.range ls.length).map (rowD ls)).length = ls.length := by rw [List.length_map, List.length_range]
    have hcm := fun (kk : List D → Mem → Rs (Fl × Ev)) => C_filter (w := wkRng 0 ls.length) (g := gNm 11) (t := LB.tOr (tV (op2 gIsN (op2 gIx (vr 8) (vr 11)) (cn .non))) (tV (op2 gGt (vr 11) (cn (.int 199))))) (e := vr 11) (ρ0 := [e0, e1, e2, e3, e4, e5, some (.str z), some (.lst (ls.map D.str)), some (.lst ((List.range ls.length).map (rowD ls))), a9, a10, none]) (m := m2) (n := ls.length) (k := kk) (List.range ls.length) (fun j => D.int (0 + (j : Nat))) (badK ls) (fun j => D.int (j : Nat)) (by rw [List.length_range]) (by rw [List.length_range]; omega) (fun i _ => wkRng_eq 0 ls.length i m2) (fun j hj => by
      have hjl := List.mem_range.mp hj
      have hix : ∀ (k : D → Mem → Rs Bool) (m : Mem), KIx ((List.range ls.length).map (rowD ls)) (0 + (j : Nat)) m k = k (rowD ls j) m := fun k m => by
        rw [Int.zero_add]
        exact KIx_of (by rw [List.getElem?_map, List.getElem?_range hjl]; rfl) m k
      unfold badK
      cases hA : isNonD (rowD ls j) with
      | true =>
        simp_arith [↓K_exG_nm, ↓hix, ↓K2_isNon, hA]
        rfl
      | false =>
        have e : decide ((199 : Int) < 0 + (j : Nat)) = decide (199 < j) := decide_eq_decide.mpr (by omega)
        simp_arith [↓K_exG_nm, ↓hix, ↓K2_isNon, hA, gt_iff_lt, e]
        rfl) (fun j hj _ => by
      simp_arith [↓K_exG_nm]
      rw [Int.zero_add])
    have hbe : ((List.range ls.length).filter (badK ls)).map (fun j => D.int (j : Nat)) = (badsL ls).map fun j => D.int (j : Nat) := rfl
    have hpl : plains ((badsL ls).map fun j => D.int (j : Nat)) = true := by
      have z := plains_ints ((badsL ls).map fun j : Nat => (j : Int))
      rw [List.map_map] at z
      exact z
    have hdp : deps ((badsL ls).map fun j => D.int (j : Nat)) ≤ 50 := by
      have z := deps_ints ((badsL ls).map fun j : Nat => (j : Int))
      rw [List.map_map] at z
      exact Nat.le_trans (Nat.le_of_eq z) (by decide)
    have hne := fun (k : D → Mem → Rs (Fl × Ev)) (m : Mem) => ne_nil_of hpl hdp m k
    cases hb : badsL ls with
    | nil =>
      have hb1 : (!((badsL ls).map fun j => D.int (j : Nat)).isEmpty) = false := by rw [hb]; rfl
      simp_arith [↓hrl, hrl, ↓K_itRng1, ↓kRng1_nat, ↓hcm, hbe, ↓hne, hb1]
      refine WP_FX (hrd m2) (fun d m3 q => ?_) (fun er m3 q => ?_)
      · obtain ⟨_, rfl, k3⟩ := q
        have ha := alike_ok 6 m3 _ _ (al_rows hb (by omega) m3)
        have ha2 : m_l_alike 6 [.tup (rowsD ls), .tup ((List.range ls.length).map (rowD ls))] m3 = .ok (.bl true) m3 := ha
        simp_arith [↓KF_ok ha2, Bool.not_true]
        exact .ok ⟨kp.trans k3, _, _, _, _, _, rfl⟩
      · obtain ⟨b, t, e, _⟩ := q
        rw [hb] at e
        cases e
    | cons b t =>
      have hb1 : (!((badsL ls).map fun j => D.int (j : Nat)).isEmpty) = true := by rw [hb]; rfl
      have hix0 : ∀ (k : D → Mem → Rs (Fl × Ev)) (m : Mem), KIx ((badsL ls).map fun j => D.int (j : Nat)) 0 m k = k (.int (b : Nat)) m := fun k m => by
        rw [hb, List.map_cons, KIx_0]
      simp_arith [↓hrl, hrl, ↓K_itRng1, ↓kRng1_nat, ↓hcm, hbe, ↓hne, hb1]
      refine WP_kind (q0 := fun _ _ => False) (e0 := fun er m3 => er = ⟨11, some (.int (b : Nat))⟩ ∧ Keep m2 m3) ?_ (fun d m3 q => q.elim) (fun er m3 q => ?_)
      · simp_arith []
        refine WP_FX (hrd m2) (fun d m3 q => ?_) (fun er m3 q => ?_)
        · have := q.1
          rw [hb] at this
          cases this
        · obtain ⟨b2, t2, e, rfl, k3⟩ := q
          rw [hb] at e
          cases e
          exact ⟨rfl, k3⟩
      · obtain ⟨rfl, k3⟩ := q
        refine ⟨.tup [.str (Str.ofString "BadText"), .int (b : Nat)], rfl, ?_⟩
        simp_arith [↓hix0, ↓kind_ne]
        exact .ok ⟨kp.trans k3, _, _, _, _, _, rfl⟩
theorem oneB_eq : sSeq (sAsg (mt1E isStr gSplit (vr 6) (cn (.str (Str.ofString "\n")))) (gNm 7)) (sSeq (sAsg (comp (itSeq (vr 7)) (gNm 9) (LB.tYes) (callN 2 m_l_line (argC (vr 9) (argC (opN gLen (argC (vr 7) (argN))) (argN)))) [9]) (gNm 8)) (sSeq (sAsg (comp (itRng1 (argC (opN gLen (argC (vr 8) (argN))) (argN))) (gNm 11) (LB.tOr (tV (op2 gIsN (op2 gIx (vr 8) (vr 11)) (cn .non))) (tV (op2 gGt (vr 11) (cn (.int 199))))) (vr 11) [11]) (gNm 10)) (sIf (tV (op2 gNe (vr 10) (lsl (argN)))) (sIf (tV (op2 gNe (kindE (callN 1 m_read (argC (vr 6) (argN)))) (tpl (argC (cn (.str (Str.ofString "BadText"))) (argC (op2 gIx (vr 10) (cn (.int 0))) (argN)))))) (sRet (cn (.bl false))) (sNext)) (sIf (LB.tNot (tV (callN 2 (m_l_alike 6) (argC (callN 1 m_read (argC (vr 6) (argN))) (argC (opN gTuple (argC (vr 8) (argN))) (argN)))))) (sRet (cn (.bl false))) (sNext))))) = oneB := rfl
def bnd : Nat → Nat
  | 0 => 5000
  | i + 1 => 5 * bnd i + 40
theorem bnd_le {i : Nat} (h : i ≤ 3) : bnd i ≤ 900000 := by
  have : i = 0 ∨ i = 1 ∨ i = 2 ∨ i = 3 := by omega
  rcases this with rfl | rfl | rfl | rfl <;> decide
theorem rep_join {β : Type} (w : Str) (hw : w.length ≤ 20) {i : Int} (h0 : 0 ≤ i) (h1 : i ≤ 201) (m : Mem) (k : D → Mem → Rs β) : K2 gJoin (.str (Str.ofString "\n")) (.lst (List.replicate i.toNat (D.str w))) m k = k (.str (Txt.join (Str.ofString "\n") (List.replicate i.toNat w))) m := by
  rw [← List.map_replicate]
  refine K2_joinW len_nl ?_ m k
  rw [wgt_rep]
  have : i.toNat * (w.length + 1) ≤ 201 * 21 := Nat.mul_le_mul (by omega) (by omega)
  omega
theorem law_true (ns : List Int) (hl : ns.length ≤ 63) : (run 12 f_law [.scr ns] ⟨fun _ => none, 0⟩).wp (fun d _ => d = .bl true) fun _ _ => False := by
  refine WP.h ?_
  rw [K_start (run 12 f_law _), f_law, oneB_eq]
  simp_arith []
  refine WP_F (mix_wp (by decide) (by omega)) fun d m z => ?_
  obtain ⟨k, c, rfl, d1, _⟩ := z
  have s5 : small62 5 = true := rfl
  have h11 : ∀ (kk : D → Mem → Rs D) (m : Mem), kLsm kk [D.str (Str.ofString ""), D.str (Str.ofString "\n"), D.str (Str.ofString "rest"), D.str (Str.ofString "rest\n"), D.str (Str.ofString "go 1"), D.str (Str.ofString "go 0"), D.str (Str.ofString "say 8"), D.str (Str.ofString "put 0 1000"), D.str (Str.ofString "put 0 00"), D.str (Str.ofString "rest 0"), D.str (Str.ofString "Add 0 0 0")] m = kk (.loc m.n) (m.new (.lst (some11.map D.str))) := fun kk m => kLsm_at kk _ m rfl
  have hr := short_at (w := Str.ofString "rest") (by simp)
  have hg := short_at (w := Str.ofString "go 200") (by simp)
  have j201 := fun (m : Mem) (kk : D → Mem → Rs D) => rep_join (Str.ofString "rest") hr.1 (i := 201) (by decide) (by decide) m kk
  have j200 := fun (m : Mem) (kk : D → Mem → Rs D) => rep_join (Str.ofString "rest") hr.1 (i := 200) (by decide) (by decide) m kk
  have g201 := fun (m : Mem) (kk : D → Mem → Rs D) => rep_join (Str.ofString "go 200") hg.1 (i := 201) (by decide) (by decide) m kk
  have hal : ∀ (kk : D → Mem → Rs D), K2 gAddL (.loc m.n) (.lst [D.str (Str.ofString " rest"), D.str (Str.ofString "rest "), D.str (Str.ofString "if 0 1\nrest"), D.str (Str.ofString "put 0 -1"), D.str (Txt.join (Str.ofString "\n") (List.replicate (Int.toNat 201) (Str.ofString "rest"))), D.str (Txt.join (Str.ofString "\n") (List.replicate (Int.toNat 200) (Str.ofString "rest")))]) (m.new (.lst (some11.map D.str))) kk = kk (.lst (some17.map D.str)) (m.new (.lst (some11.map D.str))) := fun kk => KO_of (by
    unfold gAddL
    rw [lstOf_new]
    show (if (some11.map D.str).length + 6 ≤ sizeLine then some (D.lst (some11.map D.str ++ [D.str (Str.ofString " rest"), D.str (Str.ofString "rest "), D.str (Str.ofString "if 0 1\nrest"), D.str (Str.ofString "put 0 -1"), D.str (Txt.join (Str.ofString "\n") (List.replicate (Int.toNat 201) (Str.ofString "rest"))), D.str (Txt.join (Str.ofString "\n") (List.replicate (Int.toNat 200) (Str.ofString "rest")))])) else none) = _
    rw [if_pos (show (some11.map D.str).length + 6 ≤ sizeLine from (show 11 + 6 ≤ sizeLine by decide))]
    rfl) _ kk
  have h17 : (some17.map D.str).length < sizeLine := show 17 < sizeLine by decide
  simp_arith [↓h11, ↓j201, ↓j200, ↓kLsl_at, ↓hal, ↓g201, Mem.put_new']
  have e18 : some17.map D.str ++ [D.str (Txt.join (Str.ofString "\n") (List.replicate (Int.toNat 201) (Str.ofString "go 200")))] = some18.map D.str := rfl
  rw [e18]
  have kp5 : Keep m ((m.new (.lst (some11.map D.str))).new (.lst (some18.map D.str))) := (Keep.new _ _).trans (.new _ _)
  have hsn : m.n < (m.new (.lst (some11.map D.str))).n := Nat.lt_succ_self _
  have d5 := d1.keep kp5
  have g5 : ((m.new (.lst (some11.map D.str))).new (.lst (some18.map D.str))).get (m.new (.lst (some11.map D.str))).n = some (.lst (some18.map D.str)) := if_pos rfl
  have hs5 : (m.new (.lst (some11.map D.str))).n < ((m.new (.lst (some11.map D.str))).new (.lst (some18.map D.str))).n := Nat.lt_succ_self _
  have hks : (m.new (.lst (some11.map D.str))).n ≠ k := fun e => by
    have := d1.kn
    omega
  have hcs : (m.new (.lst (some11.map D.str))).n ≠ c := fun e => by
    have := d1.cn
    omega
  generalize ((m.new (.lst (some11.map D.str))).new (.lst (some18.map D.str))) = m5 at *
  generalize (m.new (.lst (some11.map D.str))).n = s at *
  simp_arith [↓K_sFor, ↓kRng1_at]
  refine W_rng (fun i ρ m2 => Drw k c m2 ∧ s < m2.n ∧ m2.get s = some (.lst (some18.map D.str)) ∧ ∃ a3 a4 a5 a6 a7 a8 a9 a10 a11, ρ = [some (.scr ns), some (.loc k), some (.loc s), a3, a4, a5, a6, a7, a8, a9, a10, a11]) ⟨d5, hs5, g5, _, _, _, _, _, _, _, _, _, rfl⟩ (fun i ρ m2 hi hI => ?_) fun ρ m2 hI => ?_
  · obtain ⟨d2, sn2, g2, a3, a4, a5, a6, a7, a8, a9, a10, a11, rfl⟩ := hI
    simp_arith [↓K_bodyG_nm]
    refine WP_F (next_wp d2 (by decide) (by decide)) fun d m3 q => ?_
    obtain ⟨v, rfl, hv0, hv1, d3, s3, _⟩ := q
    obtain ⟨w, hw, e1⟩ := KIx_nats [6, 40, 200] (v := v) hv0 hv1
    have e2 : ∀ (m : Mem) (kk : D → Mem → Rs (Fl × Ev)), KIx [.int 6, .int 40, .int 200] v m kk = kk (.int (w : Nat)) m := fun m kk => e1 m kk
    have hw2 : 0 < w ∧ w ≤ 200 := by simp at hw; omega
    simp_arith [↓e2]
    refine WP_F (plain_wp d3 hw2.1 (by omega)) fun d m4 q => ?_
    obtain ⟨p, rfl, hp, d4, s4⟩ := q
    have hpo : ProgOk p := ⟨hp.one, Nat.le_trans hp.most hw2.2, hp.rows⟩
    have hN : ∀ r, r ∈ p → RowN p.length r := fun r hr => rowN_of (hpo.rows r hr) hpo.most
    simp_arith [↓KF_ok (written_run hpo m4)]
    refine WP_F (next_wp d4 (by decide) (by decide)) fun d m6 q => ?_
    obtain ⟨n', rfl, hn0, hn1, d6, s6, _⟩ := q
    obtain ⟨n, rfl⟩ := Int.eq_ofNat_of_zero_le hn0
    have hn3 : n < 4611686018427387904 := by omega
    have ss6 := (s3.trans s4).trans s6
    simp_arith [↓K_sFor, ↓kRng1_nat]
    refine W_rng (fun j ρ m7 => Drw k c m7 ∧ Same k c m2 m7 ∧ ∃ (z : Str) (a5 : Option D), z.length ≤ bnd j ∧ Sgs z ∧ ρ = [some (.scr ns), some (.loc k), some (.loc s), some (.int (0 + (i : Nat))), some (.str z), a5, a6, a7, a8, a9, a10, a11]) ⟨d6, ss6, progT p, _, progT_len hN hpo.most, progT_sgs hN, rfl⟩ (fun j ρ m7 hj hJ => ?_) fun ρ m7 hJ => ?_
    · obtain ⟨d7, s7, z, a5, zl, zs, rfl⟩ := hJ
      have hb := bnd_le (i := j) (by omega)
      simp_arith [↓K_bodyG_nm]
      refine WP_F (spoilt_wp d7 (by omega) zs) fun d m8 q => ?_
      obtain ⟨y, rfl, yl, ys, d8, s8⟩ := q
      simp_arith []
      refine .ok ⟨d8, s7.trans s8, y, _, ?_, ys, rfl⟩
      show y.length ≤ 5 * bnd j + 40
      omega
    · obtain ⟨d7, s7, z, a5, zl, zs, rfl⟩ := hJ
      have hb := bnd_le (i := n) (by omega)
      have hzl : z.length ≤ 900000 := Nat.le_trans zl hb
      simp_arith []
      refine WP_F (next_wp d7 (by decide) (by decide)) fun d m8 q => ?_
      obtain ⟨u, rfl, hu0, hu1, d8, s8, _⟩ := q
      have s28 := s7.trans s8
      have g8 : m8.get s = some (.lst (some18.map D.str)) := (s28.at_ s sn2 hks hcs).trans g2
      have sn8 : s < m8.n := Nat.lt_of_lt_of_le sn2 s28.n
      obtain ⟨x, hx, e3⟩ := KIx_strs some18 hu0 (by rw [some18_len]; exact hu1)
      have hx2 := some18_at hx
      simp_arith [↓KG_of g8, ↓e3, ↓K_sFor]
      refine W_seq (ys := [z, x]) (enc := D.str) (fun j ρ m9 => Keep m8 m9 ∧ ∃ a6 a7 a8 a9 a10 a11, ρ = [some (.scr ns), some (.loc k), some (.loc s), some (.int (0 + (i : Nat))), some (.str z), a5, a6, a7, a8, a9, a10, a11]) rfl (fun j ρ m9 _ => rfl) ⟨.refl _, _, _, _, _, _, _, rfl⟩ (fun j y ρ m9 hy hJ => ?_) fun ρ m9 hJ => ?_
      · obtain ⟨k9, b6, b7, b8, b9, b10, b11, rfl⟩ := hJ
        have hy2 : y.length ≤ 900000 ∧ Sgs y := by
          have := List.mem_of_getElem? hy
          simp only [List.mem_cons, List.not_mem_nil, or_false] at this
          rcases this with rfl | rfl
          · exact ⟨hzl, zs⟩
          · exact ⟨by omega, hx2.2⟩
        simp_arith [↓K_bodyG_nm]
        have z1 := one_wp hy2.1 hy2.2 (some (.scr ns)) (some (.loc k)) (some (.loc s)) (some (.int (0 + (i : Nat)))) (some (.str z)) a5 b7 b8 b9 b10 b11 m9
        refine WP.monoX z1 (fun rr m10 q => ?_) (fun _ _ q => q.elim)
        obtain ⟨k10, c7, c8, c9, c10, c11, rfl⟩ := q
        exact ⟨k9.trans k10, _, _, _, _, _, _, rfl⟩
      · obtain ⟨k9, b6, b7, b8, b9, b10, b11, rfl⟩ := hJ
        exact .ok ⟨d8.keep k9, Nat.lt_of_lt_of_le sn8 k9.n, (k9.at_ s sn8).trans g8, _, _, _, _, _, _, _, _, _, rfl⟩
  · obtain ⟨d2, sn2, g2, a3, a4, a5, a6, a7, a8, a9, a10, a11, rfl⟩ := hI
    simp_arith []
    exact .ok rfl
end
end LB

set_option Elab.async false
set_option linter.all false
set_option maxRecDepth 100000
set_option maxHeartbeats 0
namespace LB
open PySem PySem.Spec PyProof.Rows L2
abbrev N_l_alike : List Str := ["_law_found", "_law_due", "_law_k"]
theorem S_l_alike : FnScope N_l_alike ["_law_found", "_law_due"] (defScope s_l_alike) := ⟨rfl, rfl, rfl, by decide +kernel, rfl, by decide +kernel, by decide +kernel⟩
abbrev N_l_line : List Str := ["_law_line_here", "_law_rows", "_law_forms", "_law_word", "_law_words", "_law_form", "_law_found", "_law_sort", "_law_sign"]
theorem S_l_line : FnScope N_l_line ["_law_line_here", "_law_rows"] (defScope s_l_line) := ⟨rfl, rfl, rfl, by decide +kernel, rfl, by decide +kernel, by decide +kernel⟩
abbrev N_l_mix : List Str := ["_law_script", "_law_seed", "_law_mixed", "_law_cell"]
theorem S_l_mix : FnScope N_l_mix ["_law_script", "_law_seed"] (defScope s_l_mix) := ⟨rfl, rfl, rfl, by decide +kernel, rfl, by decide +kernel, by decide +kernel⟩
abbrev N_l_next : List Str := ["_law_h", "_law_many", "_law_at", "_law_cell"]
theorem S_l_next : FnScope N_l_next ["_law_h", "_law_many"] (defScope s_l_next) := ⟨rfl, rfl, rfl, by decide +kernel, rfl, by decide +kernel, by decide +kernel⟩
abbrev N_l_boxes : List Str := ["_law_h"]
theorem S_l_boxes : FnScope N_l_boxes ["_law_h"] (defScope s_l_boxes) := ⟨rfl, rfl, rfl, by decide +kernel, rfl, by decide +kernel, by decide +kernel⟩
abbrev N_l_number : List Str := ["_law_h"]
theorem S_l_number : FnScope N_l_number ["_law_h"] (defScope s_l_number) := ⟨rfl, rfl, rfl, by decide +kernel, rfl, by decide +kernel, by decide +kernel⟩
abbrev N_l_deed : List Str := ["_law_h", "_law_e", "_law_words", "_law_word", "_law_b", "_law_c", "_law_d", "_law_k"]
theorem S_l_deed : FnScope N_l_deed ["_law_h", "_law_e"] (defScope s_l_deed) := ⟨rfl, rfl, rfl, by decide +kernel, rfl, by decide +kernel, by decide +kernel⟩
abbrev N_l_jump : List Str := ["_law_h", "_law_e", "_law_at", "_law_rows", "_law_goal", "_law_box"]
theorem S_l_jump : FnScope N_l_jump ["_law_h", "_law_e", "_law_at", "_law_rows"] (defScope s_l_jump) := ⟨rfl, rfl, rfl, by decide +kernel, rfl, by decide +kernel, by decide +kernel⟩
abbrev N_l_plain : List Str := ["_law_h", "_law_most", "_law_e", "_law_rows", "_law_often", "_law_at"]
theorem S_l_plain : FnScope N_l_plain ["_law_h", "_law_most"] (defScope s_l_plain) := ⟨rfl, rfl, rfl, by decide +kernel, rfl, by decide +kernel, by decide +kernel⟩
abbrev N_l_spoilt : List Str := ["_law_h", "_law_text", "_law_turn", "_law_at", "_law_signs", "_law_sign", "_law_lines", "_law_k", "_law_words", "_law_j", "_law_odd"]
theorem S_l_spoilt : FnScope N_l_spoilt ["_law_h", "_law_text"] (defScope s_l_spoilt) := ⟨rfl, rfl, rfl, by decide +kernel, rfl, by decide +kernel, by decide +kernel⟩
abbrev N_is_number : List Str := ["part", "low", "high"]
theorem S_is_number : FnScope N_is_number ["part", "low", "high"] (defScope s_is_number) := ⟨rfl, rfl, rfl, by decide +kernel, rfl, by decide +kernel, by decide +kernel⟩
abbrev N_is_row : List Str := ["row", "rows", "most", "form", "part", "sort"]
theorem S_is_row : FnScope N_is_row ["row", "rows"] (defScope s_is_row) := ⟨rfl, rfl, rfl, by decide +kernel, rfl, by decide +kernel, by decide +kernel⟩
abbrev N_number_of : List Str := ["word", "sign"]
theorem S_number_of : FnScope N_number_of ["word"] (defScope s_number_of) := ⟨rfl, rfl, rfl, by decide +kernel, rfl, by decide +kernel, by decide +kernel⟩
abbrev N_row_of : List Str := ["line", "rows", "words", "row", "word"]
theorem S_row_of : FnScope N_row_of ["line", "rows"] (defScope s_row_of) := ⟨rfl, rfl, rfl, by decide +kernel, rfl, by decide +kernel, by decide +kernel⟩
abbrev N_read : List Str := ["text", "lines", "found", "number", "row"]
theorem S_read : FnScope N_read ["text"] (defScope s_read) := ⟨rfl, rfl, rfl, by decide +kernel, rfl, by decide +kernel, by decide +kernel⟩
abbrev N_need_program : List Str := ["program", "number"]
theorem S_need_program : FnScope N_need_program ["program"] (defScope s_need_program) := ⟨rfl, rfl, rfl, by decide +kernel, rfl, by decide +kernel, by decide +kernel⟩
abbrev N_written : List Str := ["program", "row", "part"]
theorem S_written : FnScope N_written ["program"] (defScope s_written) := ⟨rfl, rfl, rfl, by decide +kernel, rfl, by decide +kernel, by decide +kernel⟩
abbrev N_law : List Str := ["_law_script", "_law_h", "_law_some", "_law_turn", "_law_text", "_law_change", "_law_one", "_law_lines", "_law_found", "_law_line_here", "_law_bad", "_law_k"]
theorem S_law : FnScope N_law ["_law_script"] (defScope s_law) := ⟨rfl, rfl, rfl, by decide +kernel, rfl, by decide +kernel, by decide +kernel⟩
abbrev N_l_kind : List Str := ["_law_work", "_law_e", "_law_kinds", "_law_words"]
theorem S_l_kind : FnScope N_l_kind ["_law_work"] (defScope s_l_kind) := ⟨rfl, rfl, rfl, by decide +kernel, rfl, by decide +kernel, by decide +kernel⟩
abbrev N_BadProgram___init__ : List Str := ["self", "row"]
theorem S_BadProgram___init__ : FnScope N_BadProgram___init__ ["self", "row"] (defScope s_BadProgram___init__) := ⟨rfl, rfl, rfl, by decide +kernel, rfl, by decide +kernel, by decide +kernel⟩
abbrev N_BadText___init__ : List Str := ["self", "line"]
theorem S_BadText___init__ : FnScope N_BadText___init__ ["self", "line"] (defScope s_BadText___init__) := ⟨rfl, rfl, rfl, by decide +kernel, rfl, by decide +kernel, by decide +kernel⟩
abbrev C (w : World) (K : PySem.W.Frag) (mg : Str → Option Value) : Prop := Ctx fa fn ts ex w K mg
def CAf (K : PySem.W.Frag) : Nat → Addr
  | 5 => He.ga K "BadProgram"
  | 6 => He.ga K "BadMill"
  | 7 => He.ga K "BadCells"
  | 8 => He.ga K "BadFuel"
  | 9 => He.ga K "BadPiece"
  | 10 => He.ga K "TooMany"
  | 11 => He.ga K "BadText"
  | _ => 0
def XNf : Nat → Str
  | 5 => "row"
  | 11 => "line"
  | _ => Str.empty
abbrev PK (w : World) (K : PySem.W.Frag) : Pm := { K := K, CA := CAf K, XN := XNf, NH := NestedKey.hash w, T := [((He.cT K ("law", none)).2, lamQ "law" (defScope s_law))] }
theorem bb_bool : bootBuiltins "bool" = some (.type "bool") := by decide +kernel
theorem bb_dict : bootBuiltins "dict" = some (.type "dict") := by decide +kernel
theorem bb_int : bootBuiltins "int" = some (.type "int") := by decide +kernel
theorem bb_isinstance : bootBuiltins "isinstance" = some (.builtin "isinstance") := by decide +kernel
theorem bb_len : bootBuiltins "len" = some (.builtin "len") := by decide +kernel
theorem bb_list : bootBuiltins "list" = some (.type "list") := by decide +kernel
theorem bb_max : bootBuiltins "max" = some (.builtin "max") := by decide +kernel
theorem bb_min : bootBuiltins "min" = some (.builtin "min") := by decide +kernel
theorem bb_str : bootBuiltins "str" = some (.type "str") := by decide +kernel
theorem bb_tuple : bootBuiltins "tuple" = some (.type "tuple") := by decide +kernel
section
variable {Pg : Program} {w : World} {K : PySem.W.Frag} {mg : Str → Option Value} {base : Heap}
theorem tb_FORMS (c : C w K mg) : Tb K w mg "FORMS" tbF := tb_of (c.glo 47) (c.tab 0) ((Bool.and_eq_true_iff.mp (Bool.and_eq_true_iff.mp (Bool.and_eq_true_iff.mp (Bool.and_eq_true_iff.mp c.more).2).2).2).2)
theorem kindF (c : C w K mg) : KindF K (PK w K) := ⟨fun p hp => by
  simp only [errN, List.mem_cons, List.not_mem_nil, or_false] at hp
  rcases hp with rfl | rfl | rfl | rfl | rfl | rfl | rfl <;> rfl, (Bool.and_eq_true_iff.mp c.more).1, (Bool.and_eq_true_iff.mp (Bool.and_eq_true_iff.mp c.more).2).1⟩
theorem gives_kind {X : Cx} {cdg : Value} {q : Str} (c : C X.w X.K X.mg) (kf : KindF X.K (PK X.w X.K)) (hr : Room 1 X.A) : LamX.GivesTo X N_l_kind "_law_kind" (defScope s_l_kind) (He.ga X.K "_law_kind") cdg (defBody s_l_kind) "_law_work" q (TTk (PK X.w X.K)) := by
  have S := S_l_kind
  refine kind_gives (P := PK X.w X.K) (Ng := N_l_kind) (x := "_law_kind") (sg := defScope s_l_kind) (le := "LateError") (n := "_law_e") (CL := He.ga X.K "LateError") (fS := f_l_kindS) rfl rfl S.nd rfl (fun _ => rfl) rfl (c.glo 26) (by decide) (fun _ => rfl) (fun _ => rfl) kf.exm (fun s H a oe d pn er dd hk hz hf hd => ?_) kindS_ok
  have hun : X.A.units + 3 + 200 < cLine := by have := hr.un; omega
  exact xss_cons (xs_set (i := 2) S.nd (xe_lsl (xa_cons (xk_isi (i := 1) (kf.xk hk) hz hf hd.at rfl (c.free 5) bb_isinstance rfl (Or.inl rfl) (xk_cls rfl (c.glo 6)) (fun _ r => r) (kf.kit hk 0 rfl)) (xa_cons (xk_isi (i := 1) (kf.xk hk) hz hf hd.at rfl (c.free 5) bb_isinstance rfl (Or.inl rfl) (xk_cls rfl (c.glo 20)) (fun _ r => r) (kf.kit hk 1 rfl)) (xa_cons (xk_isi (i := 1) (kf.xk hk) hz hf hd.at rfl (c.free 5) bb_isinstance rfl (Or.inl rfl) (xk_cls rfl (c.glo 21)) (fun _ r => r) (kf.kit hk 2 rfl)) (xa_cons (xk_isi (i := 1) (kf.xk hk) hz hf hd.at rfl (c.free 5) bb_isinstance rfl (Or.inl rfl) (xk_cls rfl (c.glo 22)) (fun _ r => r) (kf.kit hk 3 rfl)) (xa_nil))))))) (xss_cons (xs_set (i := 2) S.nd (xe_op op_addA op2_add (xe_vr 2) (xe_lsl (xa_cons (xk_isi (i := 1) (kf.xk hk) hz hf hd.at rfl (c.free 5) bb_isinstance rfl (Or.inl rfl) (xk_cls rfl (c.glo 23)) (fun _ r => r) (kf.kit hk 4 rfl)) (xa_cons (xk_isi (i := 1) (kf.xk hk) hz hf hd.at rfl (c.free 5) bb_isinstance rfl (Or.inl rfl) (xk_cls rfl (c.glo 24)) (fun _ r => r) (kf.kit hk 5 rfl)) (xa_cons (xk_isi (i := 1) (kf.xk hk) hz hf hd.at rfl (c.free 5) bb_isinstance rfl (Or.inl rfl) (xk_cls rfl (c.glo 13)) (fun _ r => r) (kf.kit hk 6 rfl)) (xa_nil))))))) (xss_cons (xs_if (PW.pt (xw_or (xt_cmp (op_neU hun) op2_ne (xe_count rfl (xe_vr 2) (xe_bl)) (xe_int) (nomark _)) (xw_or1 (xt_not (xt_V (xk_isi (i := 1) (kf.xk hk) hz hf hd.at rfl (c.free 5) bb_isinstance rfl (Or.inl rfl) (xk_ve rfl (c.free 25)) (fun _ r => r) (kf.ve hk))))))) (xss_one (xs_ret (xe_str))) (xss_nil)) (xss_cons (xs_if (xt_V (xe_ix ix_seq op2_ix (xe_vr 2) (xe_int) (fun _ _ => rfl))) (xss_one (xs_ret (xe_tpl (xa_cons (xe_str) (xa_cons (xk_fld (i := 1) kf.flds.1 kf.flds.2.2.1 hz hf rfl (Or.inl rfl) (kf.got hd 0 rfl rfl)) (xa_nil)))))) (xss_nil)) (xss_cons (xs_set (i := 3) S.nd (xe_lsl (xa_cons (xe_str) (xa_cons (xe_str) (xa_cons (xe_str) (xa_cons (xe_str) (xa_cons (xe_str) (xa_cons (xe_str) (xa_nil))))))))) (xss_one (xs_ret (xe_if (xt_V (xe_ix ix_seq op2_ix (xe_vr 2) (xe_int) (fun _ _ => rfl))) (xe_tpl (xa_cons (xe_str) (xa_cons (xk_fld (i := 1) kf.flds.2.1 kf.flds.2.2.2 hz hf rfl (Or.inl rfl) (kf.got hd 6 rfl rfl)) (xa_nil)))) (xe_ix ix_seq op2_ix (xe_vr 3) (xe_index rfl (xe_vr 2) (xe_bl)) (fun _ _ => rfl)))))))))
theorem raise_BadProgram {X : Cx} {E : XK} {e : Expr} {fe : SE} {p pos pos2 : PySem.Pos} (c : C X.w X.K X.mg) (hr : Room 2 X.A) (hc : X.calm = true) (hg : Gl X "BadProgram") (tk : Takes X (fun cls d _ H => E cls d H)) (ha : PE X e (tX (PK X.w X.K) E fe))
    (he : starEach (e :: []) X.env = (false, eval e X.env) :: starEach [] X.env := by rfl) (hpl : (backTo pos (starEach [] X.env)).any (·.1) = false := by rfl) : PS X (.Raise (some (.Call (.Name "BadProgram" p) [e] [] pos)) none pos2) (tXS (PK X.w X.K) E (sRaiseF 5 fe)) :=
  xs_raiseI (f := "row") (body := defBody s_BadProgram___init__) c 6 27 26 19 (Bool.and_eq_true_iff.mp (Bool.and_eq_true_iff.mp (Bool.and_eq_true_iff.mp c.more).2).2).1 S_BadProgram___init__ (fun _ _ _ _ _ _ us hl => match us, hl with | [_, _], _ => rfl) (fun L fI hL h1 h2 h3 cdv A outer s H E => pss_cons (ps_expr (pe_baseinit rfl hL h1 h2 h3 (pa_cons (pv 0) (pa_cons (pv 1) pa_nil)))) (pss_one (ps_ost (pv 0) (pv 1)))) hr hc hg tk rfl rfl ha rfl rfl rfl rfl (by decide) he hpl
theorem raise_BadText {X : Cx} {E : XK} {e : Expr} {fe : SE} {p pos pos2 : PySem.Pos} (c : C X.w X.K X.mg) (hr : Room 2 X.A) (hc : X.calm = true) (hg : Gl X "BadText") (tk : Takes X (fun cls d _ H => E cls d H)) (ha : PE X e (tX (PK X.w X.K) E fe))
    (he : starEach (e :: []) X.env = (false, eval e X.env) :: starEach [] X.env := by rfl) (hpl : (backTo pos (starEach [] X.env)).any (·.1) = false := by rfl) : PS X (.Raise (some (.Call (.Name "BadText" p) [e] [] pos)) none pos2) (tXS (PK X.w X.K) E (sRaiseF 11 fe)) :=
  xs_raiseI (f := "line") (body := defBody s_BadText___init__) c 13 28 26 20 (Bool.and_eq_true_iff.mp (Bool.and_eq_true_iff.mp (Bool.and_eq_true_iff.mp (Bool.and_eq_true_iff.mp c.more).2).2).2).1 S_BadText___init__ (fun _ _ _ _ _ _ us hl => match us, hl with | [_, _], _ => rfl) (fun L fI hL h1 h2 h3 cdv A outer s H E => pss_cons (ps_expr (pe_baseinit rfl hL h1 h2 h3 (pa_cons (pv 0) (pa_cons (pv 1) pa_nil)))) (pss_one (ps_ost (pv 0) (pv 1)))) hr hc hg tk rfl rfl ha rfl rfl rfl rfl (by decide) he hpl
theorem cal_l_alike : ∀ (n : Nat) (c : C w K mg), Cal Pg w K mg base (PK w K) "_law_alike" (n + 1) 2 (m_l_alike n)
  | 0, c => cal_of (k := 0) c (st := s_l_alike) (N := N_l_alike) (fb := sBad) 29 0 S_l_alike (fun _ _ _ _ _ _ us hl => match us, hl with | [_, _], _ => rfl) (fun ds m _ => .bad _) fun f cdv A outer s H E hr hp ho => xss_never
  | n + 1, c => by
    have S := S_l_alike
    have h_rec : Cal Pg w K mg base (PK w K) "_law_alike" (n + 1) 2 (m_l_alike n) := cal_l_alike n c
    have e : n + 1 + 1 = (n + 1) + 1 := by omega
    rw [e]
    exact cal_of c (st := s_l_alike) (N := N_l_alike) (fb := f_l_alike (m_l_alike n)) (k := n + 1) 29 0 S (fun _ _ _ _ _ _ us hl => match us, hl with | [_, _], _ => rfl) (fun ds m _ => le_l_alike n ds m) fun f cdv A outer s H E hr hp ho => xss_cons (xs_if (xt_V (xe_isi2 rfl (by decide) (by decide) rfl (c.free 5) rfl (c.free 3) bb_tuple rfl (c.free 18) bb_list (xe_vr 1))) (xss_cons (xs_if (PW.pt (xw_or (xt_not (xt_V (xe_isi2 rfl (by decide) (by decide) rfl (c.free 5) rfl (c.free 3) bb_tuple rfl (c.free 18) bb_list (xe_vr 0)))) (xw_or1 (xt_cmp (op_neA hr) op2_ne (xe_isi rfl (by decide) rfl (c.free 5) rfl (c.free 18) bb_list (xe_vr 0)) (xe_isi rfl (by decide) rfl (c.free 5) rfl (c.free 18) bb_list (xe_vr 1)) (nomark _))))) (xss_one (xs_ret (xe_bl))) (xss_nil)) (xss_cons (xs_if (xt_cmp (op_neA hr) op2_ne (xe_callB call_lenA opN_len rfl (c.free 1) bb_len (xa_cons (xe_vr 0) (xa_nil))) (xe_callB call_lenA opN_len rfl (c.free 1) bb_len (xa_cons (xe_vr 1) (xa_nil))) (nomark _)) (xss_one (xs_ret (xe_bl))) (xss_nil)) (xss_one (xs_ret (xe_cmp (op_eqA hr) op2_eq (xe_comp (own := [("_law_k", 2)]) rfl S.nd (xi_rng1 rfl (c.free 0) (xa_cons (xe_callB call_lenA opN_len rfl (c.free 1) bb_len (xa_cons (xe_vr 1) (xa_nil))) (xa_nil))) (blkOk_by (own := [("_law_k", 2)]) (N := N_l_alike) (sc := defScope s_l_alike) (by decide +kernel)) (fun _ _ _ _ _ => xg_nm (i := 2) S.nd) (fun _ _ _ _ _ => xts_one (xt_not (xt_V (xe_callC h_rec (hr.mono (by omega)) passL (xa_cons (xe_ix ix_seq op2_ix (xe_vr 0) (xe_vr 2) (fun _ _ => rfl)) (xa_cons (xe_ix ix_seq op2_ix (xe_vr 1) (xe_vr 2) (fun _ _ => rfl)) (xa_nil))))))) (fun _ _ _ _ _ => xe_vr 2) (by decide)) (xe_lsl (xa_nil)) (nomark _)))))) (xss_nil)) (xss_cons (xs_if (xt_cmp op_isN op2_isN (xe_vr 1) (xe_non) (nomark _)) (xss_one (xs_ret (xe_cmp op_isN op2_isN (xe_vr 0) (xe_non) (nomark _)))) (xss_nil)) (xss_cons (xs_if (xt_V (xe_isi rfl (by decide) rfl (c.free 5) rfl (c.free 4) bb_str (xe_vr 1))) (xss_one (xs_ret (xe_and (xe_isi rfl (by decide) rfl (c.free 5) rfl (c.free 4) bb_str (xe_vr 0)) (xe_one (xe_cmp (op_eqA hr) op2_eq (xe_vr 0) (xe_vr 1) (nomark _)))))) (xss_nil)) (xss_cons (xs_if (PW.pt (xw_or (xt_V (xe_isi rfl (by decide) rfl (c.free 5) rfl (c.free 12) bb_bool (xe_vr 1))) (xw_or1 (xt_V (xe_isi rfl (by decide) rfl (c.free 5) rfl (c.free 12) bb_bool (xe_vr 0)))))) (xss_one (xs_ret (xe_and (xe_isi rfl (by decide) rfl (c.free 5) rfl (c.free 12) bb_bool (xe_vr 1)) (xe_and (xe_isi rfl (by decide) rfl (c.free 5) rfl (c.free 12) bb_bool (xe_vr 0)) (xe_one (xe_cmp (op_eqA hr) op2_eq (xe_vr 0) (xe_vr 1) (nomark _))))))) (xss_nil)) (xss_one (xs_ret (xe_and (xe_isi rfl (by decide) rfl (c.free 5) rfl (c.free 11) bb_int (xe_vr 0)) (xe_one (xe_cmp (op_eqA hr) op2_eq (xe_vr 0) (xe_vr 1) (nomark _)))))))))
theorem cal_l_line (c : C w K mg) : Cal Pg w K mg base (PK w K) "_law_line" 1 2 m_l_line := by
  have S := S_l_line
  exact cal_of c (st := s_l_line) (N := N_l_line) (fb := f_l_line) 30 1 S (fun _ _ _ _ _ _ us hl => match us, hl with | [_, _], _ => rfl) (fun ds m _ => le_l_line ds m) fun f cdv A outer s H E hr hp ho => xss_cons (xs_set (i := 2) S.nd (xe_dsp (xp_cons (xe_str) (xe_str) (xp_cons (xe_str) (xe_str) (xp_cons (xe_str) (xe_str) (xp_cons (xe_str) (xe_str) (xp_cons (xe_str) (xe_str) (xp_cons (xe_str) (xe_str) (xp_cons (xe_str) (xe_str) (xp_cons (xe_str) (xe_str) (xp_nil))))))))))) (xss_cons (xs_dput hr (xe_vr 2) (xe_str) (xe_str)) (xss_cons (xs_exp (xe_dupd (xe_vr 2) (xe_dcp rfl rfl (c.free 19) bb_dict (xa_cons (xe_comp (own := [("_law_word", 3)]) rfl S.nd (xi_seq rfl (xe_tpl (xa_cons (xe_str) (xa_cons (xe_str) (xa_cons (xe_str) (xa_nil)))))) (blkOk_by (own := [("_law_word", 3)]) (N := N_l_line) (sc := defScope s_l_line) (by decide +kernel)) (fun _ _ _ _ _ => xg_nm (i := 3) S.nd) (fun _ _ _ _ _ => xts_nil) (fun _ _ _ _ _ => xe_tpl (xa_cons (xe_vr 3) (xa_cons (xe_str) (xa_nil)))) (by decide)) (xa_nil))))) (xss_cons (xs_set (i := 4) S.nd (xe_split rfl (xe_vr 0) (xe_str))) (xss_cons (xs_set (i := 5) S.nd (xe_dget1 hr (xe_vr 2) (xe_ix ix_seq op2_ix (xe_vr 4) (xe_int) (fun _ _ => rfl)))) (xss_cons (xs_if (PW.pt (xw_or (xt_cmp op_isN op2_isN (xe_vr 5) (xe_non) (nomark _)) (xw_or1 (xt_cmp (op_neA hr) op2_ne (xe_callB call_lenA opN_len rfl (c.free 1) bb_len (xa_cons (xe_vr 4) (xa_nil))) (xe_op op_addA op2_add (xe_callB call_lenA opN_len rfl (c.free 1) bb_len (xa_cons (xe_vr 5) (xa_nil))) (xe_int)) (nomark _))))) (xss_one (xs_ret (xe_non))) (xss_nil)) (xss_cons (xs_set (i := 6) S.nd (xe_tpl (xa_cons (xe_ix ix_seq op2_ix (xe_vr 4) (xe_int) (fun _ _ => rfl)) (xa_nil)))) (xss_cons (xs_for ho rfl (xi_zp rfl rfl (c.free 10) (xe_slc rfl (xe_vr 4) (xo_some (xe_int)) (xo_none)) (xe_vr 5)) (xg_tp rfl rfl (xgs_cons (i := 3) S.nd (xgs_cons (i := 7) S.nd (xgs_nil)))) (xss_cons (xs_if (PW.pt (xw_or (xt_not (xt_chain op_lt op_lt op2_lt op2_lt (xe_int) (xe_callB call_lenA opN_len rfl (c.free 1) bb_len (xa_cons (xe_vr 3) (xa_nil))) (xe_int))) (xw_or1 (xt_cmp (op_neA hr) op2_ne (xe_comp (own := [("_law_sign", 8)]) rfl S.nd (xi_str (xe_vr 3)) (blkOk_by (own := [("_law_sign", 8)]) (N := N_l_line) (sc := defScope s_l_line) (by decide +kernel)) (fun _ _ _ _ _ => xg_nm (i := 8) S.nd) (fun _ _ _ _ _ => xts_one (xt_cmp L2.op_notInS op2_notInS (xe_vr 8) (xe_str) rfl)) (fun _ _ _ _ _ => xe_vr 8) (by decide)) (xe_lsl (xa_nil)) (nomark _))))) (xss_one (xs_ret (xe_non))) (xss_nil)) (xss_cons (xs_if (PW.pt (xw_or (PW.pt (xw_and (xt_cmp op_gt op2_gt (xe_callB call_lenA opN_len rfl (c.free 1) bb_len (xa_cons (xe_vr 3) (xa_nil))) (xe_int) (nomark _)) (xw_and1 (xt_cmp (op_eqA hr) op2_eq (xe_ix ix_seq op2_ix (xe_vr 3) (xe_int) (fun _ _ => rfl)) (xe_str) (nomark _))))) (xw_or1 (xt_cmp op_gt op2_gt (xe_callTy call_int_str opN_intS rfl (c.free 11) bb_int (xa_cons (xe_vr 3) (xa_nil))) (xe_dget hr (xe_dsp (xp_cons (xe_str) (xe_int) (xp_cons (xe_str) (xe_int) (xp_cons (xe_str) (xe_op op_sub op2_sub (xe_vr 1) (xe_int)) (xp_nil))))) (xe_vr 7)) (nomark _))))) (xss_one (xs_ret (xe_non))) (xss_nil)) (xss_one (xs_set (i := 6) S.nd (xe_op op_addA op2_add (xe_vr 6) (xe_tpl (xa_cons (xe_callTy call_int_str opN_intS rfl (c.free 11) bb_int (xa_cons (xe_vr 3) (xa_nil))) (xa_nil))))))))) (xss_one (xs_ret (xe_vr 6))))))))))
theorem cal_l_mix (c : C w K mg) : Cal Pg w K mg base (PK w K) "_law_mix" 1 2 m_l_mix := by
  have S := S_l_mix
  exact cal_of c (st := s_l_mix) (N := N_l_mix) (fb := f_l_mix) 31 2 S (fun _ _ _ _ _ _ us hl => match us, hl with | [_, _], _ => rfl) (fun ds m _ => le_l_mix ds m) fun f cdv A outer s H E hr hp ho => xss_cons (xs_set (i := 2) S.nd (xe_vr 1)) (xss_cons (xs_for ho rfl (xi_seq rfl (xe_vr 0)) (xg_nm (i := 3) S.nd) (xss_one (xs_set (i := 2) S.nd (xe_op op_modN op2_mod (xe_op op_addA op2_add (xe_op op_addA op2_add (xe_op op_mul op2_mul (xe_vr 2) (xe_int)) (xe_op op_modN op2_mod (xe_vr 3) (xe_int))) (xe_int)) (xe_int))))) (xss_one (xs_ret (xe_lsm (xa_cons (xe_vr 2) (xa_cons (xe_callTyM call_list_of opNM_list rfl (c.free 18) bb_list (xa_cons (xe_vr 0) (xa_nil))) (xa_cons (xe_int) (xa_nil))))))))
theorem cal_l_next (c : C w K mg) : Cal Pg w K mg base (PK w K) "_law_next" 1 2 m_l_next := by
  have S := S_l_next
  exact cal_of c (st := s_l_next) (N := N_l_next) (fb := f_l_next) 32 3 S (fun _ _ _ _ _ _ us hl => match us, hl with | [_, _], _ => rfl) (fun ds m _ => le_l_next ds m) fun f cdv A outer s H E hr hp ho => xss_cons (xs_set (i := 2) S.nd (xe_op op_modN op2_mod (xe_ix ix_seq op2_ix (xe_vr 0) (xe_int) (fun _ _ => rfl)) (xe_callB (call_max2 rfl) opN_max2 rfl (c.free 16) bb_max (xa_cons (xe_int) (xa_cons (xe_callB call_lenA opN_len rfl (c.free 1) bb_len (xa_cons (xe_ix ix_seq op2_ix (xe_vr 0) (xe_int) (fun _ _ => rfl)) (xa_nil))) (xa_nil)))))) (xss_cons (xs_set (i := 3) S.nd (xe_if (xt_cmp (op_neA hr) op2_ne (xe_ix ix_seq op2_ix (xe_vr 0) (xe_int) (fun _ _ => rfl)) (xe_lsl (xa_nil)) (nomark _)) (xe_ix ix_seq op2_ix (xe_ix ix_seq op2_ix (xe_vr 0) (xe_int) (fun _ _ => rfl)) (xe_vr 2) (fun _ _ => rfl)) (xe_int))) (xss_cons (xs_if (xt_cmp op_ge op2_ge (xe_vr 3) (xe_op op_pow op2_pow (xe_int) (xe_int)) (nomark _)) (xss_cons (xs_lput (xe_ix ix_seq op2_ix (xe_vr 0) (xe_int) (fun _ _ => rfl)) (xe_vr 2) (xe_op op_fdivN op2_fdiv (xe_vr 3) (xe_vr 1))) (xss_one (xs_ret (xe_op op_modN op2_mod (xe_vr 3) (xe_vr 1))))) (xss_nil)) (xss_cons (xs_lput (xe_vr 0) (xe_int) (xe_op op_modN op2_mod (xe_op op_addA op2_add (xe_op op_addA op2_add (xe_op op_mul op2_mul (xe_ix ix_seq op2_ix (xe_vr 0) (xe_int) (fun _ _ => rfl)) (xe_int)) (xe_op op_mul op2_mul (xe_vr 3) (xe_int))) (xe_int)) (xe_int))) (xss_cons (xs_lput (xe_vr 0) (xe_int) (xe_op op_addA op2_add (xe_ix ix_seq op2_ix (xe_vr 0) (xe_int) (fun _ _ => rfl)) (xe_int))) (xss_one (xs_ret (xe_op op_modN op2_mod (xe_op op_fdivN op2_fdiv (xe_ix ix_seq op2_ix (xe_vr 0) (xe_int) (fun _ _ => rfl)) (xe_int)) (xe_vr 1))))))))
theorem cal_l_boxes (c : C w K mg) : Cal Pg w K mg base (PK w K) "_law_boxes" 2 1 m_l_boxes := by
  have S := S_l_boxes
  have h_l_next : Cal Pg w K mg base (PK w K) "_law_next" 1 2 m_l_next := cal_l_next c
  exact cal_of c (st := s_l_boxes) (N := N_l_boxes) (fb := f_l_boxes) 33 4 S (fun _ _ _ _ _ _ us hl => match us, hl with | [_], _ => rfl) (fun ds m _ => le_l_boxes ds m) fun f cdv A outer s H E hr hp ho => xss_one (xs_ret (xe_tpl (xa_cons (xe_callC h_l_next (hr.mono (by decide)) hp (xa_cons (xe_vr 0) (xa_cons (xe_int) (xa_nil)))) (xa_cons (xe_ix ix_seq op2_ix (xe_lsl (xa_cons (xe_int) (xa_cons (xe_int) (xa_cons (xe_int) (xa_nil))))) (xe_callC h_l_next (hr.mono (by decide)) hp (xa_cons (xe_vr 0) (xa_cons (xe_int) (xa_nil)))) (fun _ _ => rfl)) (xa_nil)))))
theorem cal_l_number (c : C w K mg) : Cal Pg w K mg base (PK w K) "_law_number" 2 1 m_l_number := by
  have S := S_l_number
  have h_l_next : Cal Pg w K mg base (PK w K) "_law_next" 1 2 m_l_next := cal_l_next c
  exact cal_of c (st := s_l_number) (N := N_l_number) (fb := f_l_number) 34 5 S (fun _ _ _ _ _ _ us hl => match us, hl with | [_], _ => rfl) (fun ds m _ => le_l_number ds m) fun f cdv A outer s H E hr hp ho => xss_one (xs_ret (xe_ix ix_seq op2_ix (xe_lsl (xa_cons (xe_callC h_l_next (hr.mono (by decide)) hp (xa_cons (xe_vr 0) (xa_cons (xe_int) (xa_nil)))) (xa_cons (xe_callC h_l_next (hr.mono (by decide)) hp (xa_cons (xe_vr 0) (xa_cons (xe_int) (xa_nil)))) (xa_nil)))) (xe_callC h_l_next (hr.mono (by decide)) hp (xa_cons (xe_vr 0) (xa_cons (xe_int) (xa_nil)))) (fun _ _ => rfl)))
theorem cal_l_deed (c : C w K mg) : Cal Pg w K mg base (PK w K) "_law_deed" 3 2 m_l_deed := by
  have S := S_l_deed
  have h_l_next : Cal Pg w K mg base (PK w K) "_law_next" 1 2 m_l_next := cal_l_next c
  have h_l_number : Cal Pg w K mg base (PK w K) "_law_number" 2 1 m_l_number := cal_l_number c
  exact cal_of c (st := s_l_deed) (N := N_l_deed) (fb := f_l_deed) 35 6 S (fun _ _ _ _ _ _ us hl => match us, hl with | [_, _], _ => rfl) (fun ds m _ => le_l_deed ds m) fun f cdv A outer s H E hr hp ho => xss_cons (xs_set (i := 2) S.nd (xe_lsl (xa_cons (xe_str) (xa_cons (xe_str) (xa_cons (xe_str) (xa_cons (xe_str) (xa_cons (xe_str) (xa_cons (xe_str) (xa_cons (xe_str) (xa_cons (xe_str) (xa_cons (xe_str) (xa_cons (xe_str) (xa_cons (xe_str) (xa_cons (xe_str) (xa_cons (xe_str) (xa_cons (xe_str) (xa_nil))))))))))))))))) (xss_cons (xs_set (i := 3) S.nd (xe_ix ix_seq op2_ix (xe_op op_addA op2_add (xe_vr 2) (xe_lsl (xa_cons (xe_str) (xa_nil)))) (xe_callC h_l_next (hr.mono (by decide)) hp (xa_cons (xe_vr 0) (xa_cons (xe_int) (xa_nil)))) (fun _ _ => rfl))) (xss_cons (xs_asgU rfl rfl (xe_comp (own := [("_law_k", 7)]) rfl S.nd (xi_rng1 rfl (c.free 0) (xa_cons (xe_int) (xa_nil))) (blkOk_by (own := [("_law_k", 7)]) (N := N_l_deed) (sc := defScope s_l_deed) (by decide +kernel)) (fun _ _ _ _ _ => xg_nm (i := 7) S.nd) (fun _ _ _ _ _ => xts_nil) (fun _ _ _ _ _ => xe_op op_modN op2_mod (xe_op op_addA op2_add (xe_ix ix_seq op2_ix (xe_vr 1) (xe_int) (fun _ _ => rfl)) (xe_callC h_l_next (hr.mono (by decide)) passL (xa_cons (xe_vr 0) (xa_cons (xe_ix ix_seq op2_ix (xe_vr 1) (xe_int) (fun _ _ => rfl)) (xa_nil))))) (xe_int)) (by decide)) (xgs_cons (i := 4) S.nd (xgs_cons (i := 5) S.nd (xgs_cons (i := 6) S.nd (xgs_nil))))) (xss_cons (xs_if (xt_cmp (op_inA hr) op2_in (xe_vr 3) (xe_tpl (xa_cons (xe_str) (xa_cons (xe_str) (xa_cons (xe_str) (xa_nil))))) rfl) (xss_one (xs_ret (xe_tpl (xa_cons (xe_vr 3) (xa_cons (xe_vr 4) (xa_cons (xe_vr 5) (xa_cons (xe_vr 6) (xa_nil)))))))) (xss_nil)) (xss_one (xs_ret (xe_dget2 hr (xe_dsp (xp_cons (xe_str) (xe_tpl (xa_cons (xe_vr 3) (xa_cons (xe_vr 4) (xa_cons (xe_callC h_l_number (hr.mono (by decide)) hp (xa_cons (xe_vr 0) (xa_nil))) (xa_nil))))) (xp_cons (xe_str) (xe_tpl (xa_cons (xe_vr 3) (xa_cons (xe_vr 5) (xa_nil)))) (xp_cons (xe_str) (xe_tpl (xa_cons (xe_vr 3) (xa_nil))) (xp_nil))))) (xe_vr 3) (xe_tpl (xa_cons (xe_vr 3) (xa_cons (xe_vr 4) (xa_cons (xe_vr 5) (xa_nil)))))))))))
theorem cal_l_jump (c : C w K mg) : Cal Pg w K mg base (PK w K) "_law_jump" 2 4 m_l_jump := by
  have S := S_l_jump
  have h_l_next : Cal Pg w K mg base (PK w K) "_law_next" 1 2 m_l_next := cal_l_next c
  exact cal_of c (st := s_l_jump) (N := N_l_jump) (fb := f_l_jump) 36 7 S (fun _ _ _ _ _ _ us hl => match us, hl with | [_, _, _, _], _ => rfl) (fun ds m _ => le_l_jump ds m) fun f cdv A outer s H E hr hp ho => xss_cons (xs_set (i := 4) S.nd (xe_callB (call_min2 rfl) opN_min2 rfl (c.free 17) bb_min (xa_cons (xe_op op_sub op2_sub (xe_vr 3) (xe_int)) (xa_cons (xe_op op_addA op2_add (xe_op op_addA op2_add (xe_vr 2) (xe_int)) (xe_callC h_l_next (hr.mono (by decide)) hp (xa_cons (xe_vr 0) (xa_cons (xe_op op_sub op2_sub (xe_vr 3) (xe_vr 2)) (xa_nil))))) (xa_nil))))) (xss_cons (xs_if (xt_cmp (op_eqA hr) op2_eq (xe_callC h_l_next (hr.mono (by decide)) hp (xa_cons (xe_vr 0) (xa_cons (xe_int) (xa_nil)))) (xe_int) (nomark _)) (xss_one (xs_set (i := 4) S.nd (xe_callC h_l_next (hr.mono (by decide)) hp (xa_cons (xe_vr 0) (xa_cons (xe_vr 3) (xa_nil)))))) (xss_nil)) (xss_cons (xs_set (i := 5) S.nd (xe_op op_modN op2_mod (xe_op op_addA op2_add (xe_ix ix_seq op2_ix (xe_vr 1) (xe_int) (fun _ _ => rfl)) (xe_callC h_l_next (hr.mono (by decide)) hp (xa_cons (xe_vr 0) (xa_cons (xe_ix ix_seq op2_ix (xe_vr 1) (xe_int) (fun _ _ => rfl)) (xa_nil))))) (xe_int))) (xss_one (xs_ret (xe_ix ix_seq op2_ix (xe_lsl (xa_cons (xe_tpl (xa_cons (xe_str) (xa_cons (xe_vr 4) (xa_nil)))) (xa_cons (xe_tpl (xa_cons (xe_str) (xa_cons (xe_vr 5) (xa_cons (xe_vr 4) (xa_nil))))) (xa_cons (xe_tpl (xa_cons (xe_str) (xa_cons (xe_vr 5) (xa_cons (xe_vr 4) (xa_nil))))) (xa_cons (xe_tpl (xa_cons (xe_str) (xa_nil))) (xa_nil)))))) (xe_callC h_l_next (hr.mono (by decide)) hp (xa_cons (xe_vr 0) (xa_cons (xe_int) (xa_nil)))) (fun _ _ => rfl))))))
theorem cal_l_plain (c : C w K mg) : Cal Pg w K mg base (PK w K) "_law_plain" 4 2 m_l_plain := by
  have S := S_l_plain
  have h_l_boxes : Cal Pg w K mg base (PK w K) "_law_boxes" 2 1 m_l_boxes := cal_l_boxes c
  have h_l_deed : Cal Pg w K mg base (PK w K) "_law_deed" 3 2 m_l_deed := cal_l_deed c
  have h_l_jump : Cal Pg w K mg base (PK w K) "_law_jump" 2 4 m_l_jump := cal_l_jump c
  have h_l_next : Cal Pg w K mg base (PK w K) "_law_next" 1 2 m_l_next := cal_l_next c
  exact cal_of c (st := s_l_plain) (N := N_l_plain) (fb := f_l_plain) 37 8 S (fun _ _ _ _ _ _ us hl => match us, hl with | [_, _], _ => rfl) (fun ds m _ => le_l_plain ds m) fun f cdv A outer s H E hr hp ho => xss_cons (xs_set (i := 2) S.nd (xe_callC h_l_boxes (hr.mono (by decide)) hp (xa_cons (xe_vr 0) (xa_nil)))) (xss_cons (xs_set (i := 3) S.nd (xe_op op_addA op2_add (xe_int) (xe_callC h_l_next (hr.mono (by decide)) hp (xa_cons (xe_vr 0) (xa_cons (xe_vr 1) (xa_nil)))))) (xss_cons (xs_set (i := 4) S.nd (xe_ix ix_seq op2_ix (xe_lsl (xa_cons (xe_int) (xa_cons (xe_int) (xa_cons (xe_int) (xa_nil))))) (xe_callC h_l_next (hr.mono (by decide)) hp (xa_cons (xe_vr 0) (xa_cons (xe_int) (xa_nil)))) (fun _ _ => rfl))) (xss_one (xs_ret (xe_callTy call_tuple_of opN_tuple rfl (c.free 3) bb_tuple (xa_cons (xe_comp (own := [("_law_at", 5)]) rfl S.nd (xi_rng1 rfl (c.free 0) (xa_cons (xe_vr 3) (xa_nil))) (blkOk_by (own := [("_law_at", 5)]) (N := N_l_plain) (sc := defScope s_l_plain) (by decide +kernel)) (fun _ _ _ _ _ => xg_nm (i := 5) S.nd) (fun _ _ _ _ _ => xts_nil) (fun _ _ _ _ _ => xe_if (xt_cmp (op_eqA hr) op2_eq (xe_callC h_l_next (hr.mono (by decide)) passL (xa_cons (xe_vr 0) (xa_cons (xe_vr 4) (xa_nil)))) (xe_int) (nomark _)) (xe_callC h_l_jump (hr.mono (by decide)) passL (xa_cons (xe_vr 0) (xa_cons (xe_vr 2) (xa_cons (xe_vr 5) (xa_cons (xe_vr 3) (xa_nil)))))) (xe_callC h_l_deed (hr.mono (by decide)) passL (xa_cons (xe_vr 0) (xa_cons (xe_vr 2) (xa_nil))))) (by decide)) (xa_nil)))))))
theorem cal_l_spoilt (c : C w K mg) : Cal Pg w K mg base (PK w K) "_law_spoilt" 2 2 m_l_spoilt := by
  have S := S_l_spoilt
  have h_l_next : Cal Pg w K mg base (PK w K) "_law_next" 1 2 m_l_next := cal_l_next c
  exact cal_of c (st := s_l_spoilt) (N := N_l_spoilt) (fb := f_l_spoilt) 38 9 S (fun _ _ _ _ _ _ us hl => match us, hl with | [_, _], _ => rfl) (fun ds m _ => le_l_spoilt ds m) fun f cdv A outer s H E hr hp ho => xss_cons (xs_set (i := 2) S.nd (xe_callC h_l_next (hr.mono (by decide)) hp (xa_cons (xe_vr 0) (xa_cons (xe_int) (xa_nil))))) (xss_cons (xs_set (i := 3) S.nd (xe_callC h_l_next (hr.mono (by decide)) hp (xa_cons (xe_vr 0) (xa_cons (xe_op op_addA op2_add (xe_callB call_lenA opN_len rfl (c.free 1) bb_len (xa_cons (xe_vr 1) (xa_nil))) (xe_int)) (xa_nil))))) (xss_cons (xs_set (i := 4) S.nd (xe_str)) (xss_cons (xs_set (i := 5) S.nd (xe_ix ix_seq op2_ix (xe_vr 4) (xe_callC h_l_next (hr.mono (by decide)) hp (xa_cons (xe_vr 0) (xa_cons (xe_ix ix_seq op2_ix (xe_lsl (xa_cons (xe_int) (xa_cons (xe_callB call_lenA opN_len rfl (c.free 1) bb_len (xa_cons (xe_vr 4) (xa_nil))) (xa_nil)))) (xe_callC h_l_next (hr.mono (by decide)) hp (xa_cons (xe_vr 0) (xa_cons (xe_int) (xa_nil)))) (fun _ _ => rfl)) (xa_nil)))) (fun _ _ => rfl))) (xss_cons (xs_if (xt_cmp op_lt op2_lt (xe_vr 2) (xe_int) (nomark _)) (xss_one (xs_ret (xe_op op_addA op2_add (xe_op op_addA op2_add (xe_slcS (xe_vr 1) (xo_none) (xo_some (xe_vr 3))) (xe_ix ix_seq op2_ix (xe_lsl (xa_cons (xe_vr 5) (xa_cons (xe_str) (xa_cons (xe_vr 5) (xa_nil))))) (xe_vr 2) (fun _ _ => rfl))) (xe_slcS (xe_vr 1) (xo_some (xe_op op_addA op2_add (xe_vr 3) (xe_callTy call_int1 opN_int rfl (c.free 11) bb_int (xa_cons (xe_cmp op_gt op2_gt (xe_vr 2) (xe_int) (nomark _)) (xa_nil))))) (xo_none))))) (xss_nil)) (xss_cons (xs_set (i := 6) S.nd (xe_split rfl (xe_vr 1) (xe_str))) (xss_cons (xs_set (i := 7) S.nd (xe_callC h_l_next (hr.mono (by decide)) hp (xa_cons (xe_vr 0) (xa_cons (xe_callB call_lenA opN_len rfl (c.free 1) bb_len (xa_cons (xe_vr 6) (xa_nil))) (xa_nil))))) (xss_cons (xs_if (xt_cmp op_lt op2_lt (xe_vr 2) (xe_int) (nomark _)) (xss_one (xs_ret (xe_join rfl (xe_str) (xe_ix ix_seq op2_ix (xe_lsl (xa_cons (xe_op op_addA op2_add (xe_slc rfl (xe_vr 6) (xo_none) (xo_some (xe_vr 7))) (xe_slc rfl (xe_vr 6) (xo_some (xe_op op_addA op2_add (xe_vr 7) (xe_int))) (xo_none))) (xa_cons (xe_op op_addA op2_add (xe_slc rfl (xe_vr 6) (xo_none) (xo_some (xe_op op_addA op2_add (xe_vr 7) (xe_int)))) (xe_slc rfl (xe_vr 6) (xo_some (xe_vr 7)) (xo_none))) (xa_cons (xe_op op_addA op2_add (xe_slc rfl (xe_vr 6) (xo_some (xe_vr 7)) (xo_none)) (xe_slc rfl (xe_vr 6) (xo_none) (xo_some (xe_vr 7)))) (xa_nil))))) (xe_op op_sub op2_sub (xe_vr 2) (xe_int)) (fun _ _ => rfl))))) (xss_nil)) (xss_cons (xs_set (i := 8) S.nd (xe_split rfl (xe_ix ix_seq op2_ix (xe_vr 6) (xe_vr 7) (fun _ _ => rfl)) (xe_str))) (xss_cons (xs_set (i := 9) S.nd (xe_callC h_l_next (hr.mono (by decide)) hp (xa_cons (xe_vr 0) (xa_cons (xe_callB call_lenA opN_len rfl (c.free 1) bb_len (xa_cons (xe_vr 8) (xa_nil))) (xa_nil))))) (xss_cons (xs_set (i := 10) S.nd (xe_lsl (xa_cons (xe_str) (xa_cons (xe_str) (xa_cons (xe_str) (xa_cons (xe_str) (xa_cons (xe_str) (xa_cons (xe_str) (xa_cons (xe_str) (xa_cons (xe_str) (xa_cons (xe_str) (xa_cons (xe_str) (xa_cons (xe_str) (xa_cons (xe_str) (xa_cons (xe_str) (xa_cons (xe_str) (xa_cons (xe_str) (xa_cons (xe_str) (xa_cons (xe_str) (xa_nil)))))))))))))))))))) (xss_cons (xs_set (i := 8) S.nd (xe_op op_addA op2_add (xe_op op_addA op2_add (xe_slc rfl (xe_vr 8) (xo_none) (xo_some (xe_vr 9))) (xe_ix ix_seq op2_ix (xe_lsl (xa_cons (xe_lsl (xa_nil)) (xa_cons (xe_rep (xe_lsl (xa_cons (xe_ix ix_seq op2_ix (xe_vr 8) (xe_vr 9) (fun _ _ => rfl)) (xa_nil))) (xe_int)) (xa_cons (xe_lsl (xa_cons (xe_ix ix_seq op2_ix (xe_vr 10) (xe_callC h_l_next (hr.mono (by decide)) hp (xa_cons (xe_vr 0) (xa_cons (xe_int) (xa_nil)))) (fun _ _ => rfl)) (xa_nil))) (xa_nil))))) (xe_op op_sub op2_sub (xe_vr 2) (xe_int)) (fun _ _ => rfl))) (xe_slc rfl (xe_vr 8) (xo_some (xe_op op_addA op2_add (xe_vr 9) (xe_int))) (xo_none)))) (xss_one (xs_ret (xe_join rfl (xe_str) (xe_op op_addA op2_add (xe_op op_addA op2_add (xe_slc rfl (xe_vr 6) (xo_none) (xo_some (xe_vr 7))) (xe_lsl (xa_cons (xe_join rfl (xe_str) (xe_vr 8)) (xa_nil)))) (xe_slc rfl (xe_vr 6) (xo_some (xe_op op_addA op2_add (xe_vr 7) (xe_int))) (xo_none)))))))))))))))))
theorem cal_is_number (c : C w K mg) : Cal Pg w K mg base (PK w K) "is_number" 1 3 m_is_number := by
  have S := S_is_number
  exact cal_of c (st := s_is_number) (N := N_is_number) (fb := f_is_number) 39 10 S (fun _ _ _ _ _ _ us hl => match us, hl with | [_, _, _], _ => rfl) (fun ds m _ => le_is_number ds m) fun f cdv A outer s H E hr hp ho => xss_one (xs_ret (xe_and (xe_isi rfl (by decide) rfl (c.free 5) rfl (c.free 11) bb_int (xe_vr 0)) (xe_and (xe_not (xe_isi rfl (by decide) rfl (c.free 5) rfl (c.free 12) bb_bool (xe_vr 0))) (xe_one (xe_chain op_le op_le op2_le op2_le (xe_vr 1) (xe_vr 0) (xe_vr 2))))))
theorem cal_is_row (c : C w K mg) : Cal Pg w K mg base (PK w K) "is_row" 2 2 m_is_row := by
  have S := S_is_row
  have h_is_number : Cal Pg w K mg base (PK w K) "is_number" 1 3 m_is_number := cal_is_number c
  exact cal_of c (st := s_is_row) (N := N_is_row) (fb := f_is_row) 40 11 S (fun _ _ _ _ _ _ us hl => match us, hl with | [_, _], _ => rfl) (fun ds m _ => le_is_row ds m) fun f cdv A outer s H E hr hp ho => xss_cons (xs_if (PW.pt (xw_or (xt_not (xt_V (xe_isi rfl (by decide) rfl (c.free 5) rfl (c.free 3) bb_tuple (xe_vr 0)))) (xw_or (xt_cmp (op_eqA hr) op2_eq (xe_vr 0) (xe_tpl (xa_nil)) (nomark _)) (xw_or (xt_not (xt_V (xe_isi rfl (by decide) rfl (c.free 5) rfl (c.free 4) bb_str (xe_ix ix_seq op2_ix (xe_vr 0) (xe_int) (fun _ _ => rfl))))) (xw_or1 (xe_notInK rfl (tb_FORMS c) (xe_ix ix_seq op2_ix (xe_vr 0) (xe_int) (fun _ _ => rfl)))))))) (xss_one (xs_ret (xe_bl))) (xss_nil)) (xss_cons (xs_set (i := 2) S.nd (xe_dsp (xp_cons (xe_str) (xe_gint (c.int 8)) (xp_cons (xe_str) (xe_gint (c.int 8)) (xp_cons (xe_str) (xe_gint (c.int 9)) (xp_cons (xe_str) (xe_vr 1) (xp_nil))))))) (xss_cons (xs_set (i := 3) S.nd (xe_getK rfl (tb_FORMS c) (xe_ix ix_seq op2_ix (xe_vr 0) (xe_int) (fun _ _ => rfl)))) (xss_cons (xs_if (xt_cmp (op_neA hr) op2_ne (xe_callB call_lenA opN_len rfl (c.free 1) bb_len (xa_cons (xe_vr 0) (xa_nil))) (xe_op op_addA op2_add (xe_callB call_lenA opN_len rfl (c.free 1) bb_len (xa_cons (xe_vr 3) (xa_nil))) (xe_int)) (nomark _)) (xss_one (xs_ret (xe_bl))) (xss_nil)) (xss_one (xs_ret (xe_cmp (op_eqA hr) op2_eq (xe_comp (own := [("part", 4), ("sort", 5)]) rfl S.nd (xi_zp rfl rfl (c.free 10) (xe_slc rfl (xe_vr 0) (xo_some (xe_int)) (xo_none)) (xe_vr 3)) (blkOk_by (own := [("part", 4), ("sort", 5)]) (N := N_is_row) (sc := defScope s_is_row) (by decide +kernel)) (fun _ _ _ _ _ => xg_tp rfl rfl (xgs_cons (i := 4) S.nd (xgs_cons (i := 5) S.nd (xgs_nil)))) (fun _ _ _ _ _ => xts_one (xt_not (xt_V (xe_callC h_is_number (hr.mono (by decide)) passL (xa_cons (xe_vr 4) (xa_cons (xe_int) (xa_cons (xe_op op_sub op2_sub (xe_dget hr (xe_vr 2) (xe_vr 5)) (xe_int)) (xa_nil)))))))) (fun _ _ _ _ _ => xe_vr 4) (by decide)) (xe_lsl (xa_nil)) (nomark _)))))))
theorem cal_number_of (c : C w K mg) : Cal Pg w K mg base (PK w K) "number_of" 1 1 m_number_of := by
  have S := S_number_of
  exact cal_of c (st := s_number_of) (N := N_number_of) (fb := f_number_of) 41 12 S (fun _ _ _ _ _ _ us hl => match us, hl with | [_], _ => rfl) (fun ds m _ => le_number_of ds m) fun f cdv A outer s H E hr hp ho => xss_cons (xs_if (PW.pt (xw_or (xt_not (xt_chain op_le op_le op2_le op2_le (xe_int) (xe_callB call_lenA opN_len rfl (c.free 1) bb_len (xa_cons (xe_vr 0) (xa_nil))) (xe_gint (c.int 14)))) (xw_or1 (xt_cmp (op_neA hr) op2_ne (xe_comp (own := [("sign", 1)]) rfl S.nd (xi_str (xe_vr 0)) (blkOk_by (own := [("sign", 1)]) (N := N_number_of) (sc := defScope s_number_of) (by decide +kernel)) (fun _ _ _ _ _ => xg_nm (i := 1) S.nd) (fun _ _ _ _ _ => xts_one (xt_cmp L2.op_notInS op2_notInS (xe_vr 1) (xe_gstr (c.str 15)) rfl)) (fun _ _ _ _ _ => xe_vr 1) (by decide)) (xe_lsl (xa_nil)) (nomark _))))) (xss_one (xs_ret (xe_non))) (xss_nil)) (xss_one (xs_ret (xe_if (PW.pt (xw_or (xt_cmp (op_eqA hr) op2_eq (xe_vr 0) (xe_str) (nomark _)) (xw_or1 (xt_cmp (op_neA hr) op2_ne (xe_ix ix_seq op2_ix (xe_vr 0) (xe_int) (fun _ _ => rfl)) (xe_str) (nomark _))))) (xe_callTy call_int_str opN_intS rfl (c.free 11) bb_int (xa_cons (xe_vr 0) (xa_nil))) (xe_non))))
theorem cal_row_of (c : C w K mg) : Cal Pg w K mg base (PK w K) "row_of" 3 2 m_row_of := by
  have S := S_row_of
  have h_is_row : Cal Pg w K mg base (PK w K) "is_row" 2 2 m_is_row := cal_is_row c
  have h_number_of : Cal Pg w K mg base (PK w K) "number_of" 1 1 m_number_of := cal_number_of c
  exact cal_of c (st := s_row_of) (N := N_row_of) (fb := f_row_of) 42 13 S (fun _ _ _ _ _ _ us hl => match us, hl with | [_, _], _ => rfl) (fun ds m _ => le_row_of ds m) fun f cdv A outer s H E hr hp ho => xss_cons (xs_set (i := 2) S.nd (xe_split rfl (xe_vr 0) (xe_str))) (xss_cons (xs_if (xe_notInK rfl (tb_FORMS c) (xe_ix ix_seq op2_ix (xe_vr 2) (xe_int) (fun _ _ => rfl))) (xss_one (xs_ret (xe_non))) (xss_nil)) (xss_cons (xs_set (i := 3) S.nd (xe_op op_addA op2_add (xe_tpl (xa_cons (xe_ix ix_seq op2_ix (xe_vr 2) (xe_int) (fun _ _ => rfl)) (xa_nil))) (xe_callTy call_tuple_of opN_tuple rfl (c.free 3) bb_tuple (xa_cons (xe_comp (own := [("word", 4)]) rfl S.nd (xi_seq rfl (xe_slc rfl (xe_vr 2) (xo_some (xe_int)) (xo_none))) (blkOk_by (own := [("word", 4)]) (N := N_row_of) (sc := defScope s_row_of) (by decide +kernel)) (fun _ _ _ _ _ => xg_nm (i := 4) S.nd) (fun _ _ _ _ _ => xts_nil) (fun _ _ _ _ _ => xe_callC h_number_of (hr.mono (by decide)) passL (xa_cons (xe_vr 4) (xa_nil))) (by decide)) (xa_nil))))) (xss_one (xs_ret (xe_if (xt_V (xe_callC h_is_row (hr.mono (by decide)) hp (xa_cons (xe_vr 3) (xa_cons (xe_vr 1) (xa_nil))))) (xe_vr 3) (xe_non))))))
theorem cal_read (c : C w K mg) : Cal Pg w K mg base (PK w K) "read" 4 1 m_read := by
  have S := S_read
  have h_row_of : Cal Pg w K mg base (PK w K) "row_of" 3 2 m_row_of := cal_row_of c
  exact cal_of c (st := s_read) (N := N_read) (fb := f_read) 43 14 S (fun _ _ _ _ _ _ us hl => match us, hl with | [_], _ => rfl) (fun ds m _ => le_read ds m) fun f cdv A outer s H E hr hp ho => xss_cons (xs_set (i := 1) S.nd (xe_split rfl (xe_vr 0) (xe_str))) (xss_cons (xs_set (i := 2) S.nd (xe_lsm (xa_nil))) (xss_cons (xs_for ho rfl (xi_rng1 rfl (c.free 0) (xa_cons (xe_callB call_lenA opN_len rfl (c.free 1) bb_len (xa_cons (xe_vr 1) (xa_nil))) (xa_nil))) (xg_nm (i := 3) S.nd) (xss_cons (xs_set (i := 4) S.nd (xe_callC h_row_of (hr.mono (by decide)) hp (xa_cons (xe_ix ix_seq op2_ix (xe_vr 1) (xe_vr 3) (fun _ _ => rfl)) (xa_cons (xe_callB call_lenA opN_len rfl (c.free 1) bb_len (xa_cons (xe_vr 1) (xa_nil))) (xa_nil))))) (xss_cons (xs_if (PW.pt (xw_or (xt_cmp op_isN op2_isN (xe_vr 4) (xe_non) (nomark _)) (xw_or1 (xt_cmp op_ge op2_ge (xe_vr 3) (xe_gint (c.int 7)) (nomark _))))) (xss_one (raise_BadText c (hr.mono (by decide)) rfl rfl (takes_of rfl rfl rfl rfl) (xe_vr 3))) (xss_nil)) (xss_one (xs_exp (xe_app (xe_vr 2) (xe_vr 4) rfl)))))) (xss_one (xs_ret (xe_callTy call_tuple_of opN_tuple rfl (c.free 3) bb_tuple (xa_cons (xe_vr 2) (xa_nil)))))))
theorem cal_need_program (c : C w K mg) : Cal Pg w K mg base (PK w K) "need_program" 3 1 m_need_program := by
  have S := S_need_program
  have h_is_row : Cal Pg w K mg base (PK w K) "is_row" 2 2 m_is_row := cal_is_row c
  exact cal_of c (st := s_need_program) (N := N_need_program) (fb := f_need_program) 44 15 S (fun _ _ _ _ _ _ us hl => match us, hl with | [_], _ => rfl) (fun ds m _ => le_need_program ds m) fun f cdv A outer s H E hr hp ho => xss_cons (xs_if (PW.pt (xw_or (xt_not (xt_V (xe_isi rfl (by decide) rfl (c.free 5) rfl (c.free 3) bb_tuple (xe_vr 0)))) (xw_or1 (xt_cmp (op_eqA hr) op2_eq (xe_vr 0) (xe_tpl (xa_nil)) (nomark _))))) (xss_one (raise_BadProgram c (hr.mono (by decide)) rfl rfl (takes_of rfl rfl rfl rfl) (xe_int))) (xss_nil)) (xss_one (xs_for ho rfl (xi_rng1 rfl (c.free 0) (xa_cons (xe_callB call_lenA opN_len rfl (c.free 1) bb_len (xa_cons (xe_vr 0) (xa_nil))) (xa_nil))) (xg_nm (i := 1) S.nd) (xss_one (xs_if (PW.pt (xw_or (xt_cmp op_ge op2_ge (xe_vr 1) (xe_gint (c.int 7)) (nomark _)) (xw_or1 (xt_not (xt_V (xe_callC h_is_row (hr.mono (by decide)) hp (xa_cons (xe_ix ix_seq op2_ix (xe_vr 0) (xe_vr 1) (fun _ _ => rfl)) (xa_cons (xe_callB call_lenA opN_len rfl (c.free 1) bb_len (xa_cons (xe_vr 0) (xa_nil))) (xa_nil))))))))) (xss_one (raise_BadProgram c (hr.mono (by decide)) rfl rfl (takes_of rfl rfl rfl rfl) (xe_vr 1))) (xss_nil)))))
theorem cal_written (c : C w K mg) : Cal Pg w K mg base (PK w K) "written" 4 1 m_written := by
  have S := S_written
  have h_need_program : Cal Pg w K mg base (PK w K) "need_program" 3 1 m_need_program := cal_need_program c
  exact cal_of c (st := s_written) (N := N_written) (fb := f_written) 45 16 S (fun _ _ _ _ _ _ us hl => match us, hl with | [_], _ => rfl) (fun ds m _ => le_written ds m) fun f cdv A outer s H E hr hp ho => xss_cons (xs_exp (xe_callC h_need_program (hr.mono (by decide)) hp (xa_cons (xe_vr 0) (xa_nil)))) (xss_one (xs_ret (xe_join rfl (xe_str) (xe_comp (own := [("row", 1)]) rfl S.nd (xi_seq rfl (xe_vr 0)) (blkOk_by (own := [("row", 1)]) (N := N_written) (sc := defScope s_written) (by decide +kernel)) (fun _ _ _ _ _ => xg_nm (i := 1) S.nd) (fun _ _ _ _ _ => xts_nil) (fun _ _ _ _ _ => xe_join rfl (xe_str) (xe_op op_addA op2_add (xe_lsl (xa_cons (xe_ix ix_seq op2_ix (xe_vr 1) (xe_int) (fun _ _ => rfl)) (xa_nil))) (xe_comp (own := [("part", 2)]) rfl S.nd (xi_seq rfl (xe_slc rfl (xe_vr 1) (xo_some (xe_int)) (xo_none))) (blkOk_in (own := [("part", 2)]) (N := N_written) (by decide +kernel)) (fun _ _ _ _ _ => xg_nm (i := 2) S.nd) (fun _ _ _ _ _ => xts_nil) (fun _ _ _ _ _ => xe_callTy call_str_int opN_str rfl (c.free 4) bb_str (xa_cons (xe_vr 2) (xa_nil))) (by decide)))) (by decide)))))
theorem law_fact (c : C w K mg) (f : Addr) (hf : mg "law" = some (.ref f)) : ∃ (fd : FuncData) (sp : Sp), (∀ (s : Shared) (u : Value), BindsTo s fd ⟨[u], []⟩ [("_law_script", u)]) ∧ (∀ (H : Hp) (a : Addr) (ns : List Int), ns.length ≤ 63 → (∀ p ∈ tfL, H (He.cT K p).2 = some (.tbl #[])) → SqL K H a (ns.map V.int) → sp [.ref a] H (fun v _ => v = .bl true) fun _ _ _ => False) ∧
      ∀ base : Heap, K.In base → base.Ns mainGlobals mg → (∀ p ∈ tfL, LamX.TabB base mg (He.cT K p).1 (He.cT K p).2) → FnOk Pg w K mg base (L2.CX Pg w) 8 f fd ["_law_script"] sp := by
  refine law_ofL (P := PK w K) (tf := tfL) c (st := s_law) (N := N_law) (fb := f_law) (k := 7) 46 17 S_law (fun _ _ _ _ _ _ us hl => match us, hl with | [_], _ => rfl) (fun base f cdv A outer s H E tb hcd hr hp ho => ?_) rfl (fun p hp => ⟨("law", none), List.mem_cons_self, by rw [List.mem_singleton.mp hp]⟩) rfl rfl rfl law_true f hf
  have S := S_law
  have h_l_alike : Cal Pg w K mg base (PK w K) "_law_alike" 7 2 (m_l_alike 6) := cal_l_alike 6 c
  have h_l_line : Cal Pg w K mg base (PK w K) "_law_line" 1 2 m_l_line := cal_l_line c
  have h_l_mix : Cal Pg w K mg base (PK w K) "_law_mix" 1 2 m_l_mix := cal_l_mix c
  have h_l_next : Cal Pg w K mg base (PK w K) "_law_next" 1 2 m_l_next := cal_l_next c
  have h_l_plain : Cal Pg w K mg base (PK w K) "_law_plain" 4 2 m_l_plain := cal_l_plain c
  have h_l_spoilt : Cal Pg w K mg base (PK w K) "_law_spoilt" 2 2 m_l_spoilt := cal_l_spoilt c
  have h_read : Cal Pg w K mg base (PK w K) "read" 4 1 m_read := cal_read c
  have h_written : Cal Pg w K mg base (PK w K) "written" 4 1 m_written := cal_written c
  exact xss_cons (xs_set (i := 1) S.nd (xe_callC h_l_mix (hr.mono (by decide)) hp (xa_cons (xe_vr 0) (xa_cons (xe_int) (xa_nil))))) (xss_cons (xs_set (i := 2) S.nd (xe_lsm (xa_cons (xe_str) (xa_cons (xe_str) (xa_cons (xe_str) (xa_cons (xe_str) (xa_cons (xe_str) (xa_cons (xe_str) (xa_cons (xe_str) (xa_cons (xe_str) (xa_cons (xe_str) (xa_cons (xe_str) (xa_cons (xe_str) (xa_nil)))))))))))))) (xss_cons (xs_set (i := 2) S.nd (xe_addM (xe_vr 2) (xe_lsl (xa_cons (xe_str) (xa_cons (xe_str) (xa_cons (xe_str) (xa_cons (xe_str) (xa_cons (xe_join rfl (xe_str) (xe_rep (xe_lsl (xa_cons (xe_str) (xa_nil))) (xe_int))) (xa_cons (xe_join rfl (xe_str) (xe_rep (xe_lsl (xa_cons (xe_str) (xa_nil))) (xe_int))) (xa_nil)))))))))) (xss_cons (xs_exp (xe_app (xe_vr 2) (xe_join rfl (xe_str) (xe_rep (xe_lsl (xa_cons (xe_str) (xa_nil))) (xe_int))) rfl)) (xss_cons (xs_for ho rfl (xi_rng1 rfl (c.free 0) (xa_cons (xe_int) (xa_nil))) (xg_nm (i := 3) S.nd) (xss_cons (xs_set (i := 4) S.nd (xe_callC h_written (hr.mono (by decide)) hp (xa_cons (xe_callC h_l_plain (hr.mono (by decide)) hp (xa_cons (xe_vr 1) (xa_cons (xe_ix ix_seq op2_ix (xe_lsl (xa_cons (xe_int) (xa_cons (xe_int) (xa_cons (xe_int) (xa_nil))))) (xe_callC h_l_next (hr.mono (by decide)) hp (xa_cons (xe_vr 1) (xa_cons (xe_int) (xa_nil)))) (fun _ _ => rfl)) (xa_nil)))) (xa_nil)))) (xss_cons (xs_for ho rfl (xi_rng1 rfl (c.free 0) (xa_cons (xe_callC h_l_next (hr.mono (by decide)) hp (xa_cons (xe_vr 1) (xa_cons (xe_int) (xa_nil)))) (xa_nil))) (xg_nm (i := 5) S.nd) (xss_one (xs_set (i := 4) S.nd (xe_callC h_l_spoilt (hr.mono (by decide)) hp (xa_cons (xe_vr 1) (xa_cons (xe_vr 4) (xa_nil))))))) (xss_one (xs_for ho rfl (xi_seq rfl (xe_lsl (xa_cons (xe_vr 4) (xa_cons (xe_ix ix_seq op2_ix (xe_vr 2) (xe_callC h_l_next (hr.mono (by decide)) hp (xa_cons (xe_vr 1) (xa_cons (xe_int) (xa_nil)))) (fun _ _ => rfl)) (xa_nil))))) (xg_nm (i := 6) S.nd) (xss_cons (xs_set (i := 7) S.nd (xe_split rfl (xe_vr 6) (xe_str))) (xss_cons (xs_set (i := 8) S.nd (xe_comp (own := [("_law_line_here", 9)]) rfl S.nd (xi_seq rfl (xe_vr 7)) (blkOk_by (own := [("_law_line_here", 9)]) (N := N_law) (sc := defScope s_law) (by decide +kernel)) (fun _ _ _ _ _ => xg_nm (i := 9) S.nd) (fun _ _ _ _ _ => xts_nil) (fun _ _ _ _ _ => xe_callC h_l_line (hr.mono (by decide)) passL (xa_cons (xe_vr 9) (xa_cons (xe_callB call_lenA opN_len rfl (c.free 1) bb_len (xa_cons (xe_vr 7) (xa_nil))) (xa_nil)))) (by decide))) (xss_cons (xs_setLc (i := 10) (own := [("_law_k", 11)]) rfl S.nd (xi_rng1 rfl (c.free 0) (xa_cons (xe_callB call_lenA opN_len rfl (c.free 1) bb_len (xa_cons (xe_vr 8) (xa_nil))) (xa_nil))) (blkOk_by (own := [("_law_k", 11)]) (N := N_law) (sc := defScope s_law) (by decide +kernel)) (fun _ _ _ _ _ => xg_nm (i := 11) S.nd) (fun _ _ _ _ _ => xts_one (PW.pt (xw_or (xt_cmp op_isN op2_isN (xe_ix ix_seq op2_ix (xe_vr 8) (xe_vr 11) (fun _ _ => rfl)) (xe_non) (nomark _)) (xw_or1 (xt_cmp op_gt op2_gt (xe_vr 11) (xe_int) (nomark _)))))) (fun _ _ _ _ _ => xe_vr 11) (by decide)) (xss_one (xs_if (xt_cmp (op_neA hr) op2_ne (xe_vr 10) (xe_lsl (xa_nil)) (nomark _)) (xss_one (xs_if (xt_cmp (op_neA hr) op2_ne (xe_kind (j := 18) (i := 2) (k := 4) c rfl rfl rfl S_l_kind rfl (Or.inl rfl) (fun _ _ _ _ _ _ us hl => match us, hl with | [_], _ => rfl) (fun _ => gives_kind c (kindF c) (hr.mono (by decide))) (tb ("law", none) List.mem_cons_self) hcd (List.mem_cons_self (a := ((He.cT K ("law", none)).2, lamQ "law" (defScope s_law))) (l := [])) (fun _ hq _ => by rw [List.mem_singleton.mp hq]; rfl) (hr.mono (by decide)) (LamX.lamS_by (sc := defScope s_law) (by decide +kernel)) rfl (fun _ _ _ _ _ => rfl) (fun A outer s H E f c' hr => xe_callC h_read (hr.mono (by decide)) passLam (xa_cons (xe_vr 6) (xa_nil)))) (xe_tpl (xa_cons (xe_str) (xa_cons (xe_ix ix_seq op2_ix (xe_vr 10) (xe_int) (fun _ _ => rfl)) (xa_nil)))) (nomark _)) (xss_one (xs_ret (xe_bl))) (xss_nil))) (xss_one (xs_if (xt_not (xt_V (xe_callC h_l_alike (hr.mono (by decide)) hp (xa_cons (xe_callC h_read (hr.mono (by decide)) hp (xa_cons (xe_vr 6) (xa_nil))) (xa_cons (xe_callTy call_tuple_of opN_tuple rfl (c.free 3) bb_tuple (xa_cons (xe_vr 8) (xa_nil))) (xa_nil)))))) (xss_one (xs_ret (xe_bl))) (xss_nil))))))))))))) (xss_one (xs_ret (xe_bl)))))))
end
theorem ob_eq (s : PySem.W.SharedT) : ob s = hk.obs s.abs := obsY_eq (HandSHeadRun.getT_eq s)
end LB
open PySem PySem.W PySem.Calls PyProof.Rows
theorem PySem.Challenge.cw_lateboxes_k20_texts_refused_holds : PySem.Challenge.rw_lateboxes_k20_texts_refused.Holds := by
  w_on; o_law
  refine HandSHeadRun.head_any (r := OpenLaw.row PySem.Challenge.rw_lateboxes_k20_texts_refused) (q := view (OpenLaw.row PySem.Challenge.rw_lateboxes_k20_texts_refused).prog [37]) (H := LB.hk) (ob := LB.ob) (M := 6000) (loose := LB.loose) (d := HandSHeadRun.topDef (OpenLaw.row PySem.Challenge.rw_lateboxes_k20_texts_refused).prog 37) (kwd := []) LB.ob_eq
    (by kernel_rfl) (fun s => by kernel_rfl) LB.runAll (by kernel_rfl) (by kernel_rfl) (by kernel_rfl) (by rfl) (by first | assumption | decide +kernel) (by decide +kernel) ⟨rfl, rfl, rfl, rfl, rfl, by decide +kernel⟩ ?hw ?hc
  case hw => w_witness2
  case hc =>
    refine LamX.walk_ofTsE (l := PySem.Challenge.rw_lateboxes_k20_texts_refused) (n := 63) (k := 8) (x := "_law_script") (CX := fun w => L2.CX (PySem.Challenge.rw_lateboxes_k20_texts_refused).prog w) rfl (by decide) (by kernel_rfl) ⟨rfl, by decide, by decide⟩ ?F ?G
    case G =>
      intro w H s e s' h
      obtain ⟨_, _, _, _, _, _, _, _, _, _, _, _, z⟩ := h
      exact z
    case F =>
      intro w mg fa h Y G hmg0
      obtain ⟨K, KX, c⟩ := Y
      have hmg : mg ("law" : PySem.Str) = some (.ref fa) := by
        have e : (HandSHeadRun.topDef (OpenLaw.row PySem.Challenge.rw_lateboxes_k20_texts_refused).prog 37).name = ("law" : PySem.Str) := by kernel_rfl
        rw [← e]
        exact hmg0
      obtain ⟨fd, sp, hb, hsp, hF⟩ := LB.law_fact (Pg := (PySem.Challenge.rw_lateboxes_k20_texts_refused).prog) (w := w) (K := K) (mg := mg) ⟨h, LB.tfL, KX, G, c⟩ fa hmg
      exact ⟨K, KX, fd, LB.tfL.map (He.cT K), sp, fun p hp => (by
        obtain ⟨q, hq, e⟩ := List.mem_map.mp hp
        rw [← e]
        exact c.empty q hq), fun p hp => (by
        obtain ⟨q, hq, e⟩ := List.mem_map.mp hp
        rw [← e]
        exact c.out q hq), fun p hp => (by
        obtain ⟨q, hq, e⟩ := List.mem_map.mp hp
        rw [← e]
        exact PySem.W.codeHd_of_K KX (c.hd q hq)), hb, fun H a ns hl _ hH hS => hsp H a ns hl (fun p hp => hH _ (List.mem_map.mpr ⟨p, hp, rfl⟩)) hS, fun base h1 h2 h3 => hF base h1 h2 fun p hp => h3 _ (List.mem_map.mpr ⟨p, hp, rfl⟩)⟩


