import PyProof.Rows.All
import PySem.PyData
import PySem.Sem
import HandS.ForMost
import HandS.ForExc
import HandS.TupAny
import HandS.Deep
import HandS.IsInst
import HandS.SortInts
import HandS.Zip
import KE.GoesNew
import KE.GoesMore
import KE.GoesEnum
import HandS.NoneIn
import HandS.More
import HandS.HeadNt
import HandS.HeadHook4
import HandS.TupSets
import HandS.Conv
import KE.KDictZip
import HandS.SetFor
import HandS.Text
import HandS.Iter
import HandS.Steps
import KE.KIntText
import HandS.Head0
import HandS.Head1
import HandS.Head2
import HandS.HeadEnd
import HandS.HeadWalk
import PySem.Challenge.RW_lateboxes_k19_written_and_read
set_option Elab.async false
set_option linter.all false
set_option maxRecDepth 100000
/-! The pure part: data, a store of things that may change, the monad of runs, the functions that statements and expressions are read as. -/
namespace LB
open PySem

abbrev KeyS := Sum Int Str
inductive D where
  | non
  | bl (b : Bool)
  | int (i : Int)
  | str (s : Str)
  | tup (xs : List D)
  | lst (xs : List D)
  | loc (k : Nat)
  | ref (a : Nat)
  | scr (ns : List Int)
  deriving Inhabited
/-- what stands in a cell of the store -/
inductive MO where
  | lst (xs : List D)
  | dct (kvs : List (KeyS × D))
  | obj (c : Nat) (fs : List (Str × D))
structure Mem where
  get : Nat → Option MO
  n : Nat
def Mem.put (m : Mem) (k : Nat) (o : MO) : Mem := ⟨fun j => if j = k then some o else m.get j, m.n⟩
def Mem.new (m : Mem) (o : MO) : Mem := ⟨fun j => if j = m.n then some o else m.get j, m.n + 1⟩
def Mem.kill (m : Mem) (k : Nat) : Mem := ⟨fun j => if j = k then none else m.get j, m.n⟩
/-- an error: which class, its field -/
structure Er where
  cls : Nat
  fld : Option D
inductive Rs (α : Type) where
  | bad
  | ok (x : α) (m : Mem)
  | ex (e : Er) (m : Mem)
abbrev M (α : Type) := Mem → Rs α
def M.pure {α : Type} (x : α) : M α := fun m => .ok x m
def M.bind {α β : Type} (a : M α) (f : α → M β) : M β := fun m => match a m with
  | .bad => .bad
  | .ok x m1 => f x m1
  | .ex e m1 => .ex e m1
abbrev Ev := List (Option D)
inductive Fl where
  | nx | bk | ct | rt (d : D)
abbrev SE := Ev → M D
abbrev SB := Ev → M Bool
abbrev SA := Ev → M (List D)
abbrev SS := Ev → M (Fl × Ev)

/-! ### what a run tells -/
def Rs.wp {α : Type} (r : Rs α) (q : α → Mem → Prop) (e : Er → Mem → Prop) : Prop := match r with
  | .bad => False
  | .ok x m => q x m
  | .ex x m => e x m
theorem Rs.wp_mono {α : Type} {r : Rs α} {q q' : α → Mem → Prop} {e e' : Er → Mem → Prop} (h : r.wp q e) (hq : ∀ x m, q x m → q' x m) (he : ∀ x m, e x m → e' x m) : r.wp q' e' := by
  cases r with
  | bad => exact h
  | ok x m => exact hq x m h
  | ex x m => exact he x m h
theorem wp_bind {α β : Type} {a : M α} {f : α → M β} {m : Mem} {q : β → Mem → Prop} {e : Er → Mem → Prop} (h : (M.bind a f m).wp q e) : (a m).wp (fun x m1 => (f x m1).wp q e) e := by
  unfold M.bind at h
  cases ha : a m with
  | bad => rw [ha] at h; exact h
  | ok x m1 => rw [ha] at h; exact h
  | ex x m1 => rw [ha] at h; exact h

/-! ### expressions -/
def vr (i : Nat) : SE := fun ρ m => match ρ[i]? with
  | some (some d) => .ok d m
  | _ => .bad
def cn (d : D) : SE := fun _ m => .ok d m
/-- a two-place operation without a change of the store -/
abbrev O2 := D → D → Mem → Option D
abbrev O1 := D → Mem → Option D
def lift {α : Type} (o : Option α) : M α := fun m => match o with
  | some x => .ok x m
  | none => .bad
def op2 (g : O2) (a b : SE) : SE := fun ρ => M.bind (a ρ) fun x => M.bind (b ρ) fun y => fun m => lift (g x y m) m
def op1 (g : O1) (a : SE) : SE := fun ρ => M.bind (a ρ) fun x => fun m => lift (g x m) m
def argN : SA := fun _ m => .ok [] m
def argC (a : SE) (r : SA) : SA := fun ρ => M.bind (a ρ) fun x => M.bind (r ρ) fun xs => M.pure (x :: xs)
abbrev ON := List D → Mem → Option D
def opN (g : ON) (a : SA) : SE := fun ρ => M.bind (a ρ) fun xs => fun m => lift (g xs m) m
/-- the call of a function of one's own -/
abbrev Fn := List D → M D
def call (f : Fn) (a : SA) : SE := fun ρ => M.bind (a ρ) f
def tupE (a : SA) : SE := fun ρ => M.bind (a ρ) fun xs => M.pure (.tup xs)
def lstE (a : SA) : SE := fun ρ => M.bind (a ρ) fun xs => M.pure (.lst xs)
/-- a list that may change -/
def alloc (o : MO) : M D := fun m => .ok (.loc m.n) (m.new o)
def lstM (a : SA) : SE := fun ρ => M.bind (a ρ) fun xs => alloc (.lst xs)
/-- what may change no more -/
def frzD (d : D) : M D := fun m => match d with
  | .loc k => match m.get k with
    | some (.lst xs) => if k < m.n then .ok (.lst xs) (m.kill k) else .bad
    | _ => .bad
  | d => .ok d m
def frz (a : SE) : SE := fun ρ => M.bind (a ρ) frzD
/-- a list that was handed back as one that changes no more, or: the other way round where it is new (asked by the call) -/
def ifE (t : SB) (a b : SE) : SE := fun ρ => M.bind (t ρ) fun c => if c = true then a ρ else b ρ
/-! tests -/
def tV (a : SE) : SB := fun ρ => M.bind (a ρ) fun x => match x with
  | .bl b => M.pure b
  | _ => fun _ => .bad
def tAnd (a b : SB) : SB := fun ρ => M.bind (a ρ) fun c => if c = true then b ρ else M.pure false
def tOr (a b : SB) : SB := fun ρ => M.bind (a ρ) fun c => if c = true then M.pure true else b ρ
def tNot (a : SB) : SB := fun ρ => M.bind (a ρ) fun c => M.pure (!c)
/-- and, or, not as values, of truth values -/
def asB (d : D) : M Bool := fun m => match d with
  | .bl b => .ok b m
  | _ => .bad
def vAnd (a b : SE) : SE := fun ρ => M.bind (a ρ) fun x => M.bind (asB x) fun c => if c = true then b ρ else M.pure (.bl false)
def vOr (a b : SE) : SE := fun ρ => M.bind (a ρ) fun x => M.bind (asB x) fun c => if c = true then M.pure (.bl true) else b ρ
def vNot (a : SE) : SE := fun ρ => M.bind (a ρ) fun x => M.bind (asB x) fun c => M.pure (.bl (!c))

/-! ### statements -/
def sNext : SS := fun ρ => M.pure (.nx, ρ)
def sSeq (a b : SS) : SS := fun ρ => M.bind (a ρ) fun r => match r with
  | (.nx, ρ1) => b ρ1
  | r => M.pure r
def sBrk : SS := fun ρ => M.pure (.bk, ρ)
def sCnt : SS := fun ρ => M.pure (.ct, ρ)
def sRet (a : SE) : SS := fun ρ => M.bind (a ρ) fun d => M.pure (.rt d, ρ)
def sRetN : SS := fun ρ => M.pure (.rt .non, ρ)
def sExp (a : SE) : SS := fun ρ => M.bind (a ρ) fun _ => M.pure (.nx, ρ)
def sIf (t : SB) (a b : SS) : SS := fun ρ => M.bind (t ρ) fun c => if c = true then a ρ else b ρ
abbrev SG := D → Ev → Option Ev
def gNm (i : Nat) : SG := fun d ρ => some (ρ.set i (some d))
def gNms (is : List Nat) (ds : List D) (ρ : Ev) : Option Ev := match is, ds with
  | [], [] => some ρ
  | i :: is, d :: ds => gNms is ds (ρ.set i (some d))
  | _, _ => none
def gTp (is : List Nat) : SG := fun d ρ => match d with
  | .tup ds => gNms is ds ρ
  | _ => none
def sAsg (a : SE) (g : SG) : SS := fun ρ => M.bind (a ρ) fun d => match g d ρ with
  | some ρ1 => M.pure (.nx, ρ1)
  | none => fun _ => .bad
/-- what is walked: the i-th item, as the store is then; none: the end -/
abbrev Wk := Nat → Mem → Option (Option D)
abbrev SI := Ev → M (Wk × Nat)
def forG (w : Wk) (g : SG) (body : SS) : Nat → Nat → SS
  | fuel, i, ρ => fun m => match w i m with
    | none => .bad
    | some none => .ok (.nx, ρ) m
    | some (some x) => match fuel with
      | 0 => .bad
      | fuel + 1 => match g x ρ with
        | none => .bad
        | some ρ1 => M.bind (body ρ1) (fun r => match r with
          | (.nx, ρ2) => forG w g body fuel (i + 1) ρ2
          | (.ct, ρ2) => forG w g body fuel (i + 1) ρ2
          | (.bk, ρ2) => M.pure (.nx, ρ2)
          | (.rt d, ρ2) => M.pure (.rt d, ρ2)) m
def sFor (it : SI) (g : SG) (body : SS) : SS := fun ρ => M.bind (it ρ) fun w => forG w.1 g body w.2 0 ρ
def whileG (t : SB) (body : SS) : Nat → SS
  | fuel, ρ => M.bind (t ρ) fun c => if c = true then (match fuel with
      | 0 => fun _ => .bad
      | fuel + 1 => M.bind (body ρ) fun r => match r with
        | (.nx, ρ2) => whileG t body fuel ρ2
        | (.ct, ρ2) => whileG t body fuel ρ2
        | (.bk, ρ2) => M.pure (.nx, ρ2)
        | (.rt d, ρ2) => M.pure (.rt d, ρ2)) else M.pure (.nx, ρ)
def sWhile (fuel : Ev → Mem → Nat) (t : SB) (body : SS) : SS := fun ρ m => whileG t body (fuel ρ m) ρ m
/-! comprehensions -/
def wipeE (ρ : Ev) : List Nat → Ev
  | [] => ρ
  | v :: vs => (wipeE ρ vs).set v none
/-- no error leaves -/
def noex {α : Type} (a : M α) : M α := fun m => match a m with
  | .ex _ _ => .bad
  | r => r
def compG (w : Wk) (g : SG) (t : SB) (e : SE) (ρ0 : Ev) : Nat → Nat → List D → M (List D)
  | fuel, i, acc => fun m => match w i m with
    | none => .bad
    | some none => .ok acc m
    | some (some x) => match fuel with
      | 0 => .bad
      | fuel + 1 => match g x ρ0 with
        | none => .bad
        | some ρ1 => M.bind (noex (t ρ1)) (fun c => if c = true then M.bind (noex (e ρ1)) (fun y m => if acc.length < sizeLine then compG w g t e ρ0 fuel (i + 1) (acc ++ [y]) m else .bad) else compG w g t e ρ0 fuel (i + 1) acc) m
def compL (it : SI) (g : SG) (t : SB) (e : SE) (own : List Nat) : Ev → M (List D) := fun ρ => M.bind (it ρ) fun w => compG w.1 g t e (wipeE ρ own) w.2 0 []
def comp (it : SI) (g : SG) (t : SB) (e : SE) (own : List Nat) : SE := fun ρ => M.bind (compL it g t e own ρ) fun ys => M.pure (.lst ys)
def compM (it : SI) (g : SG) (t : SB) (e : SE) (own : List Nat) : SE := fun ρ => M.bind (compL it g t e own ρ) fun ys => alloc (.lst ys)
def tYes : SB := fun _ => M.pure true

/-! ### a def's run -/
def start (n : Nat) (ds : List D) : Ev := ds.map some ++ List.replicate (n - ds.length) none
def run (n : Nat) (f : SS) : Fn := fun ds => M.bind (f (start n ds)) fun r => match r with
  | (.rt d, _) => M.pure d
  | (.nx, _) => M.pure .non
  | _ => fun _ => .bad

/-! ### which cells are spoken of -/
mutual
def D.blw (n : Nat) : D → Bool
  | .tup xs => blws n xs
  | .lst xs => blws n xs
  | .loc k => decide (k < n)
  | .non => true
  | .bl _ => true
  | .int _ => true
  | .str _ => true
  | .ref _ => true
  | .scr _ => true
def blws (n : Nat) : List D → Bool
  | [] => true
  | x :: xs => x.blw n && blws n xs
end
def MO.blw (n : Nat) : MO → Bool
  | .lst xs => blws n xs
  | .dct kvs => kvs.all fun p => p.2.blw n
  | .obj _ fs => fs.all fun p => p.2.blw n
/-- m1 is what is told of m2 behind a run from m0: what was made on the way is forgotten -/
def Tr (m0 m1 m2 : Mem) : Prop := m0.n ≤ m1.n ∧ m1.n ≤ m2.n ∧ ∀ k, k < m1.n → m1.get k = none ∨ (m1.get k = m2.get k ∧ ((k < m0.n ∧ m1.get k = m0.get k) ∨ ∀ o, m1.get k = some o → o.blw m1.n = true))
inductive LeR (m0 : Mem) : Rs D → Rs D → Prop
  | bad (r : Rs D) : LeR m0 .bad r
  | same (r : Rs D) : LeR m0 r r
  | ok (d : D) (m1 m2 : Mem) : Tr m0 m1 m2 → d.blw m1.n = true → LeR m0 (.ok d m1) (.ok d m2)
  | ex (e : Er) (m1 m2 : Mem) : Tr m0 m1 m2 → (∀ d, e.fld = some d → d.blw m1.n = true) → LeR m0 (.ex e m1) (.ex e m2)

/-! ### equality -/
mutual
def D.plain : D → Bool
  | .non => true
  | .bl _ => true
  | .int _ => true
  | .str x => x.cps.all (· < 0x110000)
  | .tup xs => plains xs
  | .lst xs => plains xs
  | .loc _ => false
  | .ref _ => false
  | .scr _ => false
def plains : List D → Bool
  | [] => true
  | x :: xs => x.plain && plains xs
end
mutual
def D.dep : D → Nat
  | .tup xs => deps xs + 1
  | .lst xs => deps xs + 1
  | .non => 0
  | .bl _ => 0
  | .int _ => 0
  | .str _ => 0
  | .loc _ => 0
  | .ref _ => 0
  | .scr _ => 0
def deps : List D → Nat
  | [] => 0
  | x :: xs => max x.dep (deps xs)
end
mutual
def D.eqv : D → D → Bool
  | .non, .non => true
  | .bl a, .bl b => a == b
  | .bl a, .int j => (if a then 1 else 0) == j
  | .int i, .bl b => i == (if b then 1 else 0)
  | .int i, .int j => i == j
  | .str x, .str y => x == y
  | .lst xs, .lst ys => eqvs xs ys
  | .tup xs, .tup ys => eqvs xs ys
  | _, _ => false
def eqvs : List D → List D → Bool
  | [], [] => true
  | x :: xs, y :: ys => D.eqv x y && eqvs xs ys
  | [], _ :: _ => false
  | _ :: _, [] => false
end
/-! ### operations -/
def lstOf (m : Mem) : D → Option (List D)
  | .lst xs => some xs
  | .loc k => if k < m.n then (match m.get k with
    | some (.lst xs) => some xs
    | _ => none) else none
  | _ => none
def sqOf (m : Mem) : D → Option (List D)
  | .tup xs => some xs
  | .scr ns => some (ns.map D.int)
  | d => lstOf m d
def gAdd : O2 := fun x y m => match x, y with
  | .int i, .int j => some (.int (i + j))
  | .str i, .str j => if i.length + j.length ≤ sizeLine then some (.str (i ++ j)) else none
  | .tup xs, .tup ys => if xs.length + ys.length ≤ sizeLine then some (.tup (xs ++ ys)) else none
  | x, y => match lstOf m x, lstOf m y with
    | some xs, some ys => if xs.length + ys.length ≤ sizeLine then some (.lst (xs ++ ys)) else none
    | _, _ => none
def g2I (f : Int → Int → D) : O2 := fun x y _ => match x, y with
  | .int i, .int j => some (f i j)
  | _, _ => none
def g2IC (c : Int → Int → Bool) (f : Int → Int → D) : O2 := fun x y _ => match x, y with
  | .int i, .int j => if c i j = true then some (f i j) else none
  | _, _ => none
def gSub : O2 := g2I fun i j => .int (i - j)
def small64 (i : Int) : Bool := decide (-(2 ^ 64) < i) && decide (i < 2 ^ 64)
def gMul : O2 := g2IC (fun i j => small64 i || small64 j) fun i j => .int (i * j)
def gMod : O2 := g2IC (fun _ j => decide (j ≠ 0)) fun i j => .int (i.fmod j)
def gFdiv : O2 := g2IC (fun _ j => decide (j ≠ 0) && decide (j.natAbs < 1073741824)) fun i j => .int (i.fdiv j)
def gPow : O2 := g2IC (fun i j => decide (0 ≤ j) && decide (j ≤ 1000000) && decide (i.natAbs < 2 ^ 64)) fun i j => .int (i ^ j.toNat)
def gLt : O2 := g2I fun i j => .bl (decide (i < j))
def gLe : O2 := g2I fun i j => .bl (decide (i ≤ j))
def gGt : O2 := g2I fun i j => .bl (decide (j < i))
def gGe : O2 := g2I fun i j => .bl (decide (j ≤ i))
/-- a list of the store as it stands -/
def res (m : Mem) (d : D) : D := match lstOf m d with
  | some xs => .lst xs
  | none => d
def eqDeep (m : Mem) (x y : D) : Option Bool :=
  if (res m x).plain = true ∧ (res m y).plain = true ∧ (res m x).dep ≤ 60 ∧ (res m y).dep ≤ 60 then some ((res m x).eqv (res m y)) else none
def eqOf (m : Mem) : D → D → Option Bool
  | .non, .non => some true
  | .int i, .int j => some (decide (i = j))
  | .bl a, .bl b => some (decide (a = b))
  | .str x, .str y => some (decide (x = y))
  | x, y => eqDeep m x y
def gEq : O2 := fun x y m => (eqOf m x y).map fun b => .bl b
def gNe : O2 := fun x y m => (eqOf m x y).map fun b => .bl (!b)
def gIsN : O2 := fun x y _ => match y with
  | .non => some (.bl (match x with
    | .non => true
    | _ => false))
  | _ => none
def gNotN : O2 := fun x y _ => match y with
  | .non => some (.bl (match x with
    | .non => false
    | _ => true))
  | _ => none
def D.isFlat : D → Bool
  | .non => true
  | .bl _ => true
  | .int _ => true
  | .str _ => true
  | _ => false
def inD (x : D) (xs : List D) : Bool := xs.any fun y => y.eqv x
def inOf (x : D) (xs : List D) : Option Bool :=
  if x.isFlat = true ∧ xs.all D.isFlat = true then some (inD x xs)
  else if x.plain = true ∧ x.dep ≤ 50 ∧ plains xs = true ∧ deps xs ≤ 50 then some (inD x xs) else none
def gIn : O2 := fun x y m => (sqOf m y).bind fun xs => (inOf x xs).map .bl
def gNotIn : O2 := fun x y m => (sqOf m y).bind fun xs => (inOf x xs).map fun b => .bl (!b)
def ixD (n : Nat) (i : Int) : Option Nat := if 0 ≤ i then (if i < n then some i.toNat else none) else if -(n : Int) ≤ i then some (i + n).toNat else none
def atD {α : Type} (xs : List α) (i : Int) : Option α := (ixD xs.length i).bind fun j => xs[j]?
def gIx : O2 := fun x y m => match y with
  | .int i => match x with
    | .str z => if z.length ≤ sizeLine then (atD z.cps.toList i).map fun c => .str ⟨#[c]⟩ else none
    | x => (sqOf m x).bind fun xs => atD xs i
  | _ => none
def sIxD (n d : Nat) : Option Int → Nat
  | none => d
  | some v => if v < 0 then (v + (n : Int)).toNat else min v.toNat n
def cutD {α : Type} (xs : List α) (lo hi : Option Int) : List α := (xs.drop (sIxD xs.length 0 lo)).take (sIxD xs.length xs.length hi - sIxD xs.length 0 lo)
abbrev SO := Ev → M (Option Int)
def soN : SO := fun _ => M.pure none
def soS (a : SE) : SO := fun ρ => M.bind (a ρ) fun d => match d with
  | .int i => M.pure (some i)
  | _ => fun _ => .bad
def gSl (x : D) (lo hi : Option Int) (m : Mem) : Option D := match x with
  | .tup xs => some (.tup (cutD xs lo hi))
  | x => (lstOf m x).map fun xs => .lst (cutD xs lo hi)
def slc (a : SE) (lo hi : SO) : SE := fun ρ => M.bind (a ρ) fun x => M.bind (lo ρ) fun l => M.bind (hi ρ) fun h => fun m => lift (gSl x l h m) m
/-! what is walked -/
def wkSeq (d : D) : Wk := fun i m => (sqOf m d).map fun xs => xs[i]?
def itSeq (a : SE) : SI := fun ρ => M.bind (a ρ) fun d m => match sqOf m d with
  | some xs => .ok (wkSeq d, xs.length) m
  | none => .bad
def wkRng (lo : Int) (n : Nat) : Wk := fun i _ => some (if i < n then some (.int (lo + (i : Nat))) else none)
def small62 (i : Int) : Bool := decide (-(2 ^ 62) ≤ i) && decide (i < 2 ^ 62)
def itRng1 (a : SA) : SI := fun ρ => M.bind (a ρ) fun ds m => match ds with
  | [.int hi] => if small62 hi = true then .ok (wkRng 0 hi.toNat, hi.toNat) m else .bad
  | _ => .bad
def itRng2 (a : SA) : SI := fun ρ => M.bind (a ρ) fun ds m => match ds with
  | [.int lo, .int hi] => if small62 lo = true ∧ small62 hi = true then .ok (wkRng lo (hi - lo).toNat, (hi - lo).toNat) m else .bad
  | _ => .bad

/-! ### built-ins -/
def gLen : ON := fun ds m => match ds with
  | [.str z] => if z.length ≤ sizeLine then some (.int z.length) else none
  | [.loc k] => if k < m.n then (match m.get k with
    | some (.lst xs) => some (.int xs.length)
    | some (.dct kvs) => some (.int kvs.length)
    | _ => none) else none
  | [d] => (sqOf m d).map fun xs => .int xs.length
  | _ => none
def gMax2 : ON := fun ds _ => match ds with
  | [.int i, .int j] => some (.int (if j > i then j else i))
  | _ => none
def gMin2 : ON := fun ds _ => match ds with
  | [.int i, .int j] => some (.int (if j < i then j else i))
  | _ => none
def gInt : ON := fun ds _ => match ds with
  | [.int i] => some (.int i)
  | [.bl k] => some (.int (if k then 1 else 0))
  | _ => none
/-- list(xs), as one that changes no more -/
def gSq (f : List D → D) : ON := fun ds m => match ds with
  | [d] => (sqOf m d).map f
  | _ => none
def gList : ON := gSq .lst
def gTuple : ON := fun ds m => match ds with
  | [.tup xs] => some (.tup xs)
  | [d] => (lstOf m d).map .tup
  | _ => none
/-- the same, with a place in the store -/
def opNM (g : ON) (a : SA) : SE := fun ρ => M.bind (a ρ) fun xs => M.bind (fun m => lift (g xs m) m) fun d => match d with
  | .lst ys => alloc (.lst ys)
  | _ => fun _ => .bad
def intsOf : List D → Option (List Int)
  | [] => some []
  | .int i :: r => (intsOf r).map (i :: ·)
  | _ :: _ => none
def gSum : ON := fun ds m => match ds with
  | [d] => (lstOf m d).bind fun xs => (intsOf xs).map fun ns => .int ns.sum
  | _ => none
def maxL : List Int → Option Int
  | [] => none
  | i :: r => match maxL r with
    | none => some i
    | some j => some (if j > i then j else i)
def minL : List Int → Option Int
  | [] => none
  | i :: r => match minL r with
    | none => some i
    | some j => some (if j < i then j else i)
def gMax : ON := fun ds m => match ds with
  | [d] => (lstOf m d).bind fun xs => (intsOf xs).bind fun ns => (maxL ns).map .int
  | _ => none
def gMin : ON := fun ds m => match ds with
  | [d] => (lstOf m d).bind fun xs => (intsOf xs).bind fun ns => (minL ns).map .int
  | _ => none
/-- rising -/
def ins1 (i : Int) : List Int → List Int
  | [] => [i]
  | j :: r => if i ≤ j then i :: j :: r else j :: ins1 i r
def isort : List Int → List Int
  | [] => []
  | i :: r => ins1 i (isort r)
def gSorted : ON := fun ds m => match ds with
  | [d] => (lstOf m d).bind fun xs => (intsOf xs).map fun ns => .lst ((isort ns).map .int)
  | _ => none
/-- isinstance -/
def isTy (m : Mem) (T : String) : D → Option Bool
  | .non => some false
  | .bl _ => some (T == "bool" || T == "int")
  | .int _ => some (T == "int")
  | .str _ => some (T == "str")
  | .tup _ => some (T == "tuple")
  | .lst _ => some (T == "list")
  | .loc k => if k < m.n then (match m.get k with
    | some (.lst _) => some (T == "list")
    | _ => none) else none
  | _ => none
def gIsi (T : String) : O1 := fun d m => (isTy m T d).map .bl
def gIsi2 (T U : String) : O1 := fun d m => match isTy m T d, isTy m U d with
  | some a, some b => some (.bl (a || b))
  | _, _ => none
/-! dicts of the store, keys ints and texts -/
def keyOf : D → Option KeyS
  | .int i => some (.inl i)
  | .str x => some (.inr x)
  | _ => none
def valK {α : Type} (kvs : List (KeyS × α)) (k : KeyS) : Option α := (kvs.find? fun kv => decide (kv.1 = k)).map (·.2)
def putKD (kvs : List (KeyS × D)) (k : KeyS) (v : D) : List (KeyS × D) :=
  if (kvs.any fun kv => decide (kv.1 = k)) = true then kvs.map (fun kv => if kv.1 = k then (kv.1, v) else kv) else kvs ++ [(k, v)]
def dctOf (m : Mem) : D → Option (List (KeyS × D))
  | .loc k => if k < m.n then (match m.get k with
    | some (.dct kvs) => some kvs
    | _ => none) else none
  | _ => none
def gDget : O2 := fun d k m => (dctOf m d).bind fun kvs => (keyOf k).bind fun k => valK kvs k
def gDin : O2 := fun k d m => (dctOf m d).bind fun kvs => (keyOf k).map fun k => .bl (valK kvs k).isSome
def gDnotin : O2 := fun k d m => (dctOf m d).bind fun kvs => (keyOf k).map fun k => .bl (!(valK kvs k).isSome)
/-- d.get(k, x) -/
def isDct (m : Mem) (d : D) : Bool := (dctOf m d).isSome
def dget2 (d k x : SE) : SE := fun ρ => M.bind (d ρ) fun dd => M.bind (fun m => if isDct m dd = true then .ok () m else .bad) fun _ => M.bind (k ρ) fun kk => M.bind (x ρ) fun xx => fun m => lift ((dctOf m dd).bind fun kvs => (keyOf kk).map fun k => (valK kvs k).getD xx) m
def prE (ps : List (SE × SE)) : Ev → M (List (D × D)) := match ps with
  | [] => fun _ => M.pure []
  | (k, v) :: r => fun ρ => M.bind (k ρ) fun kd => M.bind (v ρ) fun vd => M.bind (prE r ρ) fun xs => M.pure ((kd, vd) :: xs)
def keysOf : List (D × D) → Option (List (KeyS × D))
  | [] => some []
  | (k, v) :: r => match keyOf k, keysOf r with
    | some k, some r => some ((k, v) :: r)
    | _, _ => none
def mergeD (kvs more : List (KeyS × D)) : List (KeyS × D) := more.foldl (fun acc kv => putKD acc kv.1 kv.2) kvs
/-- a dict's display -/
def dspK (xs : List (D × D)) : M D := fun m => match keysOf xs with
  | some kvs => if kvs.length ≤ 15 then alloc (.dct (mergeD [] kvs)) m else .bad
  | none => .bad
def dspE (ps : List (SE × SE)) : SE := fun ρ => M.bind (prE ps ρ) dspK
/-- d[k] = v: the value first -/
def sDput (d k v : SE) : SS := fun ρ => M.bind (v ρ) fun vd => M.bind (d ρ) fun dd => M.bind (k ρ) fun kd => fun m => match dd, keyOf kd with
  | .loc j, some k => if j < m.n then (match m.get j with
    | some (.dct kvs) => if kvs.length < sizeLine then .ok (.nx, ρ) (m.put j (.dct (putKD kvs k vd))) else .bad
    | _ => .bad) else .bad
  | _, _ => .bad
/-! lists of the store -/
def updL (d : D) (f : List D → Option (List D)) : M Unit := fun m => match d with
  | .loc j => if j < m.n then (match m.get j with
    | some (.lst xs) => match f xs with
      | some ys => .ok () (m.put j (.lst ys))
      | none => .bad
    | _ => .bad) else .bad
  | _ => .bad
/-- xs.append(e), the value None -/
def chkL (d : D) : M Unit := fun m => if (lstOf m d).isSome = true then .ok () m else .bad
def appE (l e : SE) : SE := fun ρ => M.bind (l ρ) fun ld => M.bind (chkL ld) fun _ => M.bind (e ρ) fun ed => M.bind (updL ld fun xs => if xs.length < sizeLine then some (xs ++ [ed]) else none) fun _ => M.pure .non
def extK (ld ed : D) : M D := fun m => match lstOf m ed with
  | some ys => M.bind (updL ld fun xs => if xs.length + ys.length ≤ sizeLine then some (xs ++ ys) else none) (fun _ => M.pure .non) m
  | none => .bad
def extE (l e : SE) : SE := fun ρ => M.bind (l ρ) fun ld => M.bind (chkL ld) fun _ => M.bind (e ρ) fun ed => extK ld ed
/-- xs[i] = e -/
def lputK (ld id ed : D) : M Unit := match id with
  | .int i => updL ld fun xs => (ixD xs.length i).map fun j => xs.set j ed
  | _ => fun _ => .bad
def sLput (l i e : SE) : SS := fun ρ => M.bind (e ρ) fun ed => M.bind (l ρ) fun ld => M.bind (i ρ) fun id => M.bind (lputK ld id ed) fun _ => M.pure (.nx, ρ)
/-- methods without arguments that change a list: pop, clear, reverse; what they hand back -/
def mt0E (g : List D → Option (List D × D)) (l : SE) : SE := fun ρ => M.bind (l ρ) fun ld => fun m => match (lstOf m ld).bind g with
  | some (_, d) => M.bind (updL ld fun xs => (g xs).map (·.1)) (fun _ => M.pure d) m
  | none => .bad
def gPop (xs : List D) : Option (List D × D) := (xs[xs.length - 1]?).map fun d => (xs.dropLast, d)
def gClear (_ : List D) : Option (List D × D) := some ([], .non)
def gReverse (xs : List D) : Option (List D × D) := some (xs.reverse, .non)
/-! constants of the module that are dicts of texts -/
def gInK (tbl : List (Str × D)) : O1 := fun d _ => match d with
  | .str z => some (.bl (tbl.lookup z).isSome)
  | _ => none
def gNotInK (tbl : List (Str × D)) : O1 := fun d _ => match d with
  | .str z => some (.bl (!(tbl.lookup z).isSome))
  | _ => none
def gGetK (tbl : List (Str × D)) : O1 := fun d _ => match d with
  | .str z => tbl.lookup z
  | _ => none
/-! more that is walked -/
def strOf (z : Str) : List D := z.cps.toList.map fun c => .str ⟨#[c]⟩
def wlkOf (m : Mem) : D → Option (List D)
  | .str z => some (strOf z)
  | d => sqOf m d
/-- the i-th of n, then the end -/
def upTo (n i : Nat) (x : Option D) : Option (Option D) := if i < n then x.map some else if i = n then some none else none
/-- enumerate(xs) -/
def wkEn (d : D) : Wk := fun i m => (wlkOf m d).bind fun xs => upTo xs.length i ((xs[i]?).map fun x => .tup [.int (i : Nat), x])
def itEn (a : SE) : SI := fun ρ => M.bind (a ρ) fun d m => match wlkOf m d with
  | some xs => .ok (wkEn d, xs.length) m
  | none => .bad
def wkZp (d e : D) : Wk := fun i m => (wlkOf m d).bind fun xs => (wlkOf m e).bind fun ys => upTo (min xs.length ys.length) i ((xs[i]?).bind fun x => (ys[i]?).map fun y => .tup [x, y])
def itZp (a b : SE) : SI := fun ρ => M.bind (a ρ) fun d => M.bind (b ρ) fun e m => match wlkOf m d, wlkOf m e with
  | some xs, some ys => .ok (wkZp d e, min xs.length ys.length) m
  | _, _ => .bad
/-- slices of texts -/
def cutZ (z : Str) (lo hi : Option Int) : Str := ⟨(cutD z.cps.toList lo hi).toArray⟩
def gSlS (x : D) (lo hi : Option Int) : Option D := match x with
  | .str z => if z.length ≤ sizeLine then some (.str (cutZ z lo hi)) else none
  | _ => none
def slcS (a : SE) (lo hi : SO) : SE := fun ρ => M.bind (a ρ) fun x => M.bind (lo ρ) fun l => M.bind (hi ρ) fun h => fun m => lift (gSlS x l h) m
/-- a target that unpacks a list -/
def gUl (is : List Nat) (m : Mem) (d : D) (ρ : Ev) : Option Ev := (lstOf m d).bind fun ds => gNms is ds ρ
def sAsgU (a : SE) (is : List Nat) : SS := fun ρ => M.bind (a ρ) fun d m => match gUl is m d ρ with
  | some ρ1 => .ok (.nx, ρ1) m
  | none => .bad
def chn (g g' : O2) (a b c : SE) : SE := fun ρ => M.bind (a ρ) fun x => M.bind (b ρ) fun y => M.bind (fun m => lift (g x y m) m) fun k => M.bind (asB k) fun t => if t = true then M.bind (c ρ) fun z => fun m => lift (g' y z m) m else M.pure (.bl false)
def capE (a : SA) (k : List D → M D) : SE := fun ρ => M.bind (a ρ) fun xs m => if xs.length ≤ 1000 then k xs m else .bad
def tpl (a : SA) : SE := capE a fun xs => M.pure (.tup xs)
def lsl (a : SA) : SE := capE a fun xs => M.pure (.lst xs)
def lsm (a : SA) : SE := capE a fun xs => alloc (.lst xs)
def sBad : SS := fun _ _ => .bad
def callN (np : Nat) (f : Fn) (a : SA) : SE := fun ρ => M.bind (a ρ) fun ds m => if ds.length = np then f ds m else .bad
def dctE : SE := fun _ => alloc (.dct [])
def sPar (i j : Nat) (a b : SE) : SS := fun ρ => M.bind (a ρ) fun x => M.bind (b ρ) fun y => M.pure (.nx, (ρ.set i (some x)).set j (some y))
def gNeg : O1 := fun d _ => match d with
  | .int i => some (.int (-i))
  | _ => none
def gRep : O2 := fun x y m => match y with
  | .int k => (lstOf m x).bind fun xs => if -(2 ^ 63) ≤ k ∧ k < 2 ^ 63 ∧ xs.length * k.toNat ≤ sizeLine then some (.lst (List.replicate k.toNat xs).flatten) else none
  | _ => none
def gRepT : O2 := fun x y _ => match x, y with
  | .tup xs, .int k => if xs ≠ [] ∧ 2 ≤ k ∧ k ≤ 1000 ∧ xs.length ≤ 1000 then some (.tup (List.replicate k.toNat xs).flatten) else none
  | _, _ => none
def op2M (g : O2) (a b : SE) : SE := fun ρ => M.bind (a ρ) fun x => M.bind (b ρ) fun y => M.bind (fun m => lift (g x y m) m) fun d => match d with
  | .lst ys => alloc (.lst ys)
  | _ => fun _ => .bad
/-! len(set(xs)) of ints, list(range(n)) -/
def ddup (ns : List Int) : List Int := ns.foldl (fun acc i => if acc.any (· == i) then acc else acc ++ [i]) []
def gLenSet : O1 := fun d m => (lstOf m d).bind fun xs => (intsOf xs).bind fun ns => if ns.length < 4000 then some (.int (ddup ns).length) else none
def gLRg : O1 := fun d _ => match d with
  | .int n => if -(2 ^ 62) ≤ n ∧ n ≤ 16777216 then some (.lst ((List.range (n - 0).toNat).map fun i => .int (0 + (i : Nat)))) else none
  | _ => none
/-! objects of one's own classes -/
def objOf (m : Mem) (c : Nat) : D → Option (List (Str × D))
  | .loc k => if k < m.n then (match m.get k with
    | some (.obj c2 fs) => if c2 = c then some fs else none
    | _ => none) else none
  | _ => none
def gFld (c : Nat) (f : Str) : O1 := fun d m => (objOf m c d).bind fun fs => fs.lookup f
def putFD (f : Str) (v : D) : List (Str × D) → List (Str × D)
  | [] => [(f, v)]
  | (g, x) :: r => if g = f then (g, v) :: r else (g, x) :: putFD f v r
def fputK (c : Nat) (f : Str) (v d : D) : M Unit := fun m => match d with
  | .loc k => (match objOf m c (.loc k) with
    | some fs => if fs.length < 1000 then .ok () (m.put k (.obj c (putFD f v fs))) else .bad
    | none => .bad)
  | _ => .bad
def sFput (c : Nat) (f : Str) (o e : SE) : SS := fun ρ => M.bind (e ρ) fun v => M.bind (o ρ) fun d => M.bind (fputK c f v d) fun _ => M.pure (.nx, ρ)
def chkO (c : Nat) (mt : Str) (d : D) : M Unit := fun m => match objOf m c d with
  | some fs => if (fs.lookup mt).isNone = true then .ok () m else .bad
  | none => .bad
def callM (c np : Nat) (mt : Str) (f : Fn) (o : SE) (a : SA) : SE := fun ρ => M.bind (o ρ) fun d => M.bind (chkO c mt d) fun _ => M.bind (a ρ) fun ds m => if ds.length + 1 = np then f (d :: ds) m else .bad
def mkK (k : Nat) (d : D) : M D := match d with
  | .non => M.pure (.loc k)
  | _ => fun _ => .bad
def mkE (c np : Nat) (f : Fn) (a : SA) : SE := fun ρ => M.bind (a ρ) fun ds m => if ds.length + 1 = np then M.bind (f (.loc m.n :: ds)) (mkK m.n) (m.new (.obj c [])) else .bad
end LB

set_option Elab.async false
set_option linter.all false
set_option autoImplicit false
set_option maxRecDepth 100000
set_option maxHeartbeats 2000000
/-! What the pure part says of the heap (Rep, SR), and the readings of pure functions (tX, tXT, tXA, tXS). -/
namespace LB
open PySem PySem.Spec PyProof.Rows L2

/-- what is fixed of the text: the written part, the classes' addresses by number, the names of errors' fields -/
structure Pm where
  K : PySem.W.Frag
  CA : Nat → Addr
  XN : Nat → Str

mutual
inductive Rep (K : PySem.W.Frag) (B : Hp) (A : Nat → Addr) (n : Nat) : V → D → Prop
  | non : Rep K B A n .non .non
  | bl (b : Bool) : Rep K B A n (.bl b) (.bl b)
  | int (i : Int) : Rep K B A n (.int i) (.int i)
  | str (x : Str) : Rep K B A n (.str x) (.str x)
  | tup {a : Addr} {vs : List V} {ds : List D} : SqT K B a vs → Reps K B A n vs ds → Rep K B A n (.ref a) (.tup ds)
  | lst {a : Addr} {vs : List V} {ds : List D} : B a = some (.lst vs) → Reps K B A n vs ds → Rep K B A n (.ref a) (.lst ds)
  | loc {k : Nat} {a : Addr} : k < n → A k = a → Rep K B A n (.ref a) (.loc k)
  | ref {a : Addr} : Rep K B A n (.ref a) (.ref a)
  | scr {a : Addr} {ns : List Int} : SqL K B a (ns.map V.int) → Rep K B A n (.ref a) (.scr ns)
inductive Reps (K : PySem.W.Frag) (B : Hp) (A : Nat → Addr) (n : Nat) : List V → List D → Prop
  | nil : Reps K B A n [] []
  | cons {v : V} {vs : List V} {d : D} {ds : List D} : Rep K B A n v d → Reps K B A n vs ds → Reps K B A n (v :: vs) (d :: ds)
end
def Ex (H H' : Hp) : Prop := ∀ a o, H a = some o → H' a = some o
theorem Ex.refl (H : Hp) : Ex H H := fun _ _ h => h
theorem Ex.trans {H H1 H2 : Hp} (a : Ex H H1) (b : Ex H1 H2) : Ex H H2 := fun x o h => b x o (a x o h)
theorem Ex.new {H : Hp} {p : Addr} {o : HO} (h : H p = none) : Ex H (upd H p o) := fun a u e => by
  rw [upd_ne (ne_of_none e h)]
  exact e
theorem Ex.mut {H H' : Hp} {p : Addr} {o : HO} (e : Ex H H') (h : H p = none) : Ex H (upd H' p o) := fun a u ha => by
  rw [upd_ne (ne_of_none ha h)]
  exact e a u ha
theorem Ex.t {K : PySem.W.Frag} {H H' : Hp} {a : Addr} {xs : List V} (e : Ex H H') (h : SqT K H a xs) : SqT K H' a xs := by
  rcases h with (h | ⟨o, h⟩) | h
  · exact Or.inl (Or.inl (e a _ h))
  · exact Or.inl (Or.inr ⟨o, e a _ h⟩)
  · exact Or.inr h
theorem Ex.l {K : PySem.W.Frag} {H H' : Hp} {a : Addr} {xs : List V} (e : Ex H H') (h : SqL K H a xs) : SqL K H' a xs := by
  rcases h with (h | ⟨o, h⟩) | h
  · exact Or.inl (Or.inl (e a _ h))
  · exact Or.inl (Or.inr ⟨o, e a _ h⟩)
  · exact Or.inr h
theorem Ex.back {H H' : Hp} {p : Addr} (e : Ex H H') (h : H' p = none) : H p = none := by
  cases h1 : H p with
  | none => rfl
  | some o =>
    rw [e p o h1] at h
    cases h
/-- the worlds grow -/
structure Le (B : Hp) (A : Nat → Addr) (n : Nat) (B' : Hp) (A' : Nat → Addr) (n' : Nat) : Prop where
  ex : Ex B B'
  nn : n ≤ n'
  aa : ∀ k, k < n → A' k = A k
theorem Le.refl {B : Hp} {A : Nat → Addr} {n : Nat} : Le B A n B A n := ⟨Ex.refl B, Nat.le_refl _, fun _ _ => rfl⟩
theorem Le.trans {B B1 B2 : Hp} {A A1 A2 : Nat → Addr} {n n1 n2 : Nat} (a : Le B A n B1 A1 n1) (b : Le B1 A1 n1 B2 A2 n2) : Le B A n B2 A2 n2 :=
  ⟨a.ex.trans b.ex, Nat.le_trans a.nn b.nn, fun k h => (b.aa k (Nat.lt_of_lt_of_le h a.nn)).trans (a.aa k h)⟩
theorem Le.base {B B' : Hp} {A : Nat → Addr} {n : Nat} (e : Ex B B') : Le B A n B' A n := ⟨e, Nat.le_refl _, fun _ _ => rfl⟩
section
variable {K : PySem.W.Frag} {B B' : Hp} {A A' : Nat → Addr} {n n' : Nat}
mutual
theorem Rep.mono (l : Le B A n B' A' n') : ∀ {v : V} {d : D}, Rep K B A n v d → Rep K B' A' n' v d
  | _, _, .non => .non
  | _, _, .bl b => .bl b
  | _, _, .int i => .int i
  | _, _, .str x => .str x
  | _, _, .tup h r => .tup (l.ex.t h) (Reps.mono l r)
  | _, _, .lst h r => .lst (l.ex _ _ h) (Reps.mono l r)
  | _, _, .loc h e => .loc (Nat.lt_of_lt_of_le h l.nn) ((l.aa _ h).trans e)
  | _, _, .ref => .ref
  | _, _, .scr h => .scr (l.ex.l h)
theorem Reps.mono (l : Le B A n B' A' n') : ∀ {vs : List V} {ds : List D}, Reps K B A n vs ds → Reps K B' A' n' vs ds
  | _, _, .nil => .nil
  | _, _, .cons r t => .cons (Rep.mono l r) (Reps.mono l t)
end
theorem Reps.length : ∀ {vs : List V} {ds : List D}, Reps K B A n vs ds → vs.length = ds.length
  | _, _, .nil => rfl
  | _, _, .cons _ t => by rw [List.length_cons, List.length_cons, Reps.length t]
theorem Reps.append : ∀ {vs ws : List V} {ds es : List D}, Reps K B A n vs ds → Reps K B A n ws es → Reps K B A n (vs ++ ws) (ds ++ es)
  | _, _, _, _, .nil, s => s
  | _, _, _, _, .cons r t, s => .cons r (Reps.append t s)
theorem Reps.take : ∀ {vs : List V} {ds : List D} (i : Nat), Reps K B A n vs ds → Reps K B A n (vs.take i) (ds.take i)
  | _, _, 0, _ => .nil
  | _, _, _ + 1, .nil => .nil
  | _, _, i + 1, .cons r t => .cons r (Reps.take i t)
theorem Reps.drop : ∀ {vs : List V} {ds : List D} (i : Nat), Reps K B A n vs ds → Reps K B A n (vs.drop i) (ds.drop i)
  | _, _, 0, r => r
  | _, _, _ + 1, .nil => .nil
  | _, _, i + 1, .cons _ t => Reps.drop i t
theorem Reps.get : ∀ {vs : List V} {ds : List D} {i : Nat} {d : D}, Reps K B A n vs ds → ds[i]? = some d → ∃ v, vs[i]? = some v ∧ Rep K B A n v d
  | _, _, _, _, .nil, h => by simp at h
  | _, _, 0, _, .cons (v := v) r _, h => by
    simp only [List.getElem?_cons_zero, Option.some.injEq] at h
    subst h
    exact ⟨v, rfl, r⟩
  | _, _, i + 1, _, .cons _ t, h => by
    obtain ⟨v, e, r⟩ := Reps.get (i := i) t (by simpa using h)
    exact ⟨v, by simpa using e, r⟩
theorem Reps.getV : ∀ {vs : List V} {ds : List D} {i : Nat} {v : V}, Reps K B A n vs ds → vs[i]? = some v → ∃ d, ds[i]? = some d ∧ Rep K B A n v d
  | _, _, _, _, .nil, h => by simp at h
  | _, _, 0, _, .cons (d := d) r _, h => by
    simp only [List.getElem?_cons_zero, Option.some.injEq] at h
    subst h
    exact ⟨d, rfl, r⟩
  | _, _, i + 1, _, .cons _ t, h => by
    obtain ⟨v, e, r⟩ := Reps.getV (i := i) t (by simpa using h)
    exact ⟨v, by simpa using e, r⟩
theorem Reps.set {v : V} {d : D} (r : Rep K B A n v d) : ∀ {vs : List V} {ds : List D} (i : Nat), Reps K B A n vs ds → Reps K B A n (vs.set i v) (ds.set i d)
  | _, _, _, .nil => .nil
  | _, _, 0, .cons _ t => .cons r t
  | _, _, i + 1, .cons q t => .cons q (Reps.set r i t)
theorem Reps.reverse {vs : List V} {ds : List D} (r : Reps K B A n vs ds) : Reps K B A n vs.reverse ds.reverse := by
  induction r using Reps.rec (motive_1 := fun _ _ _ => True) with
  | non => trivial
  | bl => trivial
  | int => trivial
  | str => trivial
  | tup => trivial
  | lst => trivial
  | loc => trivial
  | ref => trivial
  | scr => trivial
  | nil => exact .nil
  | cons r t _ ih =>
    rw [List.reverse_cons, List.reverse_cons]
    exact Reps.append ih (.cons r .nil)
theorem Reps.none_of {vs : List V} {ds : List D} {i : Nat} (r : Reps K B A n vs ds) (h : ds[i]? = none) : vs[i]? = none := by
  have h1 := r.length
  have h2 := List.getElem?_eq_none_iff.mp h
  exact List.getElem?_eq_none_iff.mpr (by omega)
end

/-! ### the store, the slots -/
inductive RepO (P : Pm) (B : Hp) (A : Nat → Addr) (n : Nat) (H : Hp) (a : Addr) : MO → Prop
  | lst {vs : List V} {ds : List D} : H a = some (.lst vs) → Reps P.K B A n vs ds → RepO P B A n H a (.lst ds)
  | dct {kvs : List (Key × V)} {kds : List (Key × D)} : H a = some (.dK kvs) → Paired (fun (p : Key × V) (q : Key × D) => p.1 = q.1 ∧ Rep P.K B A n p.2 q.2) kvs kds → RepO P B A n H a (.dct kds)
  | obj {c : Nat} {dx : Addr} {fs : List (Str × V)} {fds : List (Str × D)} : H a = some (.ins (P.CA c) dx fs) → Paired (fun (p : Str × V) (q : Str × D) => p.1 = q.1 ∧ Rep P.K B A n p.2 q.2) fs fds → RepO P B A n H a (.obj c fds)
theorem RepO.at {P : Pm} {B : Hp} {A : Nat → Addr} {n : Nat} {H : Hp} {a : Addr} {o : MO} (r : RepO P B A n H a o) : ∃ u, H a = some u := by
  cases r with
  | lst h _ => exact ⟨_, h⟩
  | dct h _ => exact ⟨_, h⟩
  | obj h _ => exact ⟨_, h⟩
theorem RepO.mono {P : Pm} {B B' : Hp} {A A' : Nat → Addr} {n n' : Nat} {H H' : Hp} {a : Addr} {o : MO} (l : Le B A n B' A' n') (e : ∀ u, H a = some u → H' a = some u) (r : RepO P B A n H a o) : RepO P B' A' n' H' a o := by
  cases r with
  | lst h r => exact .lst (e _ h) (r.mono l)
  | dct h r => exact .dct (e _ h) (L2.Paired.mapP r fun _ _ q => ⟨q.1, q.2.mono l⟩)
  | obj h r => exact .obj (e _ h) (L2.Paired.mapP r fun _ _ q => ⟨q.1, q.2.mono l⟩)
structure SR (P : Pm) (F B : Hp) (A : Nat → Addr) (m : Mem) (H : Hp) : Prop where
  ex : Ex B H
  fr : ∀ a o, F a = some o → H a = some o ∧ B a = none ∧ ∀ k u, k < m.n → m.get k = some u → A k ≠ a
  at_ : ∀ k o, k < m.n → m.get k = some o → B (A k) = none ∧ RepO P B A m.n H (A k) o
  inj : ∀ j k o u, j < m.n → k < m.n → m.get j = some o → m.get k = some u → A j = A k → j = k
section
variable {P : Pm} {F B B' : Hp} {A A' : Nat → Addr} {m m' : Mem} {H H' : Hp}
/-- the heap grows -/
theorem SR.grow (s : SR P F B A m H) (e : Ex H H') : SR P F B A m H' := ⟨s.ex.trans e, fun a o h => ⟨e _ _ (s.fr a o h).1, (s.fr a o h).2⟩, fun k o hk ho => ⟨(s.at_ k o hk ho).1, (s.at_ k o hk ho).2.mono Le.refl fun u hu => e _ _ hu⟩, s.inj⟩
/-- a new thing that will not change -/
theorem SR.frozen {p : Addr} {o : HO} (s : SR P F B A m H) (h : H p = none) : SR P F (upd B p o) A m (upd H p o) := by
  have hb : B p = none := s.ex.back h
  refine ⟨fun a u e => ?_, fun a u e => ?_, fun k u hk hu => ?_, s.inj⟩
  · by_cases ha : a = p
    · rw [ha, upd_same] at e ⊢
      exact e
    · rw [upd_ne ha] at e ⊢
      exact s.ex a u e
  · obtain ⟨h1, h2, h3⟩ := s.fr a u e
    have ne : a ≠ p := ne_of_none h1 h
    exact ⟨by rw [upd_ne ne]; exact h1, by rw [upd_ne ne]; exact h2, h3⟩
  · obtain ⟨h1, h2⟩ := s.at_ k u hk hu
    obtain ⟨w, hw⟩ := h2.at
    have ne : A k ≠ p := ne_of_none hw h
    exact ⟨by rw [upd_ne ne]; exact h1, h2.mono (Le.base (Ex.new hb)) fun x hx => by rw [upd_ne ne]; exact hx⟩
theorem SR.frozenEx {p : Addr} {o : HO} (s : SR P F B A m H) (h : H p = none) : Ex B (upd B p o) := Ex.new (s.ex.back h)
/-- A with one more -/
def cons1 (A : Nat → Addr) (n : Nat) (p : Addr) : Nat → Addr := fun k => if k = n then p else A k
theorem cons1_at {A : Nat → Addr} {n : Nat} {p : Addr} : cons1 A n p n = p := by unfold cons1; rw [if_pos rfl]
theorem cons1_ne {A : Nat → Addr} {n k : Nat} {p : Addr} (h : k < n) : cons1 A n p k = A k := by unfold cons1; rw [if_neg (Nat.ne_of_lt h)]
theorem SR.leNew (s : SR P F B A m H) (p : Addr) (o : MO) : Le B A m.n B (cons1 A m.n p) (m.new o).n := ⟨Ex.refl B, Nat.le_succ _, fun _ h => cons1_ne h⟩
/-- a new thing that may change -/
theorem SR.new {p : Addr} {o : MO} {u : HO} (s : SR P F B A m H) (h : H p = none) (r : RepO P B (cons1 A m.n p) (m.n + 1) (upd H p u) p o) : SR P F B (cons1 A m.n p) (m.new o) (upd H p u) := by
  have hb : B p = none := s.ex.back h
  have live : ∀ k w, k < m.n → m.get k = some w → A k ≠ p := fun k w hk hw => by
    obtain ⟨x, hx⟩ := (s.at_ k w hk hw).2.at
    exact ne_of_none hx h
  refine ⟨s.ex.mut hb, fun a w e => ?_, fun k w hk hw => ?_, fun j k w x hj hk hw hx e => ?_⟩
  · obtain ⟨h1, h2, h3⟩ := s.fr a w e
    have ne : a ≠ p := ne_of_none h1 h
    refine ⟨by rw [upd_ne ne]; exact h1, h2, fun k x hk hx => ?_⟩
    by_cases ek : k = m.n
    · rw [ek, cons1_at]
      exact Ne.symm ne
    · have hk' : k < m.n := by
        have : k < m.n + 1 := hk
        omega
      have q : (m.new o).get k = m.get k := by
        show (if k = m.n then some o else m.get k) = m.get k
        rw [if_neg ek]
      rw [q] at hx
      rw [cons1_ne hk']
      exact h3 k x hk' hx
  · by_cases e : k = m.n
    · have q : (m.new o).get k = some o := by
        show (if k = m.n then some o else m.get k) = some o
        rw [if_pos e]
      rw [q] at hw
      cases hw
      rw [e, cons1_at]
      exact ⟨hb, r⟩
    · have hk' : k < m.n := by
        have : k < m.n + 1 := hk
        omega
      have q : (m.new o).get k = m.get k := by
        show (if k = m.n then some o else m.get k) = m.get k
        rw [if_neg e]
      rw [q] at hw
      rw [cons1_ne hk']
      obtain ⟨h1, h2⟩ := s.at_ k w hk' hw
      exact ⟨h1, h2.mono (s.leNew p o) fun x hx => by rw [upd_ne (live k w hk' hw)]; exact hx⟩
  · have get : ∀ i, i ≠ m.n → (m.new o).get i = m.get i := fun i hi => by
      show (if i = m.n then some o else m.get i) = m.get i
      rw [if_neg hi]
    have hj' : j < m.n + 1 := hj
    have hk' : k < m.n + 1 := hk
    by_cases ej : j = m.n
    · by_cases ek : k = m.n
      · rw [ej, ek]
      · rw [get k ek] at hx
        rw [ej, cons1_at, cons1_ne (by omega)] at e
        exact absurd e.symm (live k x (by omega) hx)
    · rw [get j ej] at hw
      by_cases ek : k = m.n
      · rw [ek, cons1_at, cons1_ne (by omega)] at e
        exact absurd e (live j w (by omega) hw)
      · rw [get k ek] at hx
        rw [cons1_ne (by omega), cons1_ne (by omega)] at e
        exact s.inj j k w x (by omega) (by omega) hw hx e
/-- a thing is changed -/
theorem SR.put {k : Nat} {o o' : MO} {u : HO} (s : SR P F B A m H) (hk : k < m.n) (h : m.get k = some o) (r : RepO P B A m.n (upd H (A k) u) (A k) o') : SR P F B A (m.put k o') (upd H (A k) u) := by
  have hb := (s.at_ k o hk h).1
  refine ⟨s.ex.mut hb, fun a w e => ?_, fun j w hj hw => ?_, fun i j w x hi hj hw hx e => ?_⟩
  · obtain ⟨h1, h2, h3⟩ := s.fr a w e
    have ne : a ≠ A k := Ne.symm (h3 k o hk h)
    refine ⟨by rw [upd_ne ne]; exact h1, h2, fun j x hj hx => ?_⟩
    by_cases ej : j = k
    · rw [ej]
      exact Ne.symm ne
    · have q : (m.put k o').get j = m.get j := by
        show (if j = k then some o' else m.get j) = m.get j
        rw [if_neg ej]
      rw [q] at hx
      exact h3 j x hj hx
  · by_cases e : j = k
    · have q : (m.put k o').get j = some o' := by
        show (if j = k then some o' else m.get j) = some o'
        rw [if_pos e]
      rw [q] at hw
      cases hw
      rw [e]
      exact ⟨hb, r⟩
    · have q : (m.put k o').get j = m.get j := by
        show (if j = k then some o' else m.get j) = m.get j
        rw [if_neg e]
      rw [q] at hw
      obtain ⟨h1, h2⟩ := s.at_ j w hj hw
      have ne : A j ≠ A k := fun z => e (s.inj j k w o hj hk hw h z)
      exact ⟨h1, h2.mono Le.refl fun x hx => by rw [upd_ne ne]; exact hx⟩
  · have some_of : ∀ i w, (m.put k o').get i = some w → ∃ w', m.get i = some w' := fun i w hw => by
      by_cases e : i = k
      · rw [e]
        exact ⟨o, h⟩
      · have q : (m.put k o').get i = m.get i := by
          show (if i = k then some o' else m.get i) = m.get i
          rw [if_neg e]
        rw [q] at hw
        exact ⟨w, hw⟩
    obtain ⟨w', hw'⟩ := some_of i w hw
    obtain ⟨x', hx'⟩ := some_of j x hx
    exact s.inj i j w' x' hi hj hw' hx' e
/-- less is known of the store -/
theorem SR.weak {m1 : Mem} (s : SR P F B A m H) (hn : m.n = m1.n) (h : ∀ k, k < m1.n → m1.get k = m.get k ∨ m1.get k = none) : SR P F B A m1 H := by
  have some_of : ∀ i w, i < m1.n → m1.get i = some w → m.get i = some w := fun i w hi hw => by
    rcases h i hi with e | e
    · rw [← e]
      exact hw
    · rw [e] at hw
      cases hw
  exact ⟨s.ex, fun a o e => ⟨(s.fr a o e).1, (s.fr a o e).2.1, fun k u hk hu => (s.fr a o e).2.2 k u (by omega) (some_of k u hk hu)⟩, fun k o hk ho => by
    have q := s.at_ k o (by omega) (some_of k o hk ho)
    rw [hn] at q
    exact q, fun i j w x hi hj hw hx e => s.inj i j w x (by omega) (by omega) (some_of i w hi hw) (some_of j x hj hx) e⟩
/-- a list may change no more -/
theorem SR.freeze {k : Nat} {ds : List D} (s : SR P F B A m H) (hk : k < m.n) (h : m.get k = some (.lst ds)) : ∃ vs, H (A k) = some (.lst vs) ∧ SR P F (upd B (A k) (.lst vs)) A (m.kill k) H ∧ Ex B (upd B (A k) (.lst vs)) ∧ Reps P.K B A m.n vs ds := by
  obtain ⟨hb, r⟩ := s.at_ k _ hk h
  cases r with
  | lst hv rv =>
    refine ⟨_, hv, ⟨fun a u e => ?_, fun a u e => ?_, fun j w hj hw => ?_, fun i j w x hi hj hw hx e => ?_⟩, Ex.new hb, rv⟩
    · by_cases ha : a = A k
      · rw [ha, upd_same] at e
        cases e
        rw [ha]
        exact hv
      · rw [upd_ne ha] at e
        exact s.ex a u e
    · obtain ⟨h1, h2, h3⟩ := s.fr a u e
      refine ⟨h1, by rw [upd_ne (Ne.symm (h3 k _ hk h))]; exact h2, fun j x hj hx => ?_⟩
      have hx' : (if j = k then Option.none else m.get j) = some x := hx
      by_cases ej : j = k
      · rw [if_pos ej] at hx'
        cases hx'
      · rw [if_neg ej] at hx'
        exact h3 j x hj hx'
    · have hw' : (if j = k then Option.none else m.get j) = some w := hw
      by_cases e : j = k
      · rw [if_pos e] at hw'
        cases hw'
      · rw [if_neg e] at hw'
        obtain ⟨h1, h2⟩ := s.at_ j w hj hw'
        have ne : A j ≠ A k := fun z => e (s.inj j k w _ hj hk hw' h z)
        exact ⟨by rw [upd_ne ne]; exact h1, h2.mono (Le.base (Ex.new hb)) fun _ q => q⟩
    · have hw' : (if i = k then Option.none else m.get i) = some w := hw
      have hx' : (if j = k then Option.none else m.get j) = some x := hx
      by_cases e1 : i = k
      · rw [if_pos e1] at hw'
        cases hw'
      · by_cases e2 : j = k
        · rw [if_pos e2] at hx'
          cases hx'
        · rw [if_neg e1] at hw'
          rw [if_neg e2] at hx'
          exact s.inj i j w x hi hj hw' hx' e
end
/-- the slots -/
structure EnvR (K : PySem.W.Frag) (B : Hp) (A : Nat → Addr) (n : Nat) (σ : L2.St) (ρ : Ev) : Prop where
  len : σ.length = ρ.length
  at_ : ∀ (i : Nat) (d : D), ρ[i]? = some (some d) → ∃ v, σ[i]? = some (some v) ∧ Rep K B A n v d
section
variable {K : PySem.W.Frag} {B B' : Hp} {A A' : Nat → Addr} {n n' : Nat} {σ : L2.St} {ρ : Ev}
theorem EnvR.mono (l : Le B A n B' A' n') (e : EnvR K B A n σ ρ) : EnvR K B' A' n' σ ρ := ⟨e.len, fun i d h => let ⟨v, h1, h2⟩ := e.at_ i d h; ⟨v, h1, h2.mono l⟩⟩
theorem EnvR.set {v : V} {d : D} (e : EnvR K B A n σ ρ) (r : Rep K B A n v d) (i : Nat) : EnvR K B A n (σ.set i (some v)) (ρ.set i (some d)) := by
  refine ⟨by rw [List.length_set, List.length_set, e.len], fun j x h => ?_⟩
  by_cases hj : j = i
  · subst hj
    have hl : j < ρ.length := by
      have := (List.getElem?_eq_some_iff.mp h).1
      rw [List.length_set] at this
      exact this
    rw [List.getElem?_set_self hl] at h
    cases h
    exact ⟨v, by rw [List.getElem?_set_self (by rw [e.len]; exact hl)], r⟩
  · rw [List.getElem?_set_ne (Ne.symm hj)] at h ⊢
    exact e.at_ j x h
theorem EnvR.setNone (e : EnvR K B A n σ ρ) (i : Nat) : EnvR K B A n (σ.set i none) (ρ.set i none) := by
  refine ⟨by rw [List.length_set, List.length_set, e.len], fun j x h => ?_⟩
  by_cases hj : j = i
  · subst hj
    have hl : j < ρ.length := by
      have := (List.getElem?_eq_some_iff.mp h).1
      rw [List.length_set] at this
      exact this
    rw [List.getElem?_set_self hl] at h
    cases h
  · rw [List.getElem?_set_ne (Ne.symm hj)] at h ⊢
    exact e.at_ j x h
theorem EnvR.wipe (e : EnvR K B A n σ ρ) : ∀ vs : List Nat, EnvR K B A n (L2.wipe σ vs) (wipeE ρ vs)
  | [] => e
  | v :: vs => by
    show EnvR K B A n ((L2.wipe σ vs).set v none) ((wipeE ρ vs).set v none)
    exact (EnvR.wipe e vs).setNone v
theorem EnvR.start {vs : List V} {ds : List D} {N : List Str} (r : Reps K B A n vs ds) : EnvR K B A n (L2.start N vs) (LB.start N.length ds) := by
  have hl := r.length
  refine ⟨by simp [L2.start, LB.start, hl], fun i d h => ?_⟩
  unfold LB.start at h
  unfold L2.start
  rw [List.getElem?_append] at h ⊢
  rw [List.length_map] at h ⊢
  by_cases hi : i < ds.length
  · rw [if_pos hi, List.getElem?_map] at h
    rw [if_pos (by rw [hl]; exact hi), List.getElem?_map]
    cases hd : ds[i]? with
    | none => rw [hd] at h; cases h
    | some d' =>
      rw [hd] at h
      simp only [Option.map_some, Option.some.injEq] at h
      subst h
      obtain ⟨v, hv, rv⟩ := r.get hd
      exact ⟨v, by rw [hv]; rfl, rv⟩
  · rw [if_neg hi] at h
    have := List.mem_of_getElem? h
    rw [List.mem_replicate] at this
    exact absurd this.2 (by simp)
end

/-! ### the readings -/
def RepX (P : Pm) (B : Hp) (A : Nat → Addr) (n : Nat) (H : Hp) (e : Er) (c : Value) (dd : Option Addr) : Prop :=
  c = .ref (P.CA e.cls) ∧ match e.fld with
    | none => True
    | some d => ∃ a v, dd = some a ∧ H a = some (.xd [(P.XN e.cls, v)]) ∧ Rep P.K B A n v d
section
variable (P : Pm) (E : XK)
def exV (F B : Hp) (A : Nat → Addr) (n : Nat) : Er → Mem → Prop := fun e m' => ∀ B' A' H' c dd, Le B A n B' A' m'.n → SR P F B' A' m' H' → RepX P B' A' m'.n H' e c dd → E c dd H'
def okD (F B : Hp) (A : Nat → Addr) (n : Nat) (Q : VK) : D → Mem → Prop := fun d m' => ∀ B' A' H' v, Le B A n B' A' m'.n → SR P F B' A' m' H' → Rep P.K B' A' m'.n v d → Q v H'
def okT (F B : Hp) (A : Nat → Addr) (n : Nat) (Q : Bool → Hp → Prop) : Bool → Mem → Prop := fun b m' => ∀ B' A' H', Le B A n B' A' m'.n → SR P F B' A' m' H' → Q b H'
def okA (F B : Hp) (A : Nat → Addr) (n : Nat) (Q : List V → Hp → Prop) : List D → Mem → Prop := fun ds m' => ∀ B' A' H' vs, Le B A n B' A' m'.n → SR P F B' A' m' H' → Reps P.K B' A' m'.n vs ds → Q vs H'
def okS (F B : Hp) (A : Nat → Addr) (n : Nat) (D : Ends) : Fl × Ev → Mem → Prop := fun r m' => ∀ B' A' H' σ', Le B A n B' A' m'.n → SR P F B' A' m' H' → EnvR P.K B' A' m'.n σ' r.2 →
  match r.1 with
    | .nx => D.nx σ' H'
    | .bk => D.bk σ' H'
    | .ct => D.ct σ' H'
    | .rt d => ∀ v, Rep P.K B' A' m'.n v d → D.rt v H'
def tX (f : SE) : TE := fun σ H Q => ∃ F B A ρ m, SR P F B A m H ∧ EnvR P.K B A m.n σ ρ ∧ (f ρ m).wp (okD P F B A m.n Q) (exV P E F B A m.n)
def tXT (f : SB) : TT := fun σ H Q => ∃ F B A ρ m, SR P F B A m H ∧ EnvR P.K B A m.n σ ρ ∧ (f ρ m).wp (okT P F B A m.n Q) (exV P E F B A m.n)
def tXA (f : SA) : TA := fun σ H Q => ∃ F B A ρ m, SR P F B A m H ∧ EnvR P.K B A m.n σ ρ ∧ (f ρ m).wp (okA P F B A m.n Q) (exV P E F B A m.n)
def tXS (f : SS) : TS := fun D σ H => ∃ F B A ρ m, SR P F B A m H ∧ EnvR P.K B A m.n σ ρ ∧ (f ρ m).wp (okS P F B A m.n D) (exV P E F B A m.n)
end
section
variable {P : Pm} {E : XK} {F B B' : Hp} {A A' : Nat → Addr} {n n' : Nat}
theorem exV.le {e : Er} {m : Mem} (l : Le B A n B' A' n') (h : exV P E F B A n e m) : exV P E F B' A' n' e m := fun B2 A2 H2 c dd l2 => h B2 A2 H2 c dd (l.trans l2)
theorem okD.le {Q : VK} {d : D} {m : Mem} (l : Le B A n B' A' n') (h : okD P F B A n Q d m) : okD P F B' A' n' Q d m := fun B2 A2 H2 v l2 => h B2 A2 H2 v (l.trans l2)
theorem okT.le {Q : Bool → Hp → Prop} {d : Bool} {m : Mem} (l : Le B A n B' A' n') (h : okT P F B A n Q d m) : okT P F B' A' n' Q d m := fun B2 A2 H2 l2 => h B2 A2 H2 (l.trans l2)
theorem okA.le {Q : List V → Hp → Prop} {d : List D} {m : Mem} (l : Le B A n B' A' n') (h : okA P F B A n Q d m) : okA P F B' A' n' Q d m := fun B2 A2 H2 v l2 => h B2 A2 H2 v (l.trans l2)
theorem okS.le {Q : Ends} {r : Fl × Ev} {m : Mem} (l : Le B A n B' A' n') (h : okS P F B A n Q r m) : okS P F B' A' n' Q r m := fun B2 A2 H2 v l2 => h B2 A2 H2 v (l.trans l2)
end

/-! ### weakening the judgements -/
theorem pe_imp {X : Cx} {e : Expr} {t t' : TE} (h : PE X e t) (i : ∀ σ H Q, t' σ H Q → t σ H Q) : PE X e t' := ⟨fun pins s σ H Q I w => h.run pins s σ H Q I (i σ H Q w)⟩
theorem pt_imp {X : Cx} {e : Expr} {t t' : TT} (h : PT X e t) (i : ∀ σ H Q, t' σ H Q → t σ H Q) : PT X e t' := ⟨fun pins s σ H Q I w => h.run pins s σ H Q I (i σ H Q w)⟩
theorem pw_imp {X : Cx} {e : Expr} {t t' : TT} (h : PW X e t) (i : ∀ σ H Q, t' σ H Q → t σ H Q) : PW X e t' := ⟨fun wh pins s σ H Q I w => h.run wh pins s σ H Q I (i σ H Q w)⟩
theorem pa_imp {X : Cx} {e : List Expr} {t t' : TA} (h : PA X e t) (i : ∀ σ H Q, t' σ H Q → t σ H Q) : PA X e t' := ⟨fun pos pins s σ H Q I w => h.run pos pins s σ H Q I (i σ H Q w)⟩
theorem ps_imp {X : Cx} {e : Stmt} {t t' : TS} (h : PS X e t) (i : ∀ D σ H, t' D σ H → t D σ H) : PS X e t' := ⟨fun pins s σ H D I w => h.run pins s σ H D I (i D σ H w)⟩
theorem pss_imp {X : Cx} {e : List Stmt} {t t' : TS} (h : PSs X e t) (i : ∀ D σ H, t' D σ H → t D σ H) : PSs X e t' := ⟨fun pins s σ H D I w => h.run pins s σ H D I (i D σ H w)⟩
theorem pi_imp {X : Cx} {tg e : Expr} {t t' : TI} (h : PI X tg e t) (i : ∀ σ H R, t' σ H R → t σ H R) : PI X tg e t' := ⟨fun pins s σ H R I w => h.run pins s σ H R I (i σ H R w)⟩
end LB

set_option Elab.async false
set_option linter.all false
set_option autoImplicit false
set_option maxRecDepth 100000
set_option maxHeartbeats 2000000
/-! Readings of pure functions, construct by construct: expressions, tests, arguments, statements, loops, comprehensions. -/
namespace LB
open PySem PySem.Spec PyProof.Rows L2

section
variable {P : Pm} {E : XK} {F B : Hp} {A : Nat → Addr} {n : Nat}
theorem lift_wp {α : Type} {o : Option α} {m : Mem} {q : α → Mem → Prop} {e : Er → Mem → Prop} (h : (lift o m).wp q e) : ∃ x, o = some x ∧ q x m := by
  cases o with
  | none => exact h.elim
  | some x => exact ⟨x, rfl, h⟩
/-- a run, its value used -/
theorem tX_go {f : SE} {σ : L2.St} {H : Hp} {Q : VK} {F B : Hp} {A : Nat → Addr} {ρ : Ev} {m : Mem} (s : SR P F B A m H) (e : EnvR P.K B A m.n σ ρ) {q : D → Mem → Prop} (h : (f ρ m).wp q (exV P E F B A m.n))
    (k : ∀ d m1 B1 A1 H1 v, q d m1 → Le B A m.n B1 A1 m1.n → SR P F B1 A1 m1 H1 → Rep P.K B1 A1 m1.n v d → Q v H1) : tX P E f σ H Q :=
  ⟨F, B, A, ρ, m, s, e, Rs.wp_mono h (fun d m1 hq B1 A1 H1 v l s1 r => k d m1 B1 A1 H1 v hq l s1 r) fun _ _ x => x⟩
theorem tXT_go {f : SB} {σ : L2.St} {H : Hp} {Q : Bool → Hp → Prop} {F B : Hp} {A : Nat → Addr} {ρ : Ev} {m : Mem} (s : SR P F B A m H) (e : EnvR P.K B A m.n σ ρ) {q : Bool → Mem → Prop} (h : (f ρ m).wp q (exV P E F B A m.n))
    (k : ∀ d m1 B1 A1 H1, q d m1 → Le B A m.n B1 A1 m1.n → SR P F B1 A1 m1 H1 → Q d H1) : tXT P E f σ H Q :=
  ⟨F, B, A, ρ, m, s, e, Rs.wp_mono h (fun d m1 hq B1 A1 H1 l s1 => k d m1 B1 A1 H1 hq l s1) fun _ _ x => x⟩
theorem tXA_go {f : SA} {σ : L2.St} {H : Hp} {Q : List V → Hp → Prop} {F B : Hp} {A : Nat → Addr} {ρ : Ev} {m : Mem} (s : SR P F B A m H) (e : EnvR P.K B A m.n σ ρ) {q : List D → Mem → Prop} (h : (f ρ m).wp q (exV P E F B A m.n))
    (k : ∀ d m1 B1 A1 H1 v, q d m1 → Le B A m.n B1 A1 m1.n → SR P F B1 A1 m1 H1 → Reps P.K B1 A1 m1.n v d → Q v H1) : tXA P E f σ H Q :=
  ⟨F, B, A, ρ, m, s, e, Rs.wp_mono h (fun d m1 hq B1 A1 H1 v l s1 r => k d m1 B1 A1 H1 v hq l s1 r) fun _ _ x => x⟩
theorem tXS_go {f : SS} {σ : L2.St} {H : Hp} {D : Ends} {F B : Hp} {A : Nat → Addr} {ρ : Ev} {m : Mem} (s : SR P F B A m H) (e : EnvR P.K B A m.n σ ρ) {q : Fl × Ev → Mem → Prop} (h : (f ρ m).wp q (exV P E F B A m.n))
    (k : ∀ r m1, q r m1 → okS P F B A m.n D r m1) : tXS P E f D σ H :=
  ⟨F, B, A, ρ, m, s, e, Rs.wp_mono h (fun r m1 hq => k r m1 hq) fun _ _ x => x⟩
theorem wp_le {α : Type} {r : Rs α} {q : α → Mem → Prop} {B' : Hp} {A' : Nat → Addr} {n' : Nat} (l : Le B A n B' A' n') (h : r.wp q (exV P E F B A n)) : r.wp q (exV P E F B' A' n') := Rs.wp_mono h (fun _ _ x => x) fun _ _ x => x.le l
end

section
variable {X : Cx} {P : Pm} {E : XK} {pos : Pos}
/-! ### expressions -/
theorem xe_vr (i : Nat) {x : Str} (hN : X.N[i]? = some x := by rfl) (hv : Vis X.env.scope x := by first | exact Or.inl rfl | exact Or.inr (Or.inl rfl) | exact Or.inr (Or.inr rfl)) (hd : (x == ("__debug__" : Str)) = false := by decide)
    (hcd : (x == ("__classdict__" : Str)) = false := by decide) : PE X (.Name x pos) (tX P E (vr i)) := by
  refine pe_imp (pe_var hN hv hd hcd) fun σ H Q ⟨F, B, A, ρ, m, s, e, h⟩ => ?_
  unfold vr at h
  split at h
  · rename_i d hd'
    obtain ⟨v, hv', r⟩ := e.at_ i d hd'
    exact ⟨v, hv', h B A H v Le.refl s r⟩
  · exact h.elim
theorem xe_c {e : Expr} {v : V} {d : D} (h : PE X e (tC v)) (r : ∀ B A n, Rep P.K B A n v d) : PE X e (tX P E (cn d)) :=
  pe_imp h fun σ H Q ⟨F, B, A, ρ, m, s, e, h⟩ => h B A H v Le.refl s (r B A m.n)
theorem xe_int {i j} : PE X (.Constant (.int i) j pos) (tX P E (cn (.int i))) := xe_c pe_int fun _ _ _ => .int _
theorem xe_bl {b j} : PE X (.Constant (.bool b) j pos) (tX P E (cn (.bl b))) := xe_c pe_bl fun _ _ _ => .bl _
theorem xe_non {j} : PE X (.Constant .none j pos) (tX P E (cn .non)) := xe_c pe_non fun _ _ _ => .non
theorem xe_str {x j} : PE X (.Constant (.str x) j pos) (tX P E (cn (.str x))) := xe_c pe_str fun _ _ _ => .str _
/-- what a two-place operation on values tells of data -/
def Op2 (P : Pm) (g : O2) (r : R2) : Prop := ∀ (F B : Hp) (A : Nat → Addr) (m : Mem) (H : Hp) (x y : V) (dx dy z : D) (Q : VK), SR P F B A m H → Rep P.K B A m.n x dx → Rep P.K B A m.n y dy → g dx dy m = some z →
  (∀ B' H' v, Ex B B' → SR P F B' A m H' → Rep P.K B' A m.n v z → Q v H') → r x y H Q
variable {a b : Expr} {fa fb : SE} {es : List Expr} {fas : SA}
theorem op2_imp {g : O2} {r : R2} (hg : Op2 P g r) {σ : L2.St} {H : Hp} {Q : VK} (h : tX P E (op2 g fa fb) σ H Q) : tOp r (tX P E fa) (tX P E fb) σ H Q := by
  obtain ⟨F, B, A, ρ, m, s, e, h⟩ := h
  refine tX_go s e (wp_bind h) fun dx m1 B1 A1 H1 x h1 l1 s1 rx => ?_
  refine tX_go s1 (e.mono l1) (wp_le l1 (wp_bind h1)) fun dy m2 B2 A2 H2 y h2 l2 s2 ry => ?_
  obtain ⟨z, hz, h3⟩ := lift_wp h2
  exact hg F B2 A2 m2 H2 x y dx dy z Q s2 (rx.mono l2) ry hz fun B' H' v ex s' rv => h3 B' A2 H' v ((l1.trans l2).trans (Le.base ex)) s' rv
theorem xe_op {op : Operator} {r : R2} {g : O2} (ho : OpR X (binaryOp op) r) (hg : Op2 P g r) (ha : PE X a (tX P E fa)) (hb : PE X b (tX P E fb)) : PE X (.BinOp a op b pos) (tX P E (op2 g fa fb)) :=
  pe_imp (pe_op ho ha hb) fun _ _ _ h => op2_imp hg h
theorem xe_cmp {op : CmpOp} {r : R2} {g : O2} (ho : OpR X (compareOp op) r) (hg : Op2 P g r) (ha : PE X a (tX P E fa)) (hb : PE X b (tX P E fb)) (hm : behindInMarks op b = false) : PE X (.Compare a [op] [b] pos) (tX P E (op2 g fa fb)) :=
  pe_imp (pe_cmpR ho ha hb hm) fun _ _ _ h => op2_imp hg h
theorem xe_ix {r : R2} {g : O2} (ho : IxR X r) (hg : Op2 P g r) (ha : PE X a (tX P E fa)) (hb : PE X b (tX P E fb)) (hs : PlainIx b) : PE X (.Subscript a b pos) (tX P E (op2 g fa fb)) :=
  pe_imp (pe_ix ho ha hb hs) fun _ _ _ h => op2_imp hg h
/-- a test by a value -/
theorem tV_imp {σ : L2.St} {H : Hp} {Q : Bool → Hp → Prop} {f : SE} (h : tXT P E (tV f) σ H Q) : tX P E f σ H fun x H1 => ∃ c, x = .bl c ∧ Q c H1 := by
  obtain ⟨F, B, A, ρ, m, s, e, h⟩ := h
  refine tX_go s e (wp_bind h) fun dx m1 B1 A1 H1 x h1 l1 s1 rx => ?_
  cases dx with
  | bl c =>
    cases rx
    exact ⟨c, rfl, h1 B1 A1 H1 l1 s1⟩
  | _ => exact h1.elim
theorem xt_cmp {op : CmpOp} {r : R2} {g : O2} (ho : OpR X (compareOp op) r) (hg : Op2 P g r) (ha : PE X a (tX P E fa)) (hb : PE X b (tX P E fb)) (hm : behindInMarks op b = false) : PT X (.Compare a [op] [b] pos) (tXT P E (tV (op2 g fa fb))) :=
  pt_imp (pt_cmpR ho ha hb hm) fun σ H Q h => op2_imp hg (tV_imp h)
theorem xt_V {e : Expr} {f : SE} (h : PE X e (tX P E f)) (he : ∀ whole, isTrue e X.env whole = (do let v ← whole; standAt e.pos; holding [v] (truthy v)) := by intro _; rfl) : PT X e (tXT P E (tV f)) :=
  pt_imp (pt_val h he) fun σ H Q h => tV_imp h
/-- x op y op' z -/
theorem asB_wp {d : D} {m : Mem} {q : Bool → Mem → Prop} {e : Er → Mem → Prop} (h : (asB d m).wp q e) : ∃ b, d = .bl b ∧ q b m := by
  cases d with
  | bl b => exact ⟨b, rfl, h⟩
  | _ => exact h.elim
variable {c : Expr} {fc : SE}
theorem chn_imp {g g' : O2} {r r' : R2} (hg : Op2 P g r) (hg' : Op2 P g' r') {σ : L2.St} {H : Hp} {Q : VK} (h : tX P E (chn g g' fa fb fc) σ H Q) : tChain r r' (tX P E fa) (tX P E fb) (tX P E fc) σ H Q := by
  obtain ⟨F, B, A, ρ, m, s, e, h⟩ := h
  refine tX_go s e (wp_bind h) fun dx m1 B1 A1 H1 x h1 l1 s1 rx => ?_
  refine tX_go s1 (e.mono l1) (wp_le l1 (wp_bind h1)) fun dy m2 B2 A2 H2 y h2 l2 s2 ry => ?_
  obtain ⟨z, hz, h3⟩ := lift_wp (wp_bind h2)
  refine hg F B2 A2 m2 H2 x y dx dy z _ s2 (rx.mono l2) ry hz fun B' H' v ex s' rv => ?_
  obtain ⟨t, rfl, h4⟩ := asB_wp (wp_bind h3)
  cases rv
  refine ⟨t, rfl, ?_⟩
  have l3 := (l1.trans l2).trans (Le.base (A := A2) (n := m2.n) ex)
  cases t with
  | true =>
    rw [if_pos rfl] at h4 ⊢
    refine tX_go s' (e.mono l3) (wp_le l3 (wp_bind h4)) fun dz m4 B4 A4 H4 w h5 l4 s4 rw => ?_
    obtain ⟨u, hu, h6⟩ := lift_wp h5
    exact hg' F B4 A4 m4 H4 y w dy dz u Q s4 ((ry.mono (Le.base ex)).mono l4) rw hu fun B5 H5 v5 ex5 s5 r5 => h6 B5 A4 H5 v5 ((l3.trans l4).trans (Le.base ex5)) s5 r5
  | false =>
    rw [if_neg Bool.false_ne_true] at h4 ⊢
    exact h4 B' A2 H' (.bl false) l3 s' (.bl false)
theorem xe_chain {op op' : CmpOp} {r r' : R2} {g g' : O2} (ho : OpR X (compareOp op) r) (ho' : OpR X (compareOp op') r') (hg : Op2 P g r) (hg' : Op2 P g' r') (ha : PE X a (tX P E fa)) (hb : PE X b (tX P E fb)) (hc : PE X c (tX P E fc))
    (hm : lastMarks [op, op'] [b, c] = false := by with_unfolding_all rfl) : PE X (.Compare a [op, op'] [b, c] pos) (tX P E (chn g g' fa fb fc)) := pe_imp (pe_chain ho ho' ha hb hc hm) fun _ _ _ h => chn_imp hg hg' h
theorem xt_chain {op op' : CmpOp} {r r' : R2} {g g' : O2} (ho : OpR X (compareOp op) r) (ho' : OpR X (compareOp op') r') (hg : Op2 P g r) (hg' : Op2 P g' r') (ha : PE X a (tX P E fa)) (hb : PE X b (tX P E fb)) (hc : PE X c (tX P E fc))
    (hm : lastMarks [op, op'] [b, c] = false := by with_unfolding_all rfl) : PT X (.Compare a [op, op'] [b, c] pos) (tXT P E (tV (chn g g' fa fb fc))) := pt_imp (pt_chain ho ho' ha hb hc hm) fun _ _ _ h => chn_imp hg hg' (tV_imp h)
/-! one-place -/
def Op1 (P : Pm) (g : O1) (r : V → Hp → VK → Prop) : Prop := ∀ (F B : Hp) (A : Nat → Addr) (m : Mem) (H : Hp) (x : V) (dx z : D) (Q : VK), SR P F B A m H → Rep P.K B A m.n x dx → g dx m = some z →
  (∀ B' H' v, Ex B B' → SR P F B' A m H' → Rep P.K B' A m.n v z → Q v H') → r x H Q
theorem op1_imp {g : O1} {r : V → Hp → VK → Prop} (hg : Op1 P g r) {σ : L2.St} {H : Hp} {Q : VK} (h : tX P E (op1 g fa) σ H Q) : tX P E fa σ H fun x H1 => r x H1 Q := by
  obtain ⟨F, B, A, ρ, m, s, e, h⟩ := h
  refine tX_go s e (wp_bind h) fun dx m1 B1 A1 H1 x h1 l1 s1 rx => ?_
  obtain ⟨z, hz, h3⟩ := lift_wp h1
  exact hg F B1 A1 m1 H1 x dx z Q s1 rx hz fun B' H' v ex s' rv => h3 B' A1 H' v (l1.trans (Le.base ex)) s' rv
/-! arguments -/
theorem xa_nil : PA X [] (tXA P E argN) := pa_imp pa_nil fun σ H Q ⟨F, B, A, ρ, m, s, e, h⟩ => h B A H [] Le.refl s .nil
theorem xa_cons {e : Expr} (ha : PE X e (tX P E fa)) (hr : PA X es (tXA P E fas)) (hs : starEach (e :: es) X.env = (false, eval e X.env) :: starEach es X.env := by rfl) : PA X (e :: es) (tXA P E (argC fa fas)) := by
  refine pa_imp (pa_cons ha hr hs) fun σ H Q ⟨F, B, A, ρ, m, s, e, h⟩ => ?_
  refine tX_go s e (wp_bind h) fun dx m1 B1 A1 H1 x h1 l1 s1 rx => ?_
  refine tXA_go s1 (e.mono l1) (wp_le l1 (wp_bind h1)) fun ds m2 B2 A2 H2 vs h2 l2 s2 rs => ?_
  exact h2 B2 A2 H2 (x :: vs) (l1.trans l2) s2 (.cons (rx.mono l2) rs)
/-! displays -/
theorem cap_wp {xs : List D} {k : List D → M D} {m : Mem} {q : D → Mem → Prop} {e : Er → Mem → Prop} (h : Rs.wp (if xs.length ≤ 1000 then k xs m else .bad) q e) : xs.length ≤ sizeLine ∧ (k xs m).wp q e := by
  by_cases hl : xs.length ≤ 1000
  · rw [if_pos hl] at h
    exact ⟨Nat.le_trans hl (by decide), h⟩
  · rw [if_neg hl] at h
    exact h.elim
theorem xe_tpl {x1} (h : PA X es (tXA P E fas)) : PE X (.Tuple es x1 pos) (tX P E (tpl fas)) := by
  refine pe_imp (pe_tup h) fun σ H Q ⟨F, B, A, ρ, m, s, e, h⟩ => ?_
  refine tXA_go s e (wp_bind h) fun ds m1 B1 A1 H1 vs h1 l1 s1 rs => ?_
  obtain ⟨hl, h2⟩ := cap_wp (xs := ds) (k := fun xs => M.pure (D.tup xs)) h1
  refine ⟨by rw [rs.length]; exact hl, fun p hp => ?_⟩
  have ex := s1.frozenEx (o := .tup vs) hp
  exact h2 _ A1 _ _ (l1.trans (Le.base ex)) (s1.frozen hp) (.tup (SqT.of upd_same) (rs.mono (Le.base ex)))
theorem xe_lsl (h : PA X es (tXA P E fas)) : PE X (.List es pos) (tX P E (lsl fas)) := by
  refine pe_imp (pe_lst h) fun σ H Q ⟨F, B, A, ρ, m, s, e, h⟩ => ?_
  refine tXA_go s e (wp_bind h) fun ds m1 B1 A1 H1 vs h1 l1 s1 rs => ?_
  obtain ⟨hl, h2⟩ := cap_wp (xs := ds) (k := fun xs => M.pure (D.lst xs)) h1
  refine ⟨by rw [rs.length]; exact hl, fun p hp => ?_⟩
  have ex := s1.frozenEx (o := .lst vs) hp
  exact h2 _ A1 _ _ (l1.trans (Le.base ex)) (s1.frozen hp) (.lst upd_same (rs.mono (Le.base ex)))
/-- a new list that may change: what alloc tells -/
theorem alloc_lst {Q : VK} {F B : Hp} {A : Nat → Addr} {m : Mem} {n : Nat} {B0 : Hp} {A0 : Nat → Addr} {H : Hp} {vs : List V} {ds : List D} {e : Er → Mem → Prop} {p : Addr} (l : Le B0 A0 n B A m.n) (s : SR P F B A m H) (rs : Reps P.K B A m.n vs ds)
    (h : (alloc (.lst ds) m).wp (okD P F B0 A0 n Q) e) (hp : H p = none) : Q (.ref p) (upd H p (.lst vs)) := by
  have l2 : Le B A m.n B (cons1 A m.n p) (m.n + 1) := s.leNew p (.lst ds)
  have r : RepO P B (cons1 A m.n p) (m.n + 1) (upd H p (.lst vs)) p (.lst ds) := .lst upd_same (rs.mono l2)
  exact h B (cons1 A m.n p) _ (.ref p) (l.trans l2) (s.new hp r) (.loc (Nat.lt_succ_self _) cons1_at)
theorem xe_lsm (h : PA X es (tXA P E fas)) : PE X (.List es pos) (tX P E (lsm fas)) := by
  refine pe_imp (pe_lst h) fun σ H Q ⟨F, B, A, ρ, m, s, e, h⟩ => ?_
  refine tXA_go s e (wp_bind h) fun ds m1 B1 A1 H1 vs h1 l1 s1 rs => ?_
  obtain ⟨hl, h2⟩ := cap_wp (xs := ds) (k := fun xs => alloc (MO.lst xs)) h1
  refine ⟨by rw [rs.length]; exact hl, fun p hp => ?_⟩
  exact alloc_lst l1 s1 rs h2 hp
/-- what will change no more -/
theorem xe_frz (h : PE X a (tX P E fa)) : PE X a (tX P E (frz fa)) := by
  refine pe_imp h fun σ H Q ⟨F, B, A, ρ, m, s, e, h⟩ => ?_
  refine tX_go s e (wp_bind h) fun dx m1 B1 A1 H1 x h1 l1 s1 rx => ?_
  unfold frzD at h1
  cases dx with
  | loc k =>
    simp only at h1
    split at h1
    · rename_i xs hk
      split at h1
      · rename_i hlt
        obtain ⟨vs, hv, s2, ex, rs⟩ := s1.freeze hlt hk
        cases rx with
        | loc _ ea =>
          subst ea
          exact h1 _ A1 H1 _ (l1.trans (Le.base ex)) s2 (.lst upd_same (rs.mono (Le.base ex)))
      · exact h1.elim
    · exact h1.elim
  | _ => exact h1 B1 A1 H1 x l1 s1 rx
theorem xe_if {ft : SB} (hc : PT X c (tXT P E ft)) (ha : PE X a (tX P E fa)) (hb : PE X b (tX P E fb)) : PE X (.IfExp c a b pos) (tX P E (ifE ft fa fb)) := by
  refine pe_imp (pe_ifExp hc ha hb) fun σ H Q ⟨F, B, A, ρ, m, s, e, h⟩ => ?_
  refine tXT_go s e (wp_bind h) fun t m1 B1 A1 H1 h1 l1 s1 => ?_
  cases t with
  | true =>
    rw [if_pos rfl] at h1 ⊢
    exact tX_go s1 (e.mono l1) (wp_le l1 h1) fun d m2 B2 A2 H2 v h2 l2 s2 r2 => h2 B2 A2 H2 v (l1.trans l2) s2 r2
  | false =>
    rw [if_neg Bool.false_ne_true] at h1 ⊢
    exact tX_go s1 (e.mono l1) (wp_le l1 h1) fun d m2 B2 A2 H2 v h2 l2 s2 r2 => h2 B2 A2 H2 v (l1.trans l2) s2 r2
/-! tests -/
variable {ta tb : SB} {rest : List Expr}
theorem xw_and1 (ha : PT X a (tXT P E ta)) : PW X (.BoolOp .And [a] pos) (tXT P E ta) := pw_and1 ha
theorem xw_or1 (ha : PT X a (tXT P E ta)) : PW X (.BoolOp .Or [a] pos) (tXT P E ta) := pw_or1 ha
theorem xw_and (ha : PT X a (tXT P E ta)) (hb : PW X (.BoolOp .And (b :: rest) pos) (tXT P E tb)) : PW X (.BoolOp .And (a :: b :: rest) pos) (tXT P E (LB.tAnd ta tb)) := by
  refine pw_imp (pw_and ha hb) fun σ H Q ⟨F, B, A, ρ, m, s, e, h⟩ => ?_
  refine tXT_go s e (wp_bind h) fun t m1 B1 A1 H1 h1 l1 s1 => ?_
  cases t with
  | true =>
    rw [if_pos rfl] at h1 ⊢
    exact tXT_go s1 (e.mono l1) (wp_le l1 h1) fun d m2 B2 A2 H2 h2 l2 s2 => h2 B2 A2 H2 (l1.trans l2) s2
  | false =>
    rw [if_neg Bool.false_ne_true] at h1 ⊢
    exact h1 B1 A1 H1 l1 s1
theorem xw_or (ha : PT X a (tXT P E ta)) (hb : PW X (.BoolOp .Or (b :: rest) pos) (tXT P E tb)) : PW X (.BoolOp .Or (a :: b :: rest) pos) (tXT P E (LB.tOr ta tb)) := by
  refine pw_imp (pw_or ha hb) fun σ H Q ⟨F, B, A, ρ, m, s, e, h⟩ => ?_
  refine tXT_go s e (wp_bind h) fun t m1 B1 A1 H1 h1 l1 s1 => ?_
  cases t with
  | true =>
    rw [if_pos rfl] at h1 ⊢
    exact h1 B1 A1 H1 l1 s1
  | false =>
    rw [if_neg Bool.false_ne_true] at h1 ⊢
    exact tXT_go s1 (e.mono l1) (wp_le l1 h1) fun d m2 B2 A2 H2 h2 l2 s2 => h2 B2 A2 H2 (l1.trans l2) s2
theorem xt_not (ha : PT X a (tXT P E ta)) : PT X (.UnaryOp .Not a pos) (tXT P E (LB.tNot ta)) := by
  refine pt_imp (pt_not ha) fun σ H Q ⟨F, B, A, ρ, m, s, e, h⟩ => ?_
  exact tXT_go s e (wp_bind h) fun t m1 B1 A1 H1 h1 l1 s1 => h1 B1 A1 H1 l1 s1
theorem xe_one {op} {f : SE} (h : PE X a (tX P E f)) : PE X (.BoolOp op [a] pos) (tX P E f) := pe_one h
theorem xe_and (ha : PE X a (tX P E fa)) (hb : PE X (.BoolOp .And (b :: rest) pos) (tX P E fb)) : PE X (.BoolOp .And (a :: b :: rest) pos) (tX P E (vAnd fa fb)) := by
  refine pe_imp (pe_and ha hb) fun σ H Q ⟨F, B, A, ρ, m, s, e, h⟩ => ?_
  refine tX_go s e (wp_bind h) fun dx m1 B1 A1 H1 x h1 l1 s1 rx => ?_
  obtain ⟨t, rfl, h2⟩ := asB_wp (wp_bind h1)
  cases rx
  refine ⟨t, rfl, ?_⟩
  cases t with
  | true =>
    rw [if_pos rfl] at h2 ⊢
    exact tX_go s1 (e.mono l1) (wp_le l1 h2) fun d m2 B2 A2 H2 v h3 l2 s2 r2 => h3 B2 A2 H2 v (l1.trans l2) s2 r2
  | false =>
    rw [if_neg Bool.false_ne_true] at h2 ⊢
    exact h2 B1 A1 H1 _ l1 s1 (.bl false)
theorem xe_or (ha : PE X a (tX P E fa)) (hb : PE X (.BoolOp .Or (b :: rest) pos) (tX P E fb)) : PE X (.BoolOp .Or (a :: b :: rest) pos) (tX P E (vOr fa fb)) := by
  refine pe_imp (pe_or ha hb) fun σ H Q ⟨F, B, A, ρ, m, s, e, h⟩ => ?_
  refine tX_go s e (wp_bind h) fun dx m1 B1 A1 H1 x h1 l1 s1 rx => ?_
  obtain ⟨t, rfl, h2⟩ := asB_wp (wp_bind h1)
  cases rx
  refine ⟨t, rfl, ?_⟩
  cases t with
  | true =>
    rw [if_pos rfl] at h2 ⊢
    exact h2 B1 A1 H1 _ l1 s1 (.bl true)
  | false =>
    rw [if_neg Bool.false_ne_true] at h2 ⊢
    exact tX_go s1 (e.mono l1) (wp_le l1 h2) fun d m2 B2 A2 H2 v h3 l2 s2 r2 => h3 B2 A2 H2 v (l1.trans l2) s2 r2
theorem xe_not (ha : PE X a (tX P E fa)) : PE X (.UnaryOp .Not a pos) (tX P E (vNot fa)) := by
  refine pe_imp (pe_not ha) fun σ H Q ⟨F, B, A, ρ, m, s, e, h⟩ => ?_
  refine tX_go s e (wp_bind h) fun dx m1 B1 A1 H1 x h1 l1 s1 rx => ?_
  obtain ⟨t, rfl, h2⟩ := asB_wp (wp_bind h1)
  cases rx
  exact ⟨t, rfl, h2 B1 A1 H1 _ l1 s1 (.bl _)⟩

/-! ### statements -/
variable {st : Stmt} {sts : List Stmt} {f1 f2 : SS} {f : SE}
theorem xss_nil : PSs X [] (tXS P E sNext) := pss_imp pss_nil fun D σ H ⟨F, B, A, ρ, m, s, e, h⟩ => h B A H σ Le.refl s e
theorem xss_cons (h1 : PS X st (tXS P E f1)) (h2 : PSs X sts (tXS P E f2)) : PSs X (st :: sts) (tXS P E (sSeq f1 f2)) := by
  refine pss_imp (pss_cons h1 h2) fun D σ H ⟨F, B, A, ρ, m, s, e, h⟩ => ?_
  refine tXS_go s e (wp_bind h) fun r m1 h1 B1 A1 H1 σ1 l1 s1 e1 => ?_
  obtain ⟨fl, ρ1⟩ := r
  cases fl with
  | nx => exact ⟨F, B1, A1, ρ1, m1, s1, e1, Rs.wp_mono (wp_le l1 h1) (fun r m2 h2 => h2.le l1) fun _ _ x => x⟩
  | bk => exact h1 B1 A1 H1 σ1 l1 s1 e1
  | ct => exact h1 B1 A1 H1 σ1 l1 s1 e1
  | rt d => exact h1 B1 A1 H1 σ1 l1 s1 e1
theorem xss_one (h1 : PS X st (tXS P E f1)) : PSs X [st] (tXS P E f1) := pss_one h1
theorem xs_pass : PS X (.Pass pos) (tXS P E sNext) := ps_imp ps_pass fun D σ H ⟨F, B, A, ρ, m, s, e, h⟩ => h B A H σ Le.refl s e
theorem xs_brk : PS X (.Break pos) (tXS P E sBrk) := ps_imp ps_break fun D σ H ⟨F, B, A, ρ, m, s, e, h⟩ => h B A H σ Le.refl s e
theorem xs_cnt : PS X (.Continue pos) (tXS P E sCnt) := ps_imp ps_continue fun D σ H ⟨F, B, A, ρ, m, s, e, h⟩ => h B A H σ Le.refl s e
theorem xs_ret {e : Expr} (he : PE X e (tX P E f)) : PS X (.Return (some e) pos) (tXS P E (sRet f)) := by
  refine ps_imp (ps_ret he) fun D σ H ⟨F, B, A, ρ, m, s, e, h⟩ => ?_
  exact tX_go s e (wp_bind h) fun dx m1 B1 A1 H1 x h1 l1 s1 rx => h1 B1 A1 H1 σ l1 s1 (e.mono l1) x rx
theorem xs_retN : PS X (.Return none pos) (tXS P E sRetN) := ps_imp ps_retN fun D σ H ⟨F, B, A, ρ, m, s, e, h⟩ => h B A H σ Le.refl s e .non .non
theorem xs_exp {e : Expr} (he : PE X e (tX P E f)) (hs : swapsWith e none pos.line X.env = pure false := by rfl) : PS X (.Expr e pos) (tXS P E (sExp f)) := by
  refine ps_imp (ps_expr he hs) fun D σ H ⟨F, B, A, ρ, m, s, e, h⟩ => ?_
  exact tX_go s e (wp_bind h) fun dx m1 B1 A1 H1 x h1 l1 s1 rx => h1 B1 A1 H1 σ l1 s1 (e.mono l1)
theorem xs_if {c : Expr} {x y : List Stmt} {tc : SB} (hc : PT X c (tXT P E tc)) (ha : PSs X x (tXS P E f1)) (hb : PSs X y (tXS P E f2)) : PS X (.If c x y pos) (tXS P E (sIf tc f1 f2)) := by
  refine ps_imp (ps_if hc ha hb) fun D σ H ⟨F, B, A, ρ, m, s, e, h⟩ => ?_
  refine tXT_go s e (wp_bind h) fun t m1 B1 A1 H1 h1 l1 s1 => ?_
  cases t with
  | true =>
    rw [if_pos rfl] at h1 ⊢
    exact tXS_go s1 (e.mono l1) (wp_le l1 h1) fun r m2 h2 => h2.le l1
  | false =>
    rw [if_neg Bool.false_ne_true] at h1 ⊢
    exact tXS_go s1 (e.mono l1) (wp_le l1 h1) fun r m2 h2 => h2.le l1
/-- code that is not come to -/
theorem xs_never : PS X st (tXS P E sBad) := ps_imp ps_never fun D σ H ⟨F, B, A, ρ, m, s, e, h⟩ => h
theorem xss_never : PSs X sts (tXS P E sBad) := pss_imp pss_never fun D σ H ⟨F, B, A, ρ, m, s, e, h⟩ => h
/-! targets -/
/-- a target: the slots that it stores -/
def tXG (P : Pm) (g : SG) (is : List Nat) : TG := fun v σ H Q => ∃ B A n ρ d ρ1, EnvR P.K B A n σ ρ ∧ Ex B H ∧ Rep P.K B A n v d ∧ g d ρ = some ρ1 ∧
  ∀ σ1, EnvR P.K B A n σ1 ρ1 → (∀ vs : List Nat, (∀ i ∈ is, i ∈ vs) → L2.wipe σ1 vs = L2.wipe σ vs) → Q σ1 H
theorem pg_imp {tg : Expr} {g g' : TG} (h : PG X tg g) (i : ∀ v σ H Q, g' v σ H Q → g v σ H Q) : PG X tg g' := ⟨fun pins s σ H v u Q I r w => h.run pins s σ H v u Q I r (i v σ H Q w)⟩
theorem wipe_set_none (σ : L2.St) (i : Nat) : ∀ vs : List Nat, L2.wipe (σ.set i none) vs = (L2.wipe σ vs).set i none
  | [] => rfl
  | v :: vs => by
    show (L2.wipe (σ.set i none) vs).set v none = ((L2.wipe σ vs).set v none).set i none
    rw [wipe_set_none σ i vs]
    by_cases h : v = i
    · rw [h]
    · rw [List.set_comm _ _ (Ne.symm h)]
theorem wipe_set {i : Nat} {x : Option V} (σ : L2.St) : ∀ {vs : List Nat}, i ∈ vs → L2.wipe (σ.set i x) vs = L2.wipe σ vs
  | v :: vs, h => by
    show (L2.wipe (σ.set i x) vs).set v none = (L2.wipe σ vs).set v none
    by_cases hv : i ∈ vs
    · rw [wipe_set σ hv]
    · have e : i = v := by
        rcases List.mem_cons.mp h with e | e
        · exact e
        · exact absurd e hv
      subst e
      have gen : ∀ vs : List Nat, (L2.wipe (σ.set i x) vs).set i none = (L2.wipe σ vs).set i none := by
        intro vs
        induction vs with
        | nil => show (σ.set i x).set i none = σ.set i none; rw [List.set_set]
        | cons w ws ih =>
          show ((L2.wipe (σ.set i x) ws).set w none).set i none = ((L2.wipe σ ws).set w none).set i none
          by_cases hw : w = i
          · rw [hw, List.set_set, List.set_set, ih]
          · rw [List.set_comm _ _ hw, ih, List.set_comm _ _ (Ne.symm hw)]
      exact gen vs
theorem xg_nm {i : Nat} {x : Str} (hN : X.N.Nodup) (hi : X.N[i]? = some x := by rfl) (hx : Loc X.env.scope x := by first | exact Or.inl rfl | exact Or.inr rfl) (hf : X.fn x = true ∨ X.env.scope.names.lookup x = some .local := by first | exact .inl rfl | exact .inr rfl | assumption) : PG X (.Name x pos) (tXG P (gNm i) [i]) := by
  refine pg_imp (pg_name hN hi hx hf) fun v σ H Q ⟨B, A, n, ρ, d, ρ1, e, ex, r, hg, k⟩ => ?_
  cases hg
  exact k _ (e.set r i) fun vs h => wipe_set σ (h i (List.mem_singleton.mpr rfl))
def tXGs (P : Pm) (is : List Nat) : TGs := fun vs σ H Q => ∃ B A n ρ ds ρ1, EnvR P.K B A n σ ρ ∧ Ex B H ∧ Reps P.K B A n vs ds ∧ gNms is ds ρ = some ρ1 ∧
  ∀ σ1, EnvR P.K B A n σ1 ρ1 → (∀ vs : List Nat, (∀ i ∈ is, i ∈ vs) → L2.wipe σ1 vs = L2.wipe σ vs) → Q σ1 H
theorem pgs_imp {tg : List Expr} {g g' : TGs} (h : PGs X tg g) (i : ∀ v σ H Q, g' v σ H Q → g v σ H Q) : PGs X tg g' := ⟨fun pins s σ H v u Q I r w => h.run pins s σ H v u Q I r (i v σ H Q w)⟩
theorem xgs_nil : PGs X [] (tXGs P []) := pgs_imp pgs_nil fun vs σ H Q ⟨B, A, n, ρ, ds, ρ1, e, ex, r, hg, k⟩ => by
  cases r with
  | nil =>
    cases hg
    exact ⟨rfl, k σ e fun _ _ => rfl⟩
  | cons _ _ => cases hg
theorem xgs_cons {i : Nat} {is : List Nat} {x : Str} {es : List Expr} (hN : X.N.Nodup) (h2 : PGs X es (tXGs P is)) (hi : X.N[i]? = some x := by rfl) (hx : Loc X.env.scope x := by first | exact Or.inl rfl | exact Or.inr rfl)
    (hf : X.fn x = true ∨ X.env.scope.names.lookup x = some .local := by first | exact .inl rfl | exact .inr rfl | assumption)
    (hs : (assignEach (.Name x pos :: es) X.env).map (·.2) = assign (.Name x pos) X.env :: (assignEach es X.env).map (·.2) := by rfl) : PGs X (.Name x pos :: es) (tXGs P (i :: is)) := by
  refine pgs_imp (pgs_cons (pg_name hN hi hx hf) h2 hs) fun vs σ H Q ⟨B, A, n, ρ, ds, ρ1, e, ex, r, hg, k⟩ => ?_
  cases r with
  | nil => cases hg
  | cons rv rr =>
    refine ⟨_, _, rfl, B, A, n, _, _, ρ1, e.set rv i, ex, rr, hg, fun σ1 e1 w => k σ1 e1 fun vs h => ?_⟩
    rw [w vs fun j hj => h j (List.mem_cons_of_mem _ hj)]
    exact wipe_set σ (h i List.mem_cons_self)
theorem gNms_len : ∀ {is : List Nat} {ds : List D} {ρ ρ1 : Ev}, gNms is ds ρ = some ρ1 → ds.length = is.length
  | [], [], _, _, _ => rfl
  | [], _ :: _, _, _, h => by cases h
  | _ :: _, [], _, _, h => by cases h
  | i :: is, d :: ds, ρ, ρ1, h => by
    have q : gNms is ds (ρ.set i (some d)) = some ρ1 := h
    rw [List.length_cons, List.length_cons, gNms_len q]
theorem xg_tp {es : List Expr} {kk : Nat} {is : List Nat} (hK : X.K = P.K) (hc : X.calm = true) (h : PGs X es (tXGs P is)) (hn : (assignEach es X.env).length = is.length := by rfl) (hst : (assignEach es X.env).findIdx? (·.1) = none := by rfl) :
    PG X (.Tuple es kk pos) (tXG P (gTp is) is) := by
  refine pg_imp (pg_tup hc h hn hst) fun v σ H Q ⟨B, A, n, ρ, d, ρ1, e, ex, r, hg, k⟩ => ?_
  cases r with
  | tup hq rs =>
    have hl := gNms_len hg
    refine ⟨_, _, rfl, by rw [hK]; exact ex.t hq, by rw [rs.length, hl], B, A, n, ρ, _, ρ1, e, ex, rs, hg, k⟩
  | _ => cases hg
theorem xs_asg {tg e : Expr} {g : SG} {is : List Nat} (he : PE X e (tX P E f)) (hg : PG X tg (tXG P g is)) (hs : swapsWithSole [tg] e pos.line X.env = pure false := by rfl) (hw : swappedStores [tg] e X.env = pure none := by rfl)
    (h1 : (assignEach [tg] X.env).map (·.2) = [assign tg X.env] := by rfl) : PS X (.Assign [tg] e pos) (tXS P E (sAsg f g)) := by
  refine ps_imp (ps_asg he hg hs hw h1) fun D σ H ⟨F, B, A, ρ, m, s, e, h⟩ => ?_
  refine tX_go s e (wp_bind h) fun dx m1 B1 A1 H1 x h1 l1 s1 rx => ?_
  cases hg' : g dx ρ with
  | none =>
    rw [hg'] at h1
    exact h1.elim
  | some ρ1 =>
    rw [hg'] at h1
    exact ⟨B1, A1, m1.n, ρ, dx, ρ1, e.mono l1, s1.ex, rx, hg', fun σ1 e1 _ => h1 B1 A1 H1 σ1 l1 s1 e1⟩
theorem xs_set {i : Nat} {x : Str} {e : Expr} {pos' : Pos} (hN : X.N.Nodup) (he : PE X e (tX P E f)) (hi : X.N[i]? = some x := by rfl) (hx : Loc X.env.scope x := by first | exact Or.inl rfl | exact Or.inr rfl) (hs : swapsWith e (some (.Name x pos')) pos.line X.env = pure false := by rfl)
    (hf : X.fn x = true ∨ X.env.scope.names.lookup x = some .local := by first | exact .inl rfl | exact .inr rfl | assumption) : PS X (.Assign [.Name x pos'] e pos) (tXS P E (sAsg f (gNm i))) := by
  refine ps_imp (ps_set hN hi hx he hs hf) fun D σ H ⟨F, B, A, ρ, m, s, e, h⟩ => ?_
  exact tX_go s e (wp_bind h) fun dx m1 B1 A1 H1 x h1 l1 s1 rx => h1 B1 A1 H1 _ l1 s1 ((e.mono l1).set rx i)
end
end LB

set_option Elab.async false
set_option linter.all false
set_option autoImplicit false
set_option maxRecDepth 100000
set_option maxHeartbeats 2000000
/-! Loops, comprehensions, calls, a def's promise. -/
namespace LB
open PySem PySem.Spec PyProof.Rows L2

/-! ### what is walked -/
/-- the iterator J tells w -/
def JOk (P : Pm) (F B : Hp) (A : Nat → Addr) (n : Nat) (J : It) (w : Wk) : Prop := ∀ i F' B' A' m' H', (∀ a o, F a = some o → F' a = some o ∨ True) → Le B A n B' A' m'.n → SR P F' B' A' m' H' →
  (w i m' = some none → J.stop i H') ∧ ∀ d, w i m' = some (some d) → J.go i H' ∧ ∀ x H'', J.yld i H' x H'' → ∃ B'', Ex B' B'' ∧ SR P F' B'' A' m' H'' ∧ Rep P.K B'' A' m'.n x d
def tXI (P : Pm) (E : XK) (f : SI) : TI := fun σ H R => ∃ F B A ρ m, SR P F B A m H ∧ EnvR P.K B A m.n σ ρ ∧ (f ρ m).wp (fun w m' => ∀ B' A' H' J, Le B A m.n B' A' m'.n → SR P F B' A' m' H' → JOk P F B' A' m'.n J w.1 → R J H') (exV P E F B A m.n)
theorem JOk.le {P : Pm} {F B : Hp} {A : Nat → Addr} {n : Nat} {J : It} {w : Wk} {F' B' : Hp} {A' : Nat → Addr} {n' : Nat} (j : JOk P F B A n J w) (l : Le B A n B' A' n') : JOk P F' B' A' n' J w := fun i F2 B2 A2 m2 H2 _ l2 s2 => j i F2 B2 A2 m2 H2 (fun _ _ _ => Or.inr trivial) (l.trans l2) s2

section
variable {X : Cx} {P : Pm} {E : XK} {pos : Pos}
theorem xs_for {tg iter : Expr} {body : List Stmt} {it : SI} {g : SG} {is : List Nat} {fb : SS} (hp : PassesOwn (model X.prog X.w) X.A X.env X.xe) (hc : X.calm = true) (hi : PI X tg iter (tXI P E it)) (hg : PG X tg (tXG P g is)) (hb : PSs X body (tXS P E fb))
    (hs : ∀ x, foldedSetIterable iter X.env x = pure x := by intro _; rfl) : PS X (.For tg iter body [] pos) (tXS P E (sFor it g fb)) := by
  refine ps_imp (ps_for hp hc hi hg hb hs) fun D σ H ⟨F, B, A, ρ, m, s, e, h⟩ => ?_
  refine ⟨F, B, A, ρ, m, s, e, Rs.wp_mono (wp_bind h) (fun w m1 h1 B1 A1 H1 J l1 s1 jok => ?_) fun _ _ x => x⟩
  refine ⟨fun i fuel σ' H' => ∃ B2 A2 ρ2 m2, Le B A m.n B2 A2 m2.n ∧ Le B1 A1 m1.n B2 A2 m2.n ∧ SR P F B2 A2 m2 H' ∧ EnvR P.K B2 A2 m2.n σ' ρ2 ∧ (forG w.1 g fb fuel i ρ2 m2).wp (okS P F B A m.n D) (exV P E F B A m.n),
    ⟨w.2, B1, A1, ρ, m1, l1, Le.refl, s1, e.mono l1, h1⟩, ?_⟩
  rintro i fuel σ' H' ⟨B2, A2, ρ2, m2, l2, l12, s2, e2, h2⟩
  unfold forG at h2
  obtain ⟨js, jg⟩ := jok i F B2 A2 m2 H' (fun _ _ _ => Or.inr trivial) l12 s2
  split at h2
  · exact h2.elim
  · rename_i hw
    exact .inl ⟨js hw, h2 B2 A2 H' σ' l2 s2 e2⟩
  · rename_i x hw
    obtain ⟨go, yl⟩ := jg x hw
    split at h2
    · exact h2.elim
    · rename_i fuel'
      split at h2
      · exact h2.elim
      · rename_i ρ3 hg3
        refine .inr ⟨go, fun σ3 H3 => ∃ B3 A3 ρ3 m3, Le B A m.n B3 A3 m3.n ∧ Le B1 A1 m1.n B3 A3 m3.n ∧ SR P F B3 A3 m3 H3 ∧ EnvR P.K B3 A3 m3.n σ3 ρ3 ∧ (forG w.1 g fb fuel' (i + 1) ρ3 m3).wp (okS P F B A m.n D) (exV P E F B A m.n),
          fun σ3 H3 q => ⟨fuel', Nat.lt_succ_self _, q⟩, fun v H3 hy => ?_⟩
        obtain ⟨B3, ex3, s3, r3⟩ := yl v H3 hy
        have l3 : Le B2 A2 m2.n B3 A2 m2.n := Le.base ex3
        refine ⟨B3, A2, m2.n, ρ2, x, ρ3, e2.mono l3, s3.ex, r3, hg3, fun σ4 e4 _ => ?_⟩
        refine tXS_go s3 e4 (wp_le (l2.trans l3) (wp_bind h2)) fun r m5 h5 B5 A5 H5 σ5 l5 s5 e5 => ?_
        have la := (l2.trans l3).trans l5
        have lb := (l12.trans l3).trans l5
        obtain ⟨fl, ρ5⟩ := r
        cases fl with
        | nx => exact ⟨B5, A5, ρ5, m5, la, lb, s5, e5, h5⟩
        | ct => exact ⟨B5, A5, ρ5, m5, la, lb, s5, e5, h5⟩
        | bk => exact h5 B5 A5 H5 σ5 la s5 e5
        | rt d => exact h5 B5 A5 H5 σ5 la s5 e5
theorem xs_while {c : Expr} {body : List Stmt} {ft : SB} {fb : SS} (fuel : Ev → Mem → Nat) (hp : PassesOwn (model X.prog X.w) X.A X.env X.xe) (hc : PT X c (tXT P E ft)) (hb : PSs X body (tXS P E fb)) : PS X (.While c body [] pos) (tXS P E (sWhile fuel ft fb)) := by
  refine ps_imp (ps_while hp hc hb) fun D σ H ⟨F, B, A, ρ, m, s, e, h⟩ => ?_
  refine ⟨fun fuel σ' H' => ∃ B2 A2 ρ2 m2, Le B A m.n B2 A2 m2.n ∧ SR P F B2 A2 m2 H' ∧ EnvR P.K B2 A2 m2.n σ' ρ2 ∧ (whileG ft fb fuel ρ2 m2).wp (okS P F B A m.n D) (exV P E F B A m.n),
    ⟨fuel ρ m, B, A, ρ, m, Le.refl, s, e, h⟩, ?_⟩
  rintro fuel σ' H' ⟨B2, A2, ρ2, m2, l2, s2, e2, h2⟩
  unfold whileG at h2
  refine tXT_go s2 e2 (wp_le l2 (wp_bind h2)) fun b m3 B3 A3 H3 h3 l3 s3 => ?_
  have l23 := l2.trans l3
  cases b with
  | false =>
    rw [if_neg Bool.false_ne_true] at h3 ⊢
    exact h3 B3 A3 H3 σ' l23 s3 (e2.mono l3)
  | true =>
    rw [if_pos rfl] at h3 ⊢
    cases fuel with
    | zero => exact h3.elim
    | succ fuel' =>
      refine ⟨fun σ3 H3 => ∃ B3 A3 ρ3 m3, Le B A m.n B3 A3 m3.n ∧ SR P F B3 A3 m3 H3 ∧ EnvR P.K B3 A3 m3.n σ3 ρ3 ∧ (whileG ft fb fuel' ρ3 m3).wp (okS P F B A m.n D) (exV P E F B A m.n),
        fun σ3 H3 q => ⟨fuel', Nat.lt_succ_self _, q⟩, ?_⟩
      refine tXS_go s3 (e2.mono l3) (wp_le l23 (wp_bind h3)) fun r m5 h5 B5 A5 H5 σ5 l5 s5 e5 => ?_
      have la := l23.trans l5
      obtain ⟨fl, ρ5⟩ := r
      cases fl with
      | nx => exact ⟨B5, A5, ρ5, m5, la, s5, e5, h5⟩
      | ct => exact ⟨B5, A5, ρ5, m5, la, s5, e5, h5⟩
      | bk => exact h5 B5 A5 H5 σ5 la s5 e5
      | rt d => exact h5 B5 A5 H5 σ5 la s5 e5

/-! ### comprehensions -/
theorem noex_wp {α : Type} {a : M α} {m : Mem} {q : α → Mem → Prop} {e e' : Er → Mem → Prop} (h : (noex a m).wp q e) : (a m).wp q e' := by
  unfold noex at h
  cases ha : a m with
  | bad => rw [ha] at h; exact h
  | ok x m1 => rw [ha] at h; exact h
  | ex x m1 => rw [ha] at h; exact h.elim
def tXTs (P : Pm) (E : XK) (f : SB) : TT := tXT P E f
theorem wipe_wipe (σ : L2.St) : ∀ vs : List Nat, L2.wipe (L2.wipe σ vs) vs = L2.wipe σ vs := by
  have gen : ∀ (us vs : List Nat) (τ : L2.St), (∀ v ∈ us, v ∈ vs) → L2.wipe (L2.wipe τ us) vs = L2.wipe τ vs := by
    intro us
    induction us with
    | nil => intro vs τ _; rfl
    | cons u us ih =>
      intro vs τ h
      show L2.wipe ((L2.wipe τ us).set u none) vs = L2.wipe τ vs
      rw [wipe_set _ (h u List.mem_cons_self)]
      exact ih vs τ fun v hv => h v (List.mem_cons_of_mem _ hv)
  intro vs
  exact gen vs vs σ fun _ h => h
/-- the frame with the list that is being made -/
theorem SR.frame {P : Pm} {F B : Hp} {A : Nat → Addr} {m : Mem} {H : Hp} {p : Addr} {o : HO} (s : SR P F B A m H) (h : H p = none) : SR P (upd F p o) B A m (upd H p o) := by
  have hb : B p = none := s.ex.back h
  have live : ∀ k w, k < m.n → m.get k = some w → A k ≠ p := fun k w hk hw => by
    obtain ⟨x, hx⟩ := (s.at_ k w hk hw).2.at
    exact ne_of_none hx h
  refine ⟨s.ex.mut hb, fun a u e => ?_, fun k u hk hu => ?_, s.inj⟩
  · by_cases ha : a = p
    · rw [ha, upd_same] at e ⊢
      exact ⟨e, hb, live⟩
    · rw [upd_ne ha] at e ⊢
      exact s.fr a u e
  · obtain ⟨h1, h2⟩ := s.at_ k u hk hu
    exact ⟨h1, h2.mono Le.refl fun x hx => by rw [upd_ne (live k u hk hu)]; exact hx⟩
/-- the list that is being made is changed -/
theorem SR.reframe {P : Pm} {F B : Hp} {A : Nat → Addr} {m : Mem} {H : Hp} {p : Addr} {o u : HO} (s : SR P (upd F p o) B A m H) : SR P (upd F p u) B A m (upd H p u) := by
  obtain ⟨h1, hb, live⟩ := s.fr p o upd_same
  refine ⟨s.ex.mut hb, fun a w e => ?_, fun k w hk hw => ?_, s.inj⟩
  · by_cases ha : a = p
    · rw [ha, upd_same] at e ⊢
      exact ⟨e, hb, live⟩
    · rw [upd_ne ha] at e ⊢
      exact s.fr a w (by rw [upd_ne ha]; exact e)
  · obtain ⟨h1, h2⟩ := s.at_ k w hk hw
    exact ⟨h1, h2.mono Le.refl fun x hx => by rw [upd_ne (live k w hk hw)]; exact hx⟩
theorem SR.unframe {P : Pm} {F B : Hp} {A : Nat → Addr} {m : Mem} {H : Hp} {p : Addr} {o : HO} (s : SR P (upd F p o) B A m H) (hF : F p = none) : SR P F B A m H :=
  ⟨s.ex, fun a w e => s.fr a w (by rw [upd_ne (ne_of_none e hF)]; exact e), s.at_, s.inj⟩
/-- what was framed will change no more -/
theorem SR.toBase {P : Pm} {F B : Hp} {A : Nat → Addr} {m : Mem} {H : Hp} {p : Addr} {o : HO} (s : SR P (upd F p o) B A m H) (hF : F p = none) : SR P F (upd B p o) A m H ∧ Ex B (upd B p o) := by
  obtain ⟨h1, hb, live⟩ := s.fr p o upd_same
  refine ⟨⟨fun a u e => ?_, fun a w e => ?_, fun k w hk hw => ?_, s.inj⟩, Ex.new hb⟩
  · by_cases ha : a = p
    · rw [ha, upd_same] at e
      cases e
      rw [ha]
      exact h1
    · rw [upd_ne ha] at e
      exact s.ex a u e
  · have ne : a ≠ p := ne_of_none e hF
    obtain ⟨h1, h2, h3⟩ := s.fr a w (by rw [upd_ne ne]; exact e)
    exact ⟨h1, by rw [upd_ne ne]; exact h2, h3⟩
  · obtain ⟨h1, h2⟩ := s.at_ k w hk hw
    exact ⟨by rw [upd_ne (live k w hk hw)]; exact h1, h2.mono (Le.base (Ex.new hb)) fun _ q => q⟩
/-- .. or is a thing of the store -/
theorem SR.toCell {P : Pm} {F B : Hp} {A : Nat → Addr} {m : Mem} {H : Hp} {p : Addr} {vs : List V} {ds : List D} (s : SR P (upd F p (.lst vs)) B A m H) (hF : F p = none) (rs : Reps P.K B A m.n vs ds) : SR P F B (cons1 A m.n p) (m.new (.lst ds)) H := by
  obtain ⟨h1, hb, live⟩ := s.fr p _ upd_same
  have l2 : Le B A m.n B (cons1 A m.n p) (m.n + 1) := s.leNew p (.lst ds)
  have get : ∀ i, i ≠ m.n → (m.new (.lst ds)).get i = m.get i := fun i hi => by
    show (if i = m.n then some (MO.lst ds) else m.get i) = m.get i
    rw [if_neg hi]
  have get0 : (m.new (.lst ds)).get m.n = some (.lst ds) := by
    show (if m.n = m.n then some (MO.lst ds) else m.get m.n) = _
    rw [if_pos rfl]
  have lt : ∀ i, i < (m.new (.lst ds)).n → i ≠ m.n → i < m.n := fun i hi h => by
    have : i < m.n + 1 := hi
    omega
  refine ⟨s.ex, fun a w e => ?_, fun k w hk hw => ?_, fun j k w x hj hk hw hx e => ?_⟩
  · have ne : a ≠ p := ne_of_none e hF
    obtain ⟨k1, k2, k3⟩ := s.fr a w (by rw [upd_ne ne]; exact e)
    refine ⟨k1, k2, fun k x hk hx => ?_⟩
    by_cases ek : k = m.n
    · rw [ek, cons1_at]
      exact Ne.symm ne
    · rw [cons1_ne (lt k hk ek)]
      exact k3 k x (lt k hk ek) (by rw [← get k ek]; exact hx)
  · by_cases ek : k = m.n
    · rw [ek, get0] at hw
      cases hw
      rw [ek, cons1_at]
      exact ⟨hb, .lst h1 (rs.mono l2)⟩
    · rw [get k ek] at hw
      rw [cons1_ne (lt k hk ek)]
      obtain ⟨k1, k2⟩ := s.at_ k w (lt k hk ek) hw
      exact ⟨k1, k2.mono l2 fun _ q => q⟩
  · by_cases ej : j = m.n
    · by_cases ek : k = m.n
      · rw [ej, ek]
      · rw [get k ek] at hx
        rw [ej, cons1_at, cons1_ne (lt k hk ek)] at e
        exact absurd e.symm (live k x (lt k hk ek) hx)
    · rw [get j ej] at hw
      by_cases ek : k = m.n
      · rw [ek, cons1_at, cons1_ne (lt j hj ej)] at e
        exact absurd e (live j w (lt j hj ej) hw)
      · rw [get k ek] at hx
        rw [cons1_ne (lt j hj ej), cons1_ne (lt k hk ek)] at e
        exact s.inj j k w x (lt j hj ej) (lt k hk ek) hw hx e
/-- the reading of a comprehension: the list that comes of it stands framed at a new address -/
theorem comp_core {it : SI} {g : SG} {is own : List Nat} {ft : SB} {fe : SE} {σ : L2.St} {H : Hp} {Q : VK} {F B : Hp} {A : Nat → Addr} {ρ : Ev} {m : Mem} {q : List D → Mem → Prop} (hown : ∀ i ∈ is, i ∈ own)
    (s : SR P F B A m H) (e : EnvR P.K B A m.n σ ρ) (h : (compL it g ft fe own ρ m).wp q (exV P E F B A m.n))
    (k : ∀ ds m1 B1 A1 H1 p vs, q ds m1 → Le B A m.n B1 A1 m1.n → F p = none → SR P (upd F p (.lst vs)) B1 A1 m1 H1 → Reps P.K B1 A1 m1.n vs ds → Q (.ref p) H1) :
    tLc (tXI P E it) (tXG P g is) (tXT P E0 ft) (tX P E0 fe) own σ H Q := by
  refine ⟨F, B, A, ρ, m, s, e, Rs.wp_mono (wp_bind h) (fun w m1 h1 B1 A1 H1 J l1 s1 jok => ?_) fun _ _ x => x⟩
  intro Dl hD
  have hF : F Dl = none := by
    cases hf : F Dl with
    | none => rfl
    | some o =>
      have := (s1.fr Dl o hf).1
      rw [hD] at this
      cases this
  refine ⟨fun i fuel H' => ∃ B2 A2 m2 acc vs, Le B A m.n B2 A2 m2.n ∧ Le B1 A1 m1.n B2 A2 m2.n ∧ SR P (upd F Dl (.lst vs)) B2 A2 m2 H' ∧ Reps P.K B2 A2 m2.n vs acc ∧ (compG w.1 g ft fe (wipeE ρ own) fuel i acc m2).wp q (exV P E F B A m.n),
    ⟨w.2, B1, A1, m1, [], [], l1, Le.refl, s1.frame hD, .nil, h1⟩, ?_⟩
  rintro i fuel H' ⟨B2, A2, m2, acc, vs, l2, l12, s2, racc, h2⟩
  unfold compG at h2
  obtain ⟨js, jg⟩ := jok i _ B2 A2 m2 H' (fun _ _ _ => Or.inr trivial) l12 s2
  split at h2
  · exact h2.elim
  · rename_i hw
    exact .inl ⟨js hw, k acc m2 B2 A2 H' Dl vs h2 l2 hF s2 racc⟩
  · rename_i x hw
    obtain ⟨go, yl⟩ := jg x hw
    split at h2
    · exact h2.elim
    · rename_i fuel'
      split at h2
      · exact h2.elim
      · rename_i ρ3 hg3
        refine .inr ⟨go, fun H3 => ∃ B3 A3 m3 acc vs, Le B A m.n B3 A3 m3.n ∧ Le B1 A1 m1.n B3 A3 m3.n ∧ SR P (upd F Dl (.lst vs)) B3 A3 m3 H3 ∧ Reps P.K B3 A3 m3.n vs acc ∧ (compG w.1 g ft fe (wipeE ρ own) fuel' (i + 1) acc m3).wp q (exV P E F B A m.n),
          fun H3 z => ⟨fuel', Nat.lt_succ_self _, z⟩, fun v H3 hy => ?_⟩
        obtain ⟨B3, ex3, s3, r3⟩ := yl v H3 hy
        have l3 : Le B2 A2 m2.n B3 A2 m2.n := Le.base ex3
        have e3 : EnvR P.K B3 A2 m2.n (L2.wipe σ own) (wipeE ρ own) := (e.mono (l2.trans l3)).wipe own
        refine ⟨B3, A2, m2.n, _, x, ρ3, e3, s3.ex, r3, hg3, fun σ4 e4 hwp => ⟨by rw [hwp own hown, wipe_wipe], ?_⟩⟩
        have h3 := noex_wp (e' := exV P E0 (upd F Dl (.lst vs)) B3 A2 m2.n) (wp_bind h2)
        refine tXT_go s3 e4 h3 fun b m5 B5 A5 H5 h5 l5 s5 => ?_
        have la := (l2.trans l3).trans l5
        have lb := (l12.trans l3).trans l5
        cases b with
        | false =>
          rw [if_neg Bool.false_ne_true] at h5 ⊢
          exact ⟨B5, A5, m5, acc, vs, la, lb, s5, (racc.mono l3).mono l5, h5⟩
        | true =>
          rw [if_pos rfl] at h5 ⊢
          have h6 := noex_wp (e' := exV P E0 (upd F Dl (.lst vs)) B5 A5 m5.n) (wp_bind h5)
          refine tX_go s5 (e4.mono l5) h6 fun d m7 B7 A7 H7 y h7 l7 s7 r7 => ?_
          have lc := la.trans l7
          have ld := lb.trans l7
          by_cases hl : acc.length < sizeLine
          · rw [if_pos hl] at h7
            have rv : Reps P.K B7 A7 m7.n vs acc := ((racc.mono l3).mono l5).mono l7
            refine ⟨vs, (s7.fr Dl _ upd_same).1, by rw [racc.length]; exact hl, B7, A7, m7, acc ++ [d], vs ++ [y], lc, ld, s7.reframe, rv.append (.cons r7 .nil), h7⟩
          · rw [if_neg hl] at h7
            exact h7.elim
theorem xe_comp {elt tg iter : Expr} {ifs : List Expr} {scope : Scope} {own : List (Str × Nat)} {it : SI} {g : SG} {is : List Nat} {ft : SB} {fe : SE} (hc : X.calm = true) (hN : X.N.Nodup) (hi : PI X tg iter (tXI P E it)) (ok : BlkOk X.N X.env.scope scope own)
    (hg : ∀ (s : Shared) (H : Hp) (C : Addr) (cl : List (Str × Addr)) (fp : List Addr), PG (X.blk s H scope (compEnvC scope cl C X.env) fp) tg (tXG P g is)) (ht : ∀ (s : Shared) (H : Hp) (C : Addr) (cl : List (Str × Addr)) (fp : List Addr), PTs (X.blk s H scope (compEnvC scope cl C X.env) fp) ifs (tXT P E0 ft))
    (he : ∀ (s : Shared) (H : Hp) (C : Addr) (cl : List (Str × Addr)) (fp : List Addr), PE (X.blk s H scope (compEnvC scope cl C X.env) fp) elt (tX P E0 fe)) (hown : ∀ i ∈ is, i ∈ own.map (·.2)) (hs : ∀ x, foldedSetIterable iter X.env x = pure x := by intro _; rfl) :
    PE X (.ListComp elt [⟨tg, iter, ifs, 0⟩] scope pos) (tX P E (comp it g ft fe (own.map (·.2)))) := by
  refine pe_imp (pe_lc hc hN hi ok hg ht he hs) fun σ H Q ⟨F, B, A, ρ, m, s, e, h⟩ => ?_
  refine comp_core hown s e (wp_bind h) fun ds m1 B1 A1 H1 p vs h1 l1 hF s1 rs => ?_
  obtain ⟨s2, ex⟩ := s1.toBase hF
  exact h1 _ A1 H1 (.ref p) (l1.trans (Le.base ex)) s2 (.lst upd_same (rs.mono (Le.base ex)))
theorem xe_compM {elt tg iter : Expr} {ifs : List Expr} {scope : Scope} {own : List (Str × Nat)} {it : SI} {g : SG} {is : List Nat} {ft : SB} {fe : SE} (hc : X.calm = true) (hN : X.N.Nodup) (hi : PI X tg iter (tXI P E it)) (ok : BlkOk X.N X.env.scope scope own)
    (hg : ∀ (s : Shared) (H : Hp) (C : Addr) (cl : List (Str × Addr)) (fp : List Addr), PG (X.blk s H scope (compEnvC scope cl C X.env) fp) tg (tXG P g is)) (ht : ∀ (s : Shared) (H : Hp) (C : Addr) (cl : List (Str × Addr)) (fp : List Addr), PTs (X.blk s H scope (compEnvC scope cl C X.env) fp) ifs (tXT P E0 ft))
    (he : ∀ (s : Shared) (H : Hp) (C : Addr) (cl : List (Str × Addr)) (fp : List Addr), PE (X.blk s H scope (compEnvC scope cl C X.env) fp) elt (tX P E0 fe)) (hown : ∀ i ∈ is, i ∈ own.map (·.2)) (hs : ∀ x, foldedSetIterable iter X.env x = pure x := by intro _; rfl) :
    PE X (.ListComp elt [⟨tg, iter, ifs, 0⟩] scope pos) (tX P E (compM it g ft fe (own.map (·.2)))) := by
  refine pe_imp (pe_lc hc hN hi ok hg ht he hs) fun σ H Q ⟨F, B, A, ρ, m, s, e, h⟩ => ?_
  refine comp_core hown s e (wp_bind h) fun ds m1 B1 A1 H1 p vs h1 l1 hF s1 rs => ?_
  have s2 := s1.toCell hF rs
  exact h1 B1 (cons1 A1 m1.n p) H1 (.ref p) (l1.trans (s1.leNew p (.lst ds))) s2 (.loc (Nat.lt_succ_self _) cons1_at)
theorem xts_nil : PTs X [] (tXT P E LB.tYes) := by
  refine ⟨fun pins s σ H Q I ⟨F, B, A, ρ, m, sr, e, h⟩ => pts_nil.run pins s σ H Q I ?_⟩
  exact h B A H Le.refl sr
theorem xts_one {c : Expr} {ft : SB} (h : PT X c (tXT P E ft)) : PTs X [c] (tXT P E ft) := pts_one h
end

/-! ### calls, promises -/
/-- the promise of a def that is read as f -/
def spF (P : Pm) (f : Fn) (np : Nat) : Sp := fun vs H Q E => ∃ F B A m ds, SR P F B A m H ∧ Reps P.K B A m.n vs ds ∧ ds.length = np ∧ (f ds m).wp (okD P F B A m.n Q) (exV P E F B A m.n)
section
variable {X : Cx} {P : Pm} {E : XK} {pos : Pos} {k : Nat} {f : Addr} {fd : FuncData} {ps : List Str} {mf : Fn} {x : Str} {fas : SA}
/-- the call, its arguments counted -/
theorem callN_imp {np : Nat} {mf : Fn} {σ : L2.St} {H : Hp} {Q : VK} (h : tX P E (callN np mf fas) σ H Q) : tXA P E fas σ H fun vs H1 => spF P mf np vs H1 Q E := by
  obtain ⟨F, B, A, ρ, m, s, e, h⟩ := h
  refine tXA_go s e (wp_bind h) fun ds m1 B1 A1 H1 vs h1 l1 s1 rs => ?_
  by_cases hl : ds.length = np
  · rw [if_pos hl] at h1
    exact ⟨F, B1, A1, m1, ds, s1, rs, hl, Rs.wp_mono (wp_le l1 h1) (fun _ _ q => q.le l1) fun _ _ q => q⟩
  · rw [if_neg hl] at h1
    exact h1.elim
theorem xe_call {np : Nat} {e : Expr} {es : List Expr} {p : Pos} (G : FnOk X.prog X.w X.K X.mg X.base (L2.CX X.prog X.w) k f fd ps (spF P mf np)) (hr : Room k X.A) (hg : Gl X x) (hm : X.mg x = some (.ref f)) (hk : PySem.W.keepIn X.K (.ref f) = true) (hb : Binds X.K fd ps [])
    (hx : Passes (L2.CX X.prog X.w) X E) (ha : PA X (e :: es) (tXA P E fas)) (hdb : (x == ("__debug__" : Str)) = false := by decide)
    (he : starEach (e :: es) X.env = (false, eval e X.env) :: starEach es X.env := by rfl) (hpl : (backTo pos (starEach es X.env)).any (·.1) = false := by rfl) :
    PE X (.Call (.Name x p) (e :: es) [] pos) (tX P E (callN np mf fas)) := by
  refine pe_imp (pe_call G hr hg hm hk hb .nil hx ha hdb he hpl) fun σ H Q h => ?_
  show tXA P E fas σ H fun vs H1 => spF P mf np (vs ++ []) H1 Q E
  have h2 := callN_imp h
  simpa only [List.append_nil] using h2
end
end LB

set_option Elab.async false
set_option linter.all false
set_option autoImplicit false
set_option maxRecDepth 100000
set_option maxHeartbeats 2000000
/-! The operations on data, and a def's promise from its body. -/
namespace LB
open PySem PySem.Spec PyProof.Rows L2

/-! ### a def's promise -/
section
variable {K : PySem.W.Frag} {B : Hp} {A : Nat → Addr} {n n' : Nat}
mutual
theorem Rep.blw : ∀ {v : V} {d : D}, Rep K B A n v d → d.blw n = true
  | _, _, .non => rfl
  | _, _, .bl b => rfl
  | _, _, .int i => rfl
  | _, _, .str x => rfl
  | _, _, .tup _ r => Reps.blw r
  | _, _, .lst _ r => Reps.blw r
  | _, _, .loc h _ => decide_eq_true h
  | _, _, .ref => rfl
  | _, _, .scr _ => rfl
theorem Reps.blw : ∀ {vs : List V} {ds : List D}, Reps K B A n vs ds → blws n ds = true
  | _, _, .nil => rfl
  | _, _, .cons r t => by
    show (_ && _) = true
    rw [Rep.blw r, Reps.blw t]
    rfl
end
mutual
theorem Rep.cut : ∀ {v : V} {d : D}, Rep K B A n v d → d.blw n' = true → Rep K B A n' v d
  | _, _, .non, _ => .non
  | _, _, .bl b, _ => .bl b
  | _, _, .int i, _ => .int i
  | _, _, .str x, _ => .str x
  | _, _, .tup h r, q => .tup h (Reps.cut r q)
  | _, _, .lst h r, q => .lst h (Reps.cut r q)
  | _, _, .loc _ e, q => .loc (of_decide_eq_true q) e
  | _, _, .ref, _ => .ref
  | _, _, .scr h, _ => .scr h
theorem Reps.cut : ∀ {vs : List V} {ds : List D}, Reps K B A n vs ds → blws n' ds = true → Reps K B A n' vs ds
  | _, _, .nil, _ => .nil
  | _, _, .cons (d := d) (ds := ds) r t, q => by
    have z : (d.blw n' && blws n' ds) = true := q
    rw [Bool.and_eq_true] at z
    exact .cons (Rep.cut r z.1) (Reps.cut t z.2)
end
mutual
theorem D.blw_mono (h : n ≤ n') : ∀ d : D, d.blw n = true → d.blw n' = true
  | .non, _ => rfl
  | .bl _, _ => rfl
  | .int _, _ => rfl
  | .str _, _ => rfl
  | .ref _, _ => rfl
  | .scr _, _ => rfl
  | .loc k, q => decide_eq_true (Nat.lt_of_lt_of_le (of_decide_eq_true q) h)
  | .tup xs, q => blws_mono h xs q
  | .lst xs, q => blws_mono h xs q
theorem blws_mono (h : n ≤ n') : ∀ ds : List D, blws n ds = true → blws n' ds = true
  | [], _ => rfl
  | d :: ds, q => by
    have z : (d.blw n && blws n ds) = true := q
    rw [Bool.and_eq_true] at z
    show (_ && _) = true
    rw [D.blw_mono h d z.1, blws_mono h ds z.2]
    rfl
end
end
theorem MO.blw_mono {n n' : Nat} (h : n ≤ n') (o : MO) (q : o.blw n = true) : o.blw n' = true := by
  cases o with
  | lst xs => exact blws_mono h xs q
  | dct kvs =>
    have z : kvs.all (fun p => p.2.blw n) = true := q
    rw [List.all_eq_true] at z
    show kvs.all (fun p => p.2.blw n') = true
    rw [List.all_eq_true]
    exact fun p hp => D.blw_mono h _ (z p hp)
  | obj c fs =>
    have z : fs.all (fun p => p.2.blw n) = true := q
    rw [List.all_eq_true] at z
    show fs.all (fun p => p.2.blw n') = true
    rw [List.all_eq_true]
    exact fun p hp => D.blw_mono h _ (z p hp)
theorem paired_blw {κ : Type} {K : PySem.W.Frag} {B : Hp} {A : Nat → Addr} {n : Nat} : ∀ {kvs : List (κ × V)} {kds : List (κ × D)}, Paired (fun (p : κ × V) (q : κ × D) => p.1 = q.1 ∧ Rep K B A n p.2 q.2) kvs kds → ∀ p ∈ kds, p.2.blw n = true
  | _, _, .nil, p, hp => nomatch hp
  | _, _, .cons r t, p, hp => by
    rcases List.mem_cons.mp hp with rfl | hp
    · exact r.2.blw
    · exact paired_blw t p hp
theorem paired_cut {κ : Type} {K : PySem.W.Frag} {B : Hp} {A : Nat → Addr} {n n' : Nat} : ∀ {kvs : List (κ × V)} {kds : List (κ × D)}, Paired (fun (p : κ × V) (q : κ × D) => p.1 = q.1 ∧ Rep K B A n p.2 q.2) kvs kds → (∀ p ∈ kds, p.2.blw n' = true) →
    Paired (fun (p : κ × V) (q : κ × D) => p.1 = q.1 ∧ Rep K B A n' p.2 q.2) kvs kds
  | _, _, .nil, _ => .nil
  | _, _, .cons r t, h => .cons ⟨r.1, r.2.cut (h _ List.mem_cons_self)⟩ (paired_cut t fun p hp => h p (List.mem_cons_of_mem _ hp))
section
variable {P : Pm} {F B B' : Hp} {A A' : Nat → Addr} {n n' : Nat} {H : Hp} {a : Addr} {o : MO}
theorem RepO.blw (r : RepO P B A n H a o) : o.blw n = true := by
  cases r with
  | lst _ r => exact r.blw
  | dct _ r => exact List.all_eq_true.mpr (paired_blw r)
  | obj _ r => exact List.all_eq_true.mpr (paired_blw r)
theorem RepO.cut (r : RepO P B A n H a o) (h : o.blw n' = true) : RepO P B A n' H a o := by
  cases r with
  | lst e r => exact .lst e (r.cut h)
  | dct e r => exact .dct e (paired_cut r (List.all_eq_true.mp h))
  | obj e r => exact .obj e (paired_cut r (List.all_eq_true.mp h))
theorem SR.cut {m0 m1 m2 : Mem} {H0 H2 : Hp} {F0 : Hp} (s0 : SR P F0 B A m0 H0) (s2 : SR P F B' A' m2 H2) (t : Tr m0 m1 m2) : SR P F B' A' m1 H2 := by
  obtain ⟨h0, h1, h⟩ := t
  have old : ∀ k u, k < m1.n → m1.get k = some u → m2.get k = some u := fun k u hk hu => by
    rcases h k hk with e | e
    · rw [e] at hu
      cases hu
    · rw [← e.1]
      exact hu
  refine ⟨s2.ex, fun a o e => ⟨(s2.fr a o e).1, (s2.fr a o e).2.1, fun k u hk hu => (s2.fr a o e).2.2 k u (Nat.lt_of_lt_of_le hk h1) (old k u hk hu)⟩, fun k o hk ho => ?_,
    fun j k o u hj hk ho hu e => s2.inj j k o u (Nat.lt_of_lt_of_le hj h1) (Nat.lt_of_lt_of_le hk h1) (old j o hj ho) (old k u hk hu) e⟩
  obtain ⟨k1, k2⟩ := s2.at_ k o (Nat.lt_of_lt_of_le hk h1) (old k o hk ho)
  refine ⟨k1, k2.cut ?_⟩
  rcases h k hk with e | ⟨_, e⟩
  · rw [e] at ho
    cases ho
  · rcases e with ⟨e1, e2⟩ | e
    · rw [e2] at ho
      exact MO.blw_mono h0 o (s0.at_ k o e1 ho).2.blw
    · exact e o ho
end
section
variable {Pg : Program} {w : World} {K : PySem.W.Frag} {mg : Str → Option Value} {base : Heap} {P : Pm}
/-- THE RULE for a def: its body read as fb, which tells what f tells -/
theorem ok_fn {x qual : Str} {st : Stmt} {f : Addr} {fd : FuncData} {N ps : List Str} {k : Nat} {mf : Fn} {fb : SS} (Fn0 : Fun K x qual st f fd) (S : FnScope N ps (defScope st)) (hm : ∀ ds m, ds.length = ps.length → LeR m (mf ds m) (run N.length fb ds m))
    (hb : ∀ (cdv : Value) (A : Around) (outer : List Env) (s : Shared) (H : Hp) (E : XK), Room k (A.deeper (envOfC qual (defScope st) s.heap.objs.size f cdv)) →
      PSs (cxOf (L2.CX Pg w) Pg w K mg base N qual (defScope st) f cdv A outer s H E) (defBody st) (tXS P E fb)) : FnOk Pg w K mg base (L2.CX Pg w) (k + 1) f fd ps (spF P mf ps.length) := by
  refine Fn0.okX S (fun vs H Q E ⟨F, B, A, m, ds, s, r, hl, h⟩ => by rw [r.length, hl]) fun cdv A outer s H vs Q E hr ⟨F, B, A0, m, ds, sr, r, hl, h⟩ => ⟨tXS P E fb, hb cdv A outer s H E hr, ?_⟩
  refine ⟨F, B, A0, LB.start N.length ds, m, sr, .start r, ?_⟩
  have hq : (run N.length fb ds m).wp (fun d m' => ∀ B' A' H' v, Le B A0 m.n B' A' m'.n → SR P F B' A' m' H' → Rep P.K B' A' m'.n v d → Q v H') (exV P E F B A0 m.n) := by
    have z := hm ds m hl
    generalize mf ds m = r1 at z h
    generalize run N.length fb ds m = r2 at z
    cases z with
    | bad => exact h.elim
    | same => exact h
    | ok d m1 m2 t hb => exact fun B' A' H' v l s' rv => h B' A' H' v ⟨l.ex, t.1, l.aa⟩ (sr.cut s' t) (rv.cut hb)
    | ex e m1 m2 t hb =>
      refine fun B' A' H' c dd l s' rx => h B' A' H' c dd ⟨l.ex, t.1, l.aa⟩ (sr.cut s' t) ⟨rx.1, ?_⟩
      have q2 := rx.2
      cases hf : e.fld with
      | none => trivial
      | some d =>
        rw [hf] at q2
        obtain ⟨a, v, e1, e2, rv⟩ := q2
        exact ⟨a, v, e1, e2, rv.cut (hb d hf)⟩
  refine Rs.wp_mono (wp_bind hq) (fun r m1 h1 B1 A1 H1 σ1 l1 s1 e1 => ?_) fun _ _ x => x
  obtain ⟨fl, ρ1⟩ := r
  cases fl with
  | nx => exact h1 B1 A1 H1 .non l1 s1 .non
  | rt d => exact fun v rv => h1 B1 A1 H1 v l1 s1 rv
  | bk => exact h1.elim
  | ct => exact h1.elim
end

/-! ### operations -/
section
variable {P : Pm} {F B : Hp} {A : Nat → Addr} {m : Mem} {H : Hp} {v : V} {d : D}
theorem lst_of {ds : List D} (s : SR P F B A m H) (r : Rep P.K B A m.n v d) (h : lstOf m d = some ds) : ∃ a vs, v = .ref a ∧ H a = some (.lst vs) ∧ Reps P.K B A m.n vs ds := by
  cases r with
  | lst hb rs =>
    cases h
    exact ⟨_, _, rfl, s.ex _ _ hb, rs⟩
  | loc hk ea =>
    subst ea
    unfold lstOf at h
    simp only [if_pos hk] at h
    split at h
    · rename_i xs hg
      cases h
      obtain ⟨_, ro⟩ := s.at_ _ _ hk hg
      cases ro with
      | lst h1 h2 => exact ⟨_, _, rfl, h1, h2⟩
    · cases h
  | _ => cases h
theorem sq_of {ds : List D} (s : SR P F B A m H) (r : Rep P.K B A m.n v d) (h : sqOf m d = some ds) : ∃ a vs, v = .ref a ∧ (SqL P.K H a vs ∨ SqT P.K H a vs) ∧ Reps P.K B A m.n vs ds := by
  cases r with
  | tup hq rs =>
    cases h
    exact ⟨_, _, rfl, .inr (s.ex.t hq), rs⟩
  | lst hb rs =>
    obtain ⟨a, vs, e, h1, h2⟩ := lst_of s (.lst hb rs) h
    exact ⟨a, vs, e, .inl (SqL.of h1), h2⟩
  | @scr a ns hq =>
    cases h
    refine ⟨a, _, rfl, .inl (s.ex.l hq), ?_⟩
    have gen : ∀ ns : List Int, Reps P.K B A m.n (ns.map V.int) (ns.map D.int) := by
      intro ns
      induction ns with
      | nil => exact .nil
      | cons i r ih => exact .cons (.int i) ih
    exact gen ns
  | loc hk ea =>
    obtain ⟨a, vs, e, h1, h2⟩ := lst_of s (.loc hk ea) h
    exact ⟨a, vs, e, .inl (SqL.of h1), h2⟩
  | _ => cases h
theorem op_int {f : Int → Int → D} {g : Int → Int → V} (hf : ∀ i j (B : Hp) (A : Nat → Addr) n, Rep P.K B A n (g i j) (f i j)) : Op2 P (g2I f) (rI0 g) := by
  intro F B A m H x y dx dy z Q s rx ry hz k
  cases rx with
  | int i =>
    cases ry with
    | int j =>
      cases hz
      exact ⟨i, j, rfl, rfl, k B H _ (Ex.refl B) s (hf i j B A m.n)⟩
    | _ => cases hz
  | _ => cases hz
theorem op_intC {c : Int → Int → Bool} {C : Int → Int → Prop} (hc : ∀ i j, c i j = true → C i j) {f : Int → Int → D} {g : Int → Int → V} (hf : ∀ i j (B : Hp) (A : Nat → Addr) n, Rep P.K B A n (g i j) (f i j)) : Op2 P (g2IC c f) (rI C g) := by
  intro F B A m H x y dx dy z Q s rx ry hz k
  cases rx with
  | int i =>
    cases ry with
    | int j =>
      simp only [g2IC] at hz
      split at hz
      · rename_i h
        cases hz
        exact ⟨i, j, rfl, rfl, hc i j h, k B H _ (Ex.refl B) s (hf i j B A m.n)⟩
      · cases hz
    | _ => cases hz
  | _ => cases hz
theorem op2_sub : Op2 P gSub (rI0 fun i j => .int (i - j)) := op_int fun _ _ _ _ _ => .int _
theorem op2_lt : Op2 P gLt (rI0 fun i j => .bl (decide (i < j))) := op_int fun _ _ _ _ _ => .bl _
theorem op2_le : Op2 P gLe (rI0 fun i j => .bl (decide (i ≤ j))) := op_int fun _ _ _ _ _ => .bl _
theorem op2_gt : Op2 P gGt (rI0 fun i j => .bl (decide (j < i))) := op_int fun _ _ _ _ _ => .bl _
theorem op2_ge : Op2 P gGe (rI0 fun i j => .bl (decide (j ≤ i))) := op_int fun _ _ _ _ _ => .bl _
theorem s64 {i : Int} (h : small64 i = true) : -(2 ^ 64) < i ∧ i < 2 ^ 64 := by
  unfold small64 at h
  rw [Bool.and_eq_true, decide_eq_true_eq, decide_eq_true_eq] at h
  exact h
theorem op2_mul : Op2 P gMul (rI CMul fun i j => .int (i * j)) := op_intC (fun i j h => by
  rcases Bool.or_eq_true _ _ ▸ h with h | h
  · exact .inl (s64 h)
  · exact .inr (s64 h)) fun _ _ _ _ _ => .int _
theorem op2_mod : Op2 P gMod (rI (fun _ j => j ≠ 0) fun i j => .int (i.fmod j)) := op_intC (fun i j h => of_decide_eq_true h) fun _ _ _ _ _ => .int _
theorem op2_fdiv : Op2 P gFdiv (rI CDivN fun i j => .int (i.fdiv j)) := op_intC (fun i j h => by
  rw [Bool.and_eq_true, decide_eq_true_eq, decide_eq_true_eq] at h
  exact h) fun _ _ _ _ _ => .int _
theorem op2_pow : Op2 P gPow (rI CPow fun i j => .int (i ^ j.toNat)) := op_intC (fun i j h => by
  rw [Bool.and_eq_true, Bool.and_eq_true, decide_eq_true_eq, decide_eq_true_eq, decide_eq_true_eq] at h
  exact ⟨h.1.1, h.1.2, h.2⟩) fun _ _ _ _ _ => .int _
def rAdd (K : PySem.W.Frag) : R2 := fun x y H Q => rI0 (fun i j => .int (i + j)) x y H Q ∨ ((∃ i j, x = .str i ∧ y = .str j ∧ i.length + j.length ≤ sizeLine ∧ Q (.str (i ++ j)) H) ∨ (rCatA K x y H Q ∨ rCat x y H Q))
theorem op_addA {X : Cx} : OpR X (binaryOp .Add) (rAdd X.K) := op_add.or (op_add_str.or (op_catA.or op_cat))
theorem op2_cat {dx dy z : D} {x y : V} {Q : VK} (s : SR P F B A m H) (rx : Rep P.K B A m.n x dx) (ry : Rep P.K B A m.n y dy) (h : (match lstOf m dx, lstOf m dy with
    | some xs, some ys => if xs.length + ys.length ≤ sizeLine then some (D.lst (xs ++ ys)) else none
    | _, _ => none) = some z) (k : ∀ B' H' v, Ex B B' → SR P F B' A m H' → Rep P.K B' A m.n v z → Q v H') : rCat x y H Q := by
  split at h
  · rename_i xs ys hx hy
    split at h
    · rename_i hl
      cases h
      obtain ⟨a, vs, rfl, ha, rs⟩ := lst_of s rx hx
      obtain ⟨b, ws, rfl, hb, rt⟩ := lst_of s ry hy
      refine ⟨a, b, vs, ws, rfl, rfl, ha, hb, by rw [rs.length, rt.length]; exact hl, fun p hp => ?_⟩
      have ex := s.frozenEx (o := .lst (vs ++ ws)) hp
      exact k _ _ _ ex (s.frozen hp) (.lst upd_same ((rs.append rt).mono (Le.base ex)))
    · cases h
  · cases h
theorem op2_add : Op2 P gAdd (rAdd P.K) := by
  intro F B A m H x y dx dy z Q s rx ry hz k
  unfold gAdd at hz
  split at hz
  · rename_i i j
    cases rx
    cases ry
    cases hz
    exact .inl ⟨_, _, rfl, rfl, k B H _ (Ex.refl B) s (.int _)⟩
  · rename_i i j
    cases rx
    cases ry
    split at hz
    · rename_i hl
      cases hz
      exact .inr (.inl ⟨_, _, rfl, rfl, hl, k B H _ (Ex.refl B) s (.str _)⟩)
    · cases hz
  · rename_i xs ys
    cases rx with
    | tup hq rs =>
      cases ry with
      | tup hq' rt =>
        split at hz
        · rename_i hl
          cases hz
          refine .inr (.inr (.inl ⟨_, _, _, _, rfl, rfl, s.ex.t hq, s.ex.t hq', by rw [rs.length, rt.length]; exact hl, fun e => ?_, fun _ e => ?_, fun _ _ p hp => ?_⟩))
          · subst e
            cases rs
            exact k B H _ (Ex.refl B) s (.tup hq' rt)
          · subst e
            cases rt
            rw [List.append_nil] at k
            exact k B H _ (Ex.refl B) s (.tup hq rs)
          · exact k _ _ _ (s.frozenEx hp) (s.frozen hp) (.tup (SqT.of upd_same) ((rs.append rt).mono (Le.base (s.frozenEx hp))))
        · cases hz
  · exact .inr (.inr (.inr (op2_cat s rx ry hz k)))
/-! subscripts -/
theorem ix_eq (n : Nat) (i : Int) : ixD n i = L2.ixN n i := rfl
theorem atD_rep {vs : List V} {ds : List D} {i : Int} {z : D} {n : Nat} (r : Reps P.K B A n vs ds) (h : atD ds i = some z) : ∃ v, L2.atI vs i = some v ∧ Rep P.K B A n v z := by
  unfold atD at h
  unfold L2.atI
  rw [r.length, ← ix_eq]
  cases hj : ixD ds.length i with
  | none => rw [hj] at h; cases h
  | some j =>
    rw [hj] at h
    exact r.get h
theorem op2_ix : Op2 P gIx (L2.rIx P.K) := by
  intro F B A m H x y dx dy z Q s rx ry hz k
  unfold gIx at hz
  split at hz
  · rename_i i
    cases ry
    split at hz
    · rename_i w
      cases rx
      split at hz
      · rename_i hl
        cases hc : atD w.cps.toList i with
        | none => rw [hc] at hz; cases hz
        | some c =>
          rw [hc] at hz
          cases hz
          exact .inr (.inr ⟨w, i, c, rfl, rfl, hl, hc, k B H _ (Ex.refl B) s (.str _)⟩)
      · cases hz
    · cases hs : sqOf m dx with
      | none => rw [hs] at hz; cases hz
      | some ds =>
        rw [hs] at hz
        obtain ⟨a, vs, rfl, hq, rs⟩ := sq_of s rx hs
        obtain ⟨v, hv, rv⟩ := atD_rep rs hz
        rcases hq with hq | hq
        · exact .inl ⟨a, vs, i, v, rfl, rfl, hq, hv, k B H v (Ex.refl B) s rv⟩
        · exact .inr (.inl ⟨a, vs, i, v, rfl, rfl, hq, hv, k B H v (Ex.refl B) s rv⟩)
  · cases hz
/-! equality -/
mutual
theorem isFlat_V : ∀ {v : V} {d : D} {n : Nat}, Rep P.K B A n v d → L2.flatV v = d.isFlat
  | _, _, _, .non => rfl
  | _, _, _, .bl _ => rfl
  | _, _, _, .int _ => rfl
  | _, _, _, .str _ => rfl
  | _, _, _, .tup _ _ => rfl
  | _, _, _, .lst _ _ => rfl
  | _, _, _, .loc _ _ => rfl
  | _, _, _, .ref => rfl
  | _, _, _, .scr _ => rfl
end
theorem eqv_V {v u : V} {d e : D} {n : Nat} (r : Rep P.K B A n v d) (q : Rep P.K B A n u e) (hd : d.isFlat = true) (he : e.isFlat = true) : L2.eqV v u = d.eqv e := by
  cases r <;> cases q <;> first | rfl | (simp only [D.isFlat] at hd he; cases hd) | (simp only [D.isFlat] at hd he; cases he) | (simp only [L2.eqV, D.eqv])
theorem all_flat {n : Nat} : ∀ {vs : List V} {ds : List D}, Reps P.K B A n vs ds → vs.all L2.flatV = ds.all D.isFlat
  | _, _, .nil => rfl
  | _, _, .cons r t => by rw [List.all_cons, List.all_cons, isFlat_V r, all_flat t]
theorem in_V {n : Nat} {v : V} {d : D} (r : Rep P.K B A n v d) (hd : d.isFlat = true) : ∀ {vs : List V} {ds : List D}, Reps P.K B A n vs ds → ds.all D.isFlat = true → L2.inV v vs = inD d ds
  | _, _, .nil, _ => rfl
  | _, _, .cons q t, h => by
    rw [List.all_cons, Bool.and_eq_true] at h
    have ih := in_V r hd t h.2
    unfold L2.inV inD at ih ⊢
    rw [List.any_cons, List.any_cons, ih, eqv_V q r h.1 hd]
theorem op2_isN : Op2 P gIsN (fun x y H Q => y = .non ∧ Q (.bl (decide (x = .non))) H) := by
  intro F B A m H x y dx dy z Q s rx ry hz k
  cases ry with
  | non =>
    refine ⟨rfl, ?_⟩
    cases rx <;> (cases hz; exact k B H _ (Ex.refl B) s (.bl _))
  | _ => cases hz
theorem op2_notN : Op2 P gNotN (fun x y H Q => y = .non ∧ Q (.bl (!decide (x = .non))) H) := by
  intro F B A m H x y dx dy z Q s rx ry hz k
  cases ry with
  | non =>
    refine ⟨rfl, ?_⟩
    cases rx <;> (cases hz; exact k B H _ (Ex.refl B) s (.bl _))
  | _ => cases hz
/-! deep equality -/
mutual
def toPy : D → PyData
  | .non => .none
  | .bl b => .bool b
  | .int i => .int i
  | .str x => .str x
  | .tup xs => .tuple (toPys xs)
  | .lst xs => .list (toPys xs)
  | .loc _ => .none
  | .ref _ => .none
  | .scr _ => .none
def toPys : List D → List PyData
  | [] => []
  | x :: xs => toPy x :: toPys xs
end
mutual
theorem toPy_lay : ∀ d : D, d.plain = true → (toPy d).canLay0 = true
  | .non, _ => by simp [toPy, PyData.canLay0]
  | .bl _, _ => by simp [toPy, PyData.canLay0]
  | .int _, _ => by simp [toPy, PyData.canLay0]
  | .str x, h => by
    have h' : x.cps.all (· < 0x110000) = true := h
    simp only [toPy, PyData.canLay0, PyData.strOk]
    exact h'
  | .tup xs, h => by simp only [toPy, PyData.canLay0]; exact toPys_lay xs h
  | .lst xs, h => by simp only [toPy, PyData.canLay0]; exact toPys_lay xs h
theorem toPys_lay : ∀ ds : List D, plains ds = true → PyData.canLayAll0 (toPys ds) = true
  | [], _ => by simp [toPys, PyData.canLayAll0]
  | d :: ds, h => by
    have z : (d.plain && plains ds) = true := h
    rw [Bool.and_eq_true] at z
    simp only [toPys, PyData.canLayAll0, toPy_lay d z.1, toPys_lay ds z.2, Bool.and_self]
end
mutual
theorem toPy_dep : ∀ d : D, (toPy d).depth = d.dep
  | .non => by simp [toPy, PyData.depth, D.dep]
  | .bl _ => by simp [toPy, PyData.depth, D.dep]
  | .int _ => by simp [toPy, PyData.depth, D.dep]
  | .str _ => by simp [toPy, PyData.depth, D.dep]
  | .loc _ => by simp [toPy, PyData.depth, D.dep]
  | .ref _ => by simp [toPy, PyData.depth, D.dep]
  | .scr _ => by simp [toPy, PyData.depth, D.dep]
  | .tup xs => by simp only [toPy, PyData.depth, D.dep, toPys_dep xs]
  | .lst xs => by simp only [toPy, PyData.depth, D.dep, toPys_dep xs]
theorem toPys_dep : ∀ ds : List D, PyData.depthAll (toPys ds) = deps ds
  | [] => by simp [toPys, PyData.depthAll, deps]
  | d :: ds => by simp only [toPys, PyData.depthAll, deps, toPy_dep d, toPys_dep ds]
end
mutual
theorem toPy_eqv : ∀ d e : D, d.plain = true → e.plain = true → PyData.eqv (toPy d) (toPy e) = d.eqv e
  | .tup xs, .tup ys, h1, h2 => by simp only [toPy, PyData.eqv, D.eqv]; exact toPys_eqv xs ys h1 h2
  | .lst xs, .lst ys, h1, h2 => by simp only [toPy, PyData.eqv, D.eqv]; exact toPys_eqv xs ys h1 h2
  | .non, e, _, h2 => by cases e <;> first | (simp [D.plain] at h2; done) | simp [toPy, PyData.eqv, D.eqv]
  | .bl _, e, _, h2 => by cases e <;> first | (simp [D.plain] at h2; done) | simp [toPy, PyData.eqv, D.eqv]
  | .int _, e, _, h2 => by cases e <;> first | (simp [D.plain] at h2; done) | simp [toPy, PyData.eqv, D.eqv]
  | .str _, e, _, h2 => by cases e <;> first | simp [toPy, PyData.eqv, D.eqv]; done | (simp [D.plain] at h2; done)
  | .tup xs, .non, _, _ => by simp [toPy, PyData.eqv, D.eqv]
  | .tup xs, .bl _, _, _ => by simp [toPy, PyData.eqv, D.eqv]
  | .tup xs, .int _, _, _ => by simp [toPy, PyData.eqv, D.eqv]
  | .tup xs, .str _, _, _ => by simp [toPy, PyData.eqv, D.eqv]
  | .tup xs, .lst _, _, _ => by simp [toPy, PyData.eqv, D.eqv]
  | .lst xs, .non, _, _ => by simp [toPy, PyData.eqv, D.eqv]
  | .lst xs, .bl _, _, _ => by simp [toPy, PyData.eqv, D.eqv]
  | .lst xs, .int _, _, _ => by simp [toPy, PyData.eqv, D.eqv]
  | .lst xs, .str _, _, _ => by simp [toPy, PyData.eqv, D.eqv]
  | .lst xs, .tup _, _, _ => by simp [toPy, PyData.eqv, D.eqv]
theorem toPys_eqv : ∀ xs ys : List D, plains xs = true → plains ys = true → PyData.eqvAll (toPys xs) (toPys ys) = eqvs xs ys
  | [], [], _, _ => by simp [toPys, PyData.eqvAll, eqvs]
  | [], y :: ys, _, _ => by simp [toPys, PyData.eqvAll, eqvs]
  | x :: xs, [], _, _ => by simp [toPys, PyData.eqvAll, eqvs]
  | x :: xs, y :: ys, h1, h2 => by
    have z1 : (x.plain && plains xs) = true := h1
    have z2 : (y.plain && plains ys) = true := h2
    rw [Bool.and_eq_true] at z1 z2
    simp only [toPys, PyData.eqvAll, eqvs, toPy_eqv x y z1.1 z2.1, toPys_eqv xs ys z1.2 z2.2]
end
mutual
theorem dp_of (ex : Ex B H) {n : Nat} : ∀ {v : V} {d : D}, Rep P.K B A n v d → d.plain = true → Dp P.K H v (toPy d)
  | _, _, .non, _ => by simp only [toPy]; exact .non
  | _, _, .bl _, _ => by simp only [toPy]; exact .bl _
  | _, _, .int _, _ => by simp only [toPy]; exact .int _
  | _, _, .str _, _ => by simp only [toPy]; exact .str _
  | _, _, .tup hq r, h => by simp only [toPy]; exact .tup (ex.t hq) (dps_of ex r h)
  | _, _, .lst hb r, h => by simp only [toPy]; exact .lst (SqL.of (ex _ _ hb)) (dps_of ex r h)
  | _, _, .loc _ _, h => by simp [D.plain] at h
  | _, _, .ref, h => by simp [D.plain] at h
  | _, _, .scr _, h => by simp [D.plain] at h
theorem dps_of (ex : Ex B H) {n : Nat} : ∀ {vs : List V} {ds : List D}, Reps P.K B A n vs ds → plains ds = true → DpAll P.K H vs (toPys ds)
  | _, _, .nil, _ => by simp only [toPys]; exact .nil
  | _, _, .cons (d := d) (ds := ds) r t, h => by
    have z : (d.plain && plains ds) = true := h
    rw [Bool.and_eq_true] at z
    simp only [toPys]
    exact .cons (dp_of ex r z.1) (dps_of ex t z.2)
end
theorem dp_res (s : SR P F B A m H) (r : Rep P.K B A m.n v d) (h : (res m d).plain = true) : Dp P.K H v (toPy (res m d)) := by
  cases hs : lstOf m d with
  | some ds =>
    have e : res m d = .lst ds := by unfold res; rw [hs]
    rw [e] at h ⊢
    obtain ⟨a, vs, rfl, ha, rs⟩ := lst_of s r hs
    simp only [toPy]
    exact .lst (SqL.of ha) (dps_of s.ex rs h)
  | none =>
    have e : res m d = d := by unfold res; rw [hs]
    rw [e] at h ⊢
    exact dp_of s.ex r h
def rEqA (K : PySem.W.Frag) : R2 := fun x y H Q => L2.rEq x y H Q ∨ rEqD K x y H Q
def rNeA (K : PySem.W.Frag) : R2 := fun x y H Q => L2.rNe x y H Q ∨ rNeD K x y H Q
theorem op_eqA {X : Cx} {k : Nat} (hr : Room k X.A) : OpR X (compareOp .Eq) (rEqA X.K) := op_eq.or (op_eqD (by have := hr.un; omega))
theorem op_neA {X : Cx} {k : Nat} (hr : Room k X.A) : OpR X (compareOp .NotEq) (rNeA X.K) := op_ne.or (op_neD (by have := hr.un; omega))
theorem shaped_of {d : D} (h1 : d.plain = true) (h2 : d.dep ≤ 60) : SeqAt.shaped (toPy d) = true := by
  unfold SeqAt.shaped
  rw [toPy_lay d h1, toPy_dep]
  simp only [Bool.true_and, decide_eq_true_eq]
  omega
theorem eq_split {x y : V} {dx dy : D} {b : Bool} (s : SR P F B A m H) (rx : Rep P.K B A m.n x dx) (ry : Rep P.K B A m.n y dy) (h : eqOf m dx dy = some b) :
    (L2.scal x y = true ∧ decide (x = y) = b) ∨ ∃ d e, Dp P.K H x d ∧ Dp P.K H y e ∧ SeqAt.shaped d = true ∧ SeqAt.shaped e = true ∧ PyData.eqv d e = b := by
  unfold eqOf at h
  split at h
  · cases rx; cases ry; cases h; exact .inl ⟨rfl, rfl⟩
  · cases rx; cases ry; cases h; exact .inl ⟨rfl, by simp⟩
  · cases rx; cases ry; cases h; exact .inl ⟨rfl, by simp⟩
  · cases rx; cases ry; cases h; exact .inl ⟨rfl, by simp⟩
  · unfold eqDeep at h
    split at h
    · rename_i hc
      obtain ⟨h1, h2, h3, h4⟩ := hc
      cases h
      exact .inr ⟨_, _, dp_res s rx h1, dp_res s ry h2, shaped_of h1 h3, shaped_of h2 h4, toPy_eqv _ _ h1 h2⟩
    · cases h
theorem op2_eq : Op2 P gEq (rEqA P.K) := by
  intro F B A m H x y dx dy z Q s rx ry hz k
  unfold gEq at hz
  cases hb : eqOf m dx dy with
  | none => rw [hb] at hz; cases hz
  | some b =>
    rw [hb] at hz
    cases hz
    have q := k B H (.bl b) (Ex.refl B) s (.bl b)
    rcases eq_split s rx ry hb with ⟨h1, h2⟩ | ⟨d, e, h1, h2, h3, h4, h5⟩
    · exact .inl ⟨h1, by rw [h2]; exact q⟩
    · exact .inr ⟨d, e, h1, h2, h3, h4, by rw [h5]; exact q⟩
theorem op2_ne : Op2 P gNe (rNeA P.K) := by
  intro F B A m H x y dx dy z Q s rx ry hz k
  unfold gNe at hz
  cases hb : eqOf m dx dy with
  | none => rw [hb] at hz; cases hz
  | some b =>
    rw [hb] at hz
    cases hz
    have q := k B H (.bl (!b)) (Ex.refl B) s (.bl _)
    rcases eq_split s rx ry hb with ⟨h1, h2⟩ | ⟨d, e, h1, h2, h3, h4, h5⟩
    · exact .inl ⟨h1, by rw [h2]; exact q⟩
    · exact .inr ⟨d, e, h1, h2, h3, h4, by rw [h5]; exact q⟩

end
/-! x in xs -/
def rInDT (K : PySem.W.Frag) (neg : Bool) : R2 := fun x y H Q => ∃ d ds, Dp K H x d ∧ (Dp K H y (.tuple ds) ∨ Dp K H y (.list ds)) ∧ SeqAt.shaped d = true ∧ PyData.canLayAll0 ds = true ∧ Q (.bl (if neg = true then !(ds.any fun z => PyData.eqv z d) else ds.any fun z => PyData.eqv z d)) H
theorem op_inDT {X : Cx} (hu : X.A.units + 65 < cLine) : OpR X (compareOp .In) (rInDT X.K false) := by
  intro pins s σ H x y v u Q I rx ry ⟨d, ds, hd, he, sd, se, q⟩
  obtain ⟨as, r1⟩ := Dp.reads I d x v hd rx
  have room := PyProof.Rows.room_in_shaped (xs := ds) (A := X.A) sd hu
  rcases he with he | he
  · obtain ⟨bs, r2⟩ := Dp.reads I (.tuple ds) y u he ry
    exact SeqAt.in_tuple_reads r2 r1 se (SeqAt.canLay_of_shaped sd) room ⟨.bl _, H, I, rfl, q⟩
  · obtain ⟨bs, r2⟩ := Dp.reads I (.list ds) y u he ry
    exact SeqAt.in_list_reads r2 r1 se (SeqAt.canLay_of_shaped sd) room ⟨.bl _, H, I, rfl, q⟩
theorem op_notInDT {X : Cx} (hu : X.A.units + 65 < cLine) : OpR X (compareOp .NotIn) (rInDT X.K true) := by
  intro pins s σ H x y v u Q I rx ry ⟨d, ds, hd, he, sd, se, q⟩
  obtain ⟨as, r1⟩ := Dp.reads I d x v hd rx
  have room := PyProof.Rows.room_in_shaped (xs := ds) (A := X.A) sd hu
  rcases he with he | he
  · obtain ⟨bs, r2⟩ := Dp.reads I (.tuple ds) y u he ry
    exact SeqAt.notIn_tuple_reads r2 r1 se (SeqAt.canLay_of_shaped sd) room ⟨.bl _, H, I, rfl, q⟩
  · obtain ⟨bs, r2⟩ := Dp.reads I (.list ds) y u he ry
    exact SeqAt.notIn_list_reads r2 r1 se (SeqAt.canLay_of_shaped sd) room ⟨.bl _, H, I, rfl, q⟩
def rInA (K : PySem.W.Frag) (neg : Bool) : R2 := fun x y H Q => L2.rIn K neg x y H Q ∨ rInDT K neg x y H Q
theorem op_inA {X : Cx} {k : Nat} (hr : Room k X.A) : OpR X (compareOp .In) (rInA X.K false) := op_in_seq.or (op_inDT (by have := hr.un; omega))
theorem op_notInA {X : Cx} {k : Nat} (hr : Room k X.A) : OpR X (compareOp .NotIn) (rInA X.K true) := op_notIn_seq.or (op_notInDT (by have := hr.un; omega))
theorem any_eqv {x : D} (hx : x.plain = true) : ∀ {ds : List D}, plains ds = true → ((toPys ds).any fun z => PyData.eqv z (toPy x)) = inD x ds
  | [], _ => by simp [toPys, inD]
  | d :: ds, h => by
    have z : (d.plain && plains ds) = true := h
    rw [Bool.and_eq_true] at z
    have ih := any_eqv hx z.2
    unfold inD at ih ⊢
    simp only [toPys]
    rw [List.any_cons, List.any_cons, ih, toPy_eqv d x z.1 hx]
section
variable {P : Pm} {F B : Hp} {A : Nat → Addr} {m : Mem} {H : Hp}
theorem dp_sq {a : Addr} {vs : List V} {ds : List D} {n : Nat} (ex : Ex B H) (hq : SqL P.K H a vs ∨ SqT P.K H a vs) (rs : Reps P.K B A n vs ds) (h : plains ds = true) : Dp P.K H (.ref a) (.tuple (toPys ds)) ∨ Dp P.K H (.ref a) (.list (toPys ds)) := by
  rcases hq with hq | hq
  · exact .inr (.lst hq (dps_of ex rs h))
  · exact .inl (.tup hq (dps_of ex rs h))
theorem in_go {neg : Bool} {x y : V} {dx dy : D} {ds : List D} {b : Bool} {Q : VK} (s : SR P F B A m H) (rx : Rep P.K B A m.n x dx) (ry : Rep P.K B A m.n y dy) (hs : sqOf m dy = some ds) (hb : inOf dx ds = some b) (q : Q (.bl (if neg = true then !b else b)) H) : rInA P.K neg x y H Q := by
  obtain ⟨a, vs, rfl, hq, rs⟩ := sq_of s ry hs
  unfold inOf at hb
  split at hb
  · rename_i hf
    cases hb
    refine .inl ⟨a, vs, rfl, hq, by rw [isFlat_V rx]; exact hf.1, by rw [all_flat rs]; exact hf.2, ?_⟩
    rw [in_V rx hf.1 rs hf.2]
    exact q
  · split at hb
    · rename_i hf
      cases hb
      refine .inr ⟨toPy dx, toPys ds, dp_of s.ex rx hf.1, dp_sq s.ex hq rs hf.2.2.1, shaped_of hf.1 (by omega), toPys_lay ds hf.2.2.1, ?_⟩
      rw [any_eqv hf.1 hf.2.2.1]
      exact q
    · cases hb
theorem op2_in : Op2 P gIn (rInA P.K false) := by
  intro F B A m H x y dx dy z Q s rx ry hz k
  unfold gIn at hz
  cases hs : sqOf m dy with
  | none => rw [hs] at hz; cases hz
  | some ds =>
    cases hb : inOf dx ds with
    | none => simp only [hs, hb, Option.bind_some, Option.map_none] at hz; cases hz
    | some b =>
      simp only [hs, hb, Option.bind_some, Option.map_some, Option.some.injEq] at hz
      subst hz
      exact in_go s rx ry hs hb (k B H _ (Ex.refl B) s (.bl _))
theorem op2_notIn : Op2 P gNotIn (rInA P.K true) := by
  intro F B A m H x y dx dy z Q s rx ry hz k
  unfold gNotIn at hz
  cases hs : sqOf m dy with
  | none => rw [hs] at hz; cases hz
  | some ds =>
    cases hb : inOf dx ds with
    | none => simp only [hs, hb, Option.bind_some, Option.map_none] at hz; cases hz
    | some b =>
      simp only [hs, hb, Option.bind_some, Option.map_some, Option.some.injEq] at hz
      subst hz
      exact in_go s rx ry hs hb (k B H _ (Ex.refl B) s (.bl _))
end
end LB

set_option Elab.async false
set_option linter.all false
set_option autoImplicit false
set_option maxRecDepth 100000
set_option maxHeartbeats 2000000
/-! Built-ins, dicts and lists of the store. -/
namespace LB
open PySem PySem.Spec PyProof.Rows L2

def OpN (P : Pm) (g : ON) (r : List V → Hp → VK → Prop) : Prop := ∀ (F B : Hp) (A : Nat → Addr) (m : Mem) (H : Hp) (vs : List V) (ds : List D) (z : D) (Q : VK), SR P F B A m H → Reps P.K B A m.n vs ds → g ds m = some z →
  (∀ B' H' v, Ex B B' → SR P F B' A m H' → Rep P.K B' A m.n v z → Q v H') → r vs H Q
/-- the same, the value a new list that may change -/
def OpNM (P : Pm) (g : ON) (r : List V → Hp → VK → Prop) : Prop := ∀ (F B : Hp) (A : Nat → Addr) (m : Mem) (H : Hp) (vs : List V) (ds : List D) (z : List D) (Q : VK), SR P F B A m H → Reps P.K B A m.n vs ds → g ds m = some (.lst z) →
  (∀ p ws, H p = none → Reps P.K B A m.n ws z → Q (.ref p) (upd H p (.lst ws))) → r vs H Q
section
variable {X : Cx} {P : Pm} {E : XK} {pos : Pos} {e : Expr} {es : List Expr} {fas : SA} {r : List V → Hp → VK → Prop} {g : ON} {id T : String} {x : Str} {p : Pos}
theorem opN_imp (hg : OpN P g r) {σ : L2.St} {H : Hp} {Q : VK} (h : tX P E (opN g fas) σ H Q) : tCB r (tXA P E fas) σ H Q := by
  obtain ⟨F, B, A, ρ, m, s, e, h⟩ := h
  refine tXA_go s e (wp_bind h) fun ds m1 B1 A1 H1 vs h1 l1 s1 rs => ?_
  obtain ⟨z, hz, h2⟩ := lift_wp h1
  exact hg F B1 A1 m1 H1 vs ds z Q s1 rs hz fun B' H' v ex s' rv => h2 B' A1 H' v (l1.trans (Le.base ex)) s' rv
theorem opNM_imp (hg : OpNM P g r) {σ : L2.St} {H : Hp} {Q : VK} (h : tX P E (opNM g fas) σ H Q) : tCB r (tXA P E fas) σ H Q := by
  obtain ⟨F, B, A, ρ, m, s, e, h⟩ := h
  refine tXA_go s e (wp_bind h) fun ds m1 B1 A1 H1 vs h1 l1 s1 rs => ?_
  obtain ⟨z, hz, h2⟩ := lift_wp (wp_bind h1)
  cases z with
  | lst ys => exact hg F B1 A1 m1 H1 vs ds ys Q s1 rs hz fun p ws hp rw => alloc_lst l1 s1 rw h2 hp
  | _ => exact h2.elim
theorem xe_callB (hc : CallR X (.builtin id) r) (hG : OpN P g r) (hg : Gl X x) (hm : X.mg x = none) (hv : bootBuiltins x = some (.builtin id)) (ha : PA X (e :: es) (tXA P E fas)) (hn : x ≠ "__name__" := by decide) (hdb : (x == ("__debug__" : Str)) = false := by decide)
    (he : starEach (e :: es) X.env = (false, eval e X.env) :: starEach es X.env := by rfl) (hpl : (backTo pos (starEach es X.env)).any (·.1) = false := by rfl) : PE X (.Call (.Name x p) (e :: es) [] pos) (tX P E (opN g fas)) :=
  pe_imp (pe_callB hc hg hm hv ha hn hdb he hpl) fun _ _ _ h => opN_imp hG h
theorem xe_callTy (hc : CallR X (.type T) r) (hG : OpN P g r) (hg : Gl X x) (hm : X.mg x = none) (hv : bootBuiltins x = some (.type T)) (ha : PA X (e :: es) (tXA P E fas)) (hn : x ≠ "__name__" := by decide) (hdb : (x == ("__debug__" : Str)) = false := by decide)
    (he : starEach (e :: es) X.env = (false, eval e X.env) :: starEach es X.env := by rfl) (hpl : (backTo pos (starEach es X.env)).any (·.1) = false := by rfl) : PE X (.Call (.Name x p) (e :: es) [] pos) (tX P E (opN g fas)) :=
  pe_imp (pe_callTy hc hg hm hv ha hn hdb he hpl) fun _ _ _ h => opN_imp hG h
theorem xe_callTyM (hc : CallR X (.type T) r) (hG : OpNM P g r) (hg : Gl X x) (hm : X.mg x = none) (hv : bootBuiltins x = some (.type T)) (ha : PA X (e :: es) (tXA P E fas)) (hn : x ≠ "__name__" := by decide) (hdb : (x == ("__debug__" : Str)) = false := by decide)
    (he : starEach (e :: es) X.env = (false, eval e X.env) :: starEach es X.env := by rfl) (hpl : (backTo pos (starEach es X.env)).any (·.1) = false := by rfl) : PE X (.Call (.Name x p) (e :: es) [] pos) (tX P E (opNM g fas)) :=
  pe_imp (pe_callTy hc hg hm hv ha hn hdb he hpl) fun _ _ _ h => opNM_imp hG h
end
section
variable {P : Pm}
def rLenA (K : PySem.W.Frag) : List V → Hp → VK → Prop := fun xs H Q => (∃ x n, xs = [x] ∧ LenV K x H n ∧ Q (.int n) H) ∨ ∃ a kvs, xs = [V.ref a] ∧ H a = some (.dK kvs) ∧ Q (.int kvs.length) H
theorem call_lenA {X : Cx} : CallR X (.builtin "len") (rLenA X.K) := call_len.or call_lenD
theorem Reps.one {K : PySem.W.Frag} {B : Hp} {A : Nat → Addr} {n : Nat} {vs : List V} {d : D} (r : Reps K B A n vs [d]) : ∃ v, vs = [v] ∧ Rep K B A n v d := by
  cases r with
  | cons r t =>
    cases t
    exact ⟨_, rfl, r⟩
theorem Reps.two {K : PySem.W.Frag} {B : Hp} {A : Nat → Addr} {n : Nat} {vs : List V} {d e : D} (r : Reps K B A n vs [d, e]) : ∃ v u, vs = [v, u] ∧ Rep K B A n v d ∧ Rep K B A n u e := by
  cases r with
  | cons r t =>
    cases t with
    | cons q t =>
      cases t
      exact ⟨_, _, rfl, r, q⟩
theorem lenV_sq {F B : Hp} {A : Nat → Addr} {m : Mem} {H : Hp} {v : V} {d : D} {ds : List D} (s : SR P F B A m H) (r : Rep P.K B A m.n v d) (h : sqOf m d = some ds) : LenV P.K v H ds.length := by
  obtain ⟨a, vs, rfl, hq, rs⟩ := sq_of s r h
  rw [← rs.length]
  rcases hq with hq | hq
  · exact .inl ⟨vs, hq, rfl⟩
  · exact .inr ⟨vs, hq, rfl⟩
theorem opN_len : OpN P gLen (rLenA P.K) := by
  intro F B A m H vs ds z Q s rs hz k
  unfold gLen at hz
  split at hz
  · obtain ⟨v, rfl, r⟩ := rs.one
    cases r
    split at hz
    · rename_i hl
      cases hz
      exact .inl ⟨_, _, rfl, ⟨hl, rfl⟩, k B H _ (Ex.refl B) s (.int _)⟩
    · cases hz
  · rename_i j
    obtain ⟨v, rfl, r⟩ := rs.one
    cases r with
    | loc hj ea =>
      subst ea
      rw [if_pos hj] at hz
      split at hz
      · rename_i xs hg
        cases hz
        exact .inl ⟨_, _, rfl, lenV_sq s (.loc hj rfl) (show sqOf m (.loc j) = some xs by unfold sqOf lstOf; simp only [if_pos hj, hg]), k B H _ (Ex.refl B) s (.int _)⟩
      · rename_i kvs hg
        cases hz
        obtain ⟨_, ro⟩ := s.at_ _ _ hj hg
        cases ro with
        | dct h1 h2 =>
          refine .inr ⟨_, _, rfl, h1, ?_⟩
          rw [Paired.length h2]
          exact k B H _ (Ex.refl B) s (.int _)
      · cases hz
  · rename_i d _ _
    obtain ⟨v, rfl, r⟩ := rs.one
    cases hs : sqOf m d with
    | none => rw [hs] at hz; cases hz
    | some xs =>
      rw [hs] at hz
      cases hz
      exact .inl ⟨_, _, rfl, lenV_sq s r hs, k B H _ (Ex.refl B) s (.int _)⟩
  · cases hz
theorem opN_max2 : OpN P gMax2 (fun xs H Q => ∃ i j, xs = [.int i, .int j] ∧ Q (.int (if j > i then j else i)) H) := by
  intro F B A m H vs ds z Q s rs hz k
  unfold gMax2 at hz
  split at hz
  · obtain ⟨v, u, rfl, r, q⟩ := rs.two
    cases r
    cases q
    cases hz
    exact ⟨_, _, rfl, k B H _ (Ex.refl B) s (.int _)⟩
  · cases hz
theorem opN_min2 : OpN P gMin2 (fun xs H Q => ∃ i j, xs = [.int i, .int j] ∧ Q (.int (if j < i then j else i)) H) := by
  intro F B A m H vs ds z Q s rs hz k
  unfold gMin2 at hz
  split at hz
  · obtain ⟨v, u, rfl, r, q⟩ := rs.two
    cases r
    cases q
    cases hz
    exact ⟨_, _, rfl, k B H _ (Ex.refl B) s (.int _)⟩
  · cases hz
theorem opN_int : OpN P gInt (fun xs H Q => (∃ i, xs = [.int i] ∧ Q (.int i) H) ∨ ∃ k, xs = [.bl k] ∧ Q (.int (if k then 1 else 0)) H) := by
  intro F B A m H vs ds z Q s rs hz k
  unfold gInt at hz
  split at hz
  · obtain ⟨v, rfl, r⟩ := rs.one
    cases r
    cases hz
    exact .inl ⟨_, rfl, k B H _ (Ex.refl B) s (.int _)⟩
  · obtain ⟨v, rfl, r⟩ := rs.one
    cases r
    cases hz
    exact .inr ⟨_, rfl, k B H _ (Ex.refl B) s (.int _)⟩
  · cases hz
abbrev rListA (K : PySem.W.Frag) : List V → Hp → VK → Prop := fun xs H Q => ∃ p ys, xs = [.ref p] ∧ (SqL K H p ys ∨ SqT K H p ys) ∧ ∀ l, H l = none → Q (.ref l) (upd H l (.lst ys))
theorem list_sq {F B : Hp} {A : Nat → Addr} {m : Mem} {H : Hp} {vs : List V} {ds : List D} {z : D} {f : List D → D} (s : SR P F B A m H) (rs : Reps P.K B A m.n vs ds) (h : gSq f ds m = some z) : ∃ a ws ys, vs = [.ref a] ∧ (SqL P.K H a ws ∨ SqT P.K H a ws) ∧ Reps P.K B A m.n ws ys ∧ z = f ys := by
  unfold gSq at h
  split at h
  · rename_i d
    obtain ⟨v, rfl, r⟩ := rs.one
    cases hs : sqOf m d with
    | none => rw [hs] at h; cases h
    | some ys =>
      rw [hs] at h
      cases h
      obtain ⟨a, ws, rfl, hq, rw⟩ := sq_of s r hs
      exact ⟨a, ws, ys, rfl, hq, rw, rfl⟩
  · cases h
theorem opN_list : OpN P gList (rListA P.K) := by
  intro F B A m H vs ds z Q s rs hz k
  obtain ⟨a, ws, ys, rfl, hq, rw, rfl⟩ := list_sq s rs hz
  refine ⟨a, ws, rfl, hq, fun p hp => ?_⟩
  exact k _ _ _ (s.frozenEx hp) (s.frozen hp) (.lst upd_same (rw.mono (Le.base (s.frozenEx hp))))
theorem opNM_list : OpNM P gList (rListA P.K) := by
  intro F B A m H vs ds z Q s rs hz k
  obtain ⟨a, ws, ys, rfl, hq, rw, e⟩ := list_sq s rs hz
  cases e
  exact ⟨a, ws, rfl, hq, fun p hp => k p ws hp rw⟩
theorem opN_tuple : OpN P gTuple (fun xs H Q => ∃ p ys, xs = [.ref p] ∧ ((SqL P.K H p ys ∧ ∀ l, H l = none → Q (.ref l) (upd H l (.tup ys))) ∨ (SqT P.K H p ys ∧ Q (.ref p) H))) := by
  intro F B A m H vs ds z Q s rs hz k
  unfold gTuple at hz
  split at hz
  · obtain ⟨v, rfl, r⟩ := rs.one
    cases r with
    | tup hq rw =>
      cases hz
      exact ⟨_, _, rfl, .inr ⟨s.ex.t hq, k B H _ (Ex.refl B) s (.tup hq rw)⟩⟩
  · rename_i d _
    obtain ⟨v, rfl, r⟩ := rs.one
    cases hs : lstOf m d with
    | none => rw [hs] at hz; cases hz
    | some ys =>
      rw [hs] at hz
      cases hz
      obtain ⟨a, ws, rfl, ha, rw⟩ := lst_of s r hs
      exact ⟨_, _, rfl, .inl ⟨SqL.of ha, fun p hp => k _ _ _ (s.frozenEx hp) (s.frozen hp) (.tup (SqT.of upd_same) (rw.mono (Le.base (s.frozenEx hp))))⟩⟩
  · cases hz
theorem ints_of {B : Hp} {A : Nat → Addr} {n : Nat} : ∀ {vs : List V} {ds : List D} {ns : List Int}, Reps P.K B A n vs ds → intsOf ds = some ns → vs = ns.map V.int
  | _, _, ns, .nil, h => by
    cases h
    rfl
  | _, _, ns, .cons (d := d) (ds := ds) r t, h => by
    cases r with
    | int i =>
      have h' : (intsOf ds).map (i :: ·) = some ns := h
      cases hs : intsOf ds with
      | none => rw [hs] at h'; cases h'
      | some ms =>
        rw [hs] at h'
        cases h'
        rw [List.map_cons, ints_of t hs]
    | _ => cases h
theorem reps_ints {B : Hp} {A : Nat → Addr} {n : Nat} : ∀ ns : List Int, Reps P.K B A n (ns.map V.int) (ns.map D.int)
  | [] => .nil
  | i :: r => .cons (.int i) (reps_ints r)
theorem opN_sum : OpN P gSum (rSum P.K) := by
  intro F B A m H vs ds z Q s rs hz k
  unfold gSum at hz
  split at hz
  · rename_i d
    obtain ⟨v, rfl, r⟩ := rs.one
    cases hs : lstOf m d with
    | none => rw [hs] at hz; cases hz
    | some ys =>
      rw [hs] at hz
      cases hi : intsOf ys with
      | none => simp only [Option.bind_some, hi] at hz; cases hz
      | some ns =>
        simp only [Option.bind_some, hi, Option.map_some, Option.some.injEq] at hz
        subst hz
        obtain ⟨a, ws, rfl, ha, rw⟩ := lst_of s r hs
        have e := ints_of rw hi
        subst e
        exact ⟨a, ns, rfl, SqL.of ha, k B H _ (Ex.refl B) s (.int _)⟩
  · cases hz
theorem ins1_perm (i : Int) : ∀ ns : List Int, (ins1 i ns).Perm (i :: ns)
  | [] => List.Perm.refl _
  | j :: r => by
    unfold ins1
    split
    · exact List.Perm.refl _
    · exact ((ins1_perm i r).cons j).trans (List.Perm.swap i j r)
theorem isort_perm : ∀ ns : List Int, (isort ns).Perm ns
  | [] => List.Perm.refl _
  | i :: r => (ins1_perm i (isort r)).trans ((isort_perm r).cons i)
theorem ins1_mem {i x : Int} {ns : List Int} (h : x ∈ ins1 i ns) : x = i ∨ x ∈ ns := by
  have := (ins1_perm i ns).mem_iff.mp h
  exact List.mem_cons.mp this
theorem ins1_sorted (i : Int) : ∀ ns : List Int, ns.Pairwise (· ≤ ·) → (ins1 i ns).Pairwise (· ≤ ·)
  | [], _ => by simp [ins1]
  | j :: r, h => by
    unfold ins1
    rw [List.pairwise_cons] at h
    split
    · rename_i hij
      refine List.pairwise_cons.mpr ⟨fun x hx => ?_, List.pairwise_cons.mpr h⟩
      rcases List.mem_cons.mp hx with e | hx
      · omega
      · have := h.1 x hx
        omega
    · rename_i hij
      refine List.pairwise_cons.mpr ⟨fun x hx => ?_, ins1_sorted i r h.2⟩
      rcases ins1_mem hx with e | hx
      · omega
      · exact h.1 x hx
theorem isort_sorted : ∀ ns : List Int, (isort ns).Pairwise (· ≤ ·)
  | [] => List.Pairwise.nil
  | i :: r => ins1_sorted i _ (isort_sorted r)
theorem sorted_uniq : ∀ {xs ys : List Int}, xs.Perm ys → xs.Pairwise (· ≤ ·) → ys.Pairwise (· ≤ ·) → xs = ys
  | [], ys, h, _, _ => by
    have := h.length_eq
    cases ys with
    | nil => rfl
    | cons y r => simp at this
  | x :: r, [], h, _, _ => by
    have := h.length_eq
    simp at this
  | x :: r, y :: t, h, h1, h2 => by
    rw [List.pairwise_cons] at h1 h2
    have e : x = y := by
      have a : x ∈ y :: t := h.mem_iff.mp List.mem_cons_self
      have b : y ∈ x :: r := h.mem_iff.mpr List.mem_cons_self
      rcases List.mem_cons.mp a with e | a
      · exact e
      · rcases List.mem_cons.mp b with e | b
        · exact e.symm
        · have q1 := h2.1 x a
          have q2 := h1.1 y b
          omega
    subst e
    rw [sorted_uniq h.cons_inv h1.2 h2.2]
theorem opN_sorted : OpN P gSorted (rSortedI P.K) := by
  intro F B A m H vs ds z Q s rs hz k
  unfold gSorted at hz
  split at hz
  · rename_i d
    obtain ⟨v, rfl, r⟩ := rs.one
    cases hs : lstOf m d with
    | none => rw [hs] at hz; cases hz
    | some ys =>
      rw [hs] at hz
      cases hi : intsOf ys with
      | none => simp only [Option.bind_some, hi] at hz; cases hz
      | some ns =>
        simp only [Option.bind_some, hi, Option.map_some, Option.some.injEq] at hz
        subst hz
        obtain ⟨a, ws, rfl, ha, rw⟩ := lst_of s r hs
        have e := ints_of rw hi
        subst e
        refine ⟨a, ns, rfl, SqL.of ha, fun ns' p hp1 hp2 hp => ?_⟩
        have e := sorted_uniq (hp1.trans (isort_perm ns).symm) hp2 (isort_sorted ns)
        subst e
        exact k _ _ _ (s.frozenEx hp) (s.frozen hp) (.lst upd_same (reps_ints _))
  · cases hz
theorem maxL_some : ∀ {ns : List Int} {k : Int}, maxL ns = some k → k ∈ ns ∧ ∀ y ∈ ns, y ≤ k
  | [], k, h => by cases h
  | i :: r, k, h => by
    unfold maxL at h
    cases hr : maxL r with
    | none =>
      rw [hr] at h
      cases h
      have e : r = [] := by
        cases r with
        | nil => rfl
        | cons j t =>
          unfold maxL at hr
          split at hr <;> cases hr
      subst e
      simp
    | some j =>
      rw [hr] at h
      obtain ⟨h1, h2⟩ := maxL_some hr
      simp only [Option.some.injEq] at h
      split at h
      · subst h
        refine ⟨List.mem_cons_of_mem _ h1, fun y hy => ?_⟩
        rcases List.mem_cons.mp hy with e | hy
        · omega
        · exact h2 y hy
      · subst h
        refine ⟨List.mem_cons_self, fun y hy => ?_⟩
        rcases List.mem_cons.mp hy with e | hy
        · omega
        · have := h2 y hy
          omega
theorem minL_some : ∀ {ns : List Int} {k : Int}, minL ns = some k → k ∈ ns ∧ ∀ y ∈ ns, k ≤ y
  | [], k, h => by cases h
  | i :: r, k, h => by
    unfold minL at h
    cases hr : minL r with
    | none =>
      rw [hr] at h
      cases h
      have e : r = [] := by
        cases r with
        | nil => rfl
        | cons j t =>
          unfold minL at hr
          split at hr <;> cases hr
      subst e
      simp
    | some j =>
      rw [hr] at h
      obtain ⟨h1, h2⟩ := minL_some hr
      simp only [Option.some.injEq] at h
      split at h
      · subst h
        refine ⟨List.mem_cons_of_mem _ h1, fun y hy => ?_⟩
        rcases List.mem_cons.mp hy with e | hy
        · omega
        · exact h2 y hy
      · subst h
        refine ⟨List.mem_cons_self, fun y hy => ?_⟩
        rcases List.mem_cons.mp hy with e | hy
        · omega
        · have := h2 y hy
          omega
theorem opN_max : OpN P gMax (rMax P.K) := by
  intro F B A m H vs ds z Q s rs hz k
  unfold gMax at hz
  split at hz
  · rename_i d
    obtain ⟨v, rfl, r⟩ := rs.one
    cases hs : lstOf m d with
    | none => rw [hs] at hz; cases hz
    | some ys =>
      rw [hs] at hz
      cases hi : intsOf ys with
      | none => simp only [Option.bind_some, hi] at hz; cases hz
      | some ns =>
        cases hm : maxL ns with
        | none => simp only [Option.bind_some, hi, hm] at hz; cases hz
        | some j =>
          simp only [Option.bind_some, hi, hm, Option.map_some, Option.some.injEq] at hz
          subst hz
          obtain ⟨a, ws, rfl, ha, rw⟩ := lst_of s r hs
          have e := ints_of rw hi
          subst e
          obtain ⟨h1, h2⟩ := maxL_some hm
          refine ⟨a, ns, rfl, SqL.of ha, List.length_pos_of_mem h1, fun i h3 h4 => ?_⟩
          have e : i = j := by
            have := h2 i h3
            have := h4 j h1
            omega
          subst e
          exact k B H _ (Ex.refl B) s (.int _)
  · cases hz
theorem opN_min : OpN P gMin (rMin P.K) := by
  intro F B A m H vs ds z Q s rs hz k
  unfold gMin at hz
  split at hz
  · rename_i d
    obtain ⟨v, rfl, r⟩ := rs.one
    cases hs : lstOf m d with
    | none => rw [hs] at hz; cases hz
    | some ys =>
      rw [hs] at hz
      cases hi : intsOf ys with
      | none => simp only [Option.bind_some, hi] at hz; cases hz
      | some ns =>
        cases hm : minL ns with
        | none => simp only [Option.bind_some, hi, hm] at hz; cases hz
        | some j =>
          simp only [Option.bind_some, hi, hm, Option.map_some, Option.some.injEq] at hz
          subst hz
          obtain ⟨a, ws, rfl, ha, rw⟩ := lst_of s r hs
          have e := ints_of rw hi
          subst e
          obtain ⟨h1, h2⟩ := minL_some hm
          refine ⟨a, ns, rfl, SqL.of ha, List.length_pos_of_mem h1, fun i h3 h4 => ?_⟩
          have e : i = j := by
            have := h2 i h3
            have := h4 j h1
            omega
          subst e
          exact k B H _ (Ex.refl B) s (.int _)
  · cases hz
end
end LB

set_option Elab.async false
set_option linter.all false
set_option autoImplicit false
set_option maxRecDepth 100000
set_option maxHeartbeats 2000000
/-! Slices, isinstance, dicts and lists of the store. -/
namespace LB
open PySem PySem.Spec PyProof.Rows L2

/-! ### slices -/
def tXO (P : Pm) (E : XK) (f : SO) : TO := fun σ H Q => ∃ F B A ρ m, SR P F B A m H ∧ EnvR P.K B A m.n σ ρ ∧ (f ρ m).wp (fun o m' => ∀ B' A' H', Le B A m.n B' A' m'.n → SR P F B' A' m' H' → Q o H') (exV P E F B A m.n)
section
variable {X : Cx} {P : Pm} {E : XK} {pos : Pos}
theorem po_imp {e : Option Expr} {t t' : TO} (h : PO X e t) (i : ∀ σ H Q, t' σ H Q → t σ H Q) : PO X e t' := by
  obtain ⟨run⟩ := h
  constructor
  intros
  apply run <;> first | assumption | (apply i; assumption)
theorem xo_none : PO X none (tXO P E soN) := po_imp po_none fun σ H Q ⟨F, B, A, ρ, m, s, e, h⟩ => h B A H Le.refl s
theorem xo_some {e : Expr} {f : SE} (h : PE X e (tX P E f)) : PO X (some e) (tXO P E (soS f)) := by
  refine po_imp (po_some h) fun σ H Q ⟨F, B, A, ρ, m, s, e, h⟩ => ?_
  refine tX_go s e (wp_bind h) fun dx m1 B1 A1 H1 x h1 l1 s1 rx => ?_
  cases dx with
  | int i =>
    cases rx
    exact ⟨i, rfl, h1 B1 A1 H1 l1 s1⟩
  | _ => exact h1.elim
def rSlE (K : PySem.W.Frag) : V → Option Int → Option Int → Hp → VK → Prop := fun x lo hi H Q => rSlA K x lo hi H Q ∨ rSlL K x lo hi H Q
theorem sl_all : SlR X (rSlE X.K) := sl_tupA.or sl_list
theorem sIx_eq (n d : Nat) (o : Option Int) : sIxD n d o = HT.sIx n d o := by
  cases o <;> rfl
theorem cut_rep {K : PySem.W.Frag} {B : Hp} {A : Nat → Addr} {n : Nat} {vs : List V} {ds : List D} (lo hi : Option Int) (r : Reps K B A n vs ds) : Reps K B A n (cutV vs lo hi) (cutD ds lo hi) := by
  unfold cutV cutD
  rw [r.length, ← sIx_eq, ← sIx_eq]
  exact (r.drop _).take _
theorem cut_whole {α : Type} {xs : List α} {lo hi : Option Int} (h : sIxD xs.length 0 lo = 0 ∧ sIxD xs.length xs.length hi = xs.length) : cutD xs lo hi = xs := by
  unfold cutD
  rw [h.1, h.2, List.drop_zero, Nat.sub_zero, List.take_length]
theorem sl_go {F B : Hp} {A : Nat → Addr} {m : Mem} {H : Hp} {x : V} {dx z : D} {lo hi : Option Int} {Q : VK} (s : SR P F B A m H) (r : Rep P.K B A m.n x dx) (h : gSl dx lo hi m = some z)
    (k : ∀ B' H' v, Ex B B' → SR P F B' A m H' → Rep P.K B' A m.n v z → Q v H') : rSlE P.K x lo hi H Q := by
  unfold gSl at h
  split at h
  · cases h
    cases r with
    | tup hq rs =>
      refine .inl ⟨_, _, rfl, s.ex.t hq, fun hw => ?_, fun hw p hp => ?_⟩
      · rw [rs.length, ← sIx_eq, ← sIx_eq] at hw
        rw [cut_whole hw] at k
        exact k B H _ (Ex.refl B) s (.tup hq rs)
      · exact k _ _ _ (s.frozenEx hp) (s.frozen hp) (.tup (SqT.of upd_same) ((cut_rep lo hi rs).mono (Le.base (s.frozenEx hp))))
  · cases hs : lstOf m dx with
    | none => rw [hs] at h; cases h
    | some ys =>
      rw [hs] at h
      cases h
      obtain ⟨a, ws, rfl, ha, rw⟩ := lst_of s r hs
      exact .inr ⟨a, ws, rfl, SqL.of ha, fun p hp => k _ _ _ (s.frozenEx hp) (s.frozen hp) (.lst upd_same ((cut_rep lo hi rw).mono (Le.base (s.frozenEx hp))))⟩
theorem xe_slc {e : Expr} {lo hi : Option Expr} {f : SE} {fl fh : SO} {p2 : Pos} (hK : X.K = P.K) (he : PE X e (tX P E f)) (hl : PO X lo (tXO P E fl)) (hh : PO X hi (tXO P E fh)) : PE X (.Subscript e (.Slice lo hi none p2) pos) (tX P E (slc f fl fh)) := by
  refine pe_imp (pe_slice sl_all he hl hh) fun σ H Q ⟨F, B, A, ρ, m, s, e, h⟩ => ?_
  refine tX_go s e (wp_bind h) fun dx m1 B1 A1 H1 x h1 l1 s1 rx => ?_
  refine ⟨F, B1, A1, ρ, m1, s1, e.mono l1, Rs.wp_mono (wp_le l1 (wp_bind h1)) (fun l m2 h2 B2 A2 H2 l2 s2 => ?_) fun _ _ x => x⟩
  refine ⟨F, B2, A2, ρ, m2, s2, (e.mono l1).mono l2, Rs.wp_mono (wp_le (l1.trans l2) (wp_bind h2)) (fun u m3 h3 B3 A3 H3 l3 s3 => ?_) fun _ _ x => x⟩
  obtain ⟨z, hz, h4⟩ := lift_wp h3
  rw [hK]
  exact sl_go s3 ((rx.mono l2).mono l3) hz fun B' H' v ex s' rv => h4 B' A3 H' v (((l1.trans l2).trans l3).trans (Le.base ex)) s' rv

/-! ### isinstance -/
def tys : List String := ["NoneType", "bool", "int", "str", "tuple", "list"]
def tysT : List String := ["bool", "int", "str", "tuple", "list"]
theorem kit_all : (tys.all fun t => tysT.all fun T => decide (kitB t T = some (t == T || (t == "bool" && T == "int")))) = true := by decide +kernel
theorem kit_at {t T : String} (h1 : t ∈ tys) (h2 : T ∈ tysT) : kitB t T = some (t == T || (t == "bool" && T == "int")) := by
  have h := kit_all
  rw [List.all_eq_true] at h
  have q := h t h1
  rw [List.all_eq_true] at q
  exact of_decide_eq_true (q T h2)
theorem sym_all : (tysT.all fun T => (["int", "str", "tuple", "list"] : List String).all fun t => (t == T || (t == "bool" && T == "int")) == (T == t)) = true := by decide +kernel
theorem sym_at {t T : String} (h1 : t ∈ (["int", "str", "tuple", "list"] : List String)) (h2 : T ∈ tysT) : (t == T || (t == "bool" && T == "int")) = (T == t) := by
  have h := sym_all
  rw [List.all_eq_true] at h
  have q := h T h2
  rw [List.all_eq_true] at q
  exact eq_of_beq (q t h1)
theorem sym_bl : (tysT.all fun T => ("bool" == T || ("bool" == "bool" && T == "int")) == (T == "bool" || T == "int")) = true := by decide +kernel
theorem sym_non : (tysT.all fun T => ("NoneType" == T || ("NoneType" == "bool" && T == "int")) == false) = true := by decide +kernel
theorem ty_of {F B : Hp} {A : Nat → Addr} {m : Mem} {H : Hp} {v : V} {d : D} {T0 : String} {b0 : Bool} (s : SR P F B A m H) (r : Rep P.K B A m.n v d) (h : isTy m T0 d = some b0) :
    ∃ t : String, TyX P.K H v (.type t) ∧ ∀ T ∈ tysT, ∀ b, isTy m T d = some b → kitB t T = some b := by
  cases r with
  | non =>
    refine ⟨"NoneType", .base .non, fun T hT b h => (kit_at (by decide) hT).trans ?_⟩
    cases h
    have q := sym_non
    rw [List.all_eq_true] at q
    rw [eq_of_beq (q T hT)]
  | bl x =>
    refine ⟨"bool", .base (.bl x), fun T hT b h => (kit_at (by decide) hT).trans ?_⟩
    cases h
    have q := sym_bl
    rw [List.all_eq_true] at q
    rw [eq_of_beq (q T hT)]
  | int x => exact ⟨"int", .base (.int x), fun T hT b h => (kit_at (by decide) hT).trans (by cases h; rw [sym_at (by decide) hT])⟩
  | str x => exact ⟨"str", .base (.str x), fun T hT b h => (kit_at (by decide) hT).trans (by cases h; rw [sym_at (by decide) hT])⟩
  | @tup a vs ds hq rs =>
    have e : ∀ T ∈ tysT, ∀ b, isTy m T (.tup ds) = some b → kitB "tuple" T = some b := fun T hT b h => (kit_at (t := "tuple") (by decide) hT).trans (by cases h; rw [sym_at (t := "tuple") (by decide) hT])
    rcases s.ex.t hq with (q | ⟨o, q⟩) | ⟨o, its, n, hk, hc, _⟩
    · exact ⟨"tuple", .base (.tup q), e⟩
    · exact ⟨"tuple", .fTuple q, e⟩
    · exact ⟨"tuple", .kTuple hk hc, e⟩
  | lst hb rs => exact ⟨"list", .base (.lst (s.ex _ _ hb)), fun T hT b h => (kit_at (by decide) hT).trans (by cases h; rw [sym_at (by decide) hT])⟩
  | loc hj ea =>
    subst ea
    unfold isTy at h
    simp only [if_pos hj] at h
    split at h
    · rename_i xs hg
      obtain ⟨_, ro⟩ := s.at_ _ _ hj hg
      cases ro with
      | lst h1 h2 => exact ⟨"list", .base (.lst h1), fun T hT b h => (kit_at (by decide) hT).trans (by
          unfold isTy at h
          simp only [if_pos hj, hg] at h
          cases h
          rw [sym_at (by decide) hT])⟩
    · cases h
  | ref => cases h
  | scr _ => cases h
variable {e : Expr} {f : SE} {p p1 p2 p3 : Pos}
theorem xe_isi {T : Str} {Tn : String} (hK : X.K = P.K) (hT : Tn ∈ tysT) (hg : Gl X "isinstance") (hm : X.mg "isinstance" = none) (hgT : Gl X T) (hmT : X.mg T = none) (hvT : bootBuiltins T = some (.type Tn)) (he : PE X e (tX P E f))
    (hb1 : bootBuiltins "isinstance" = some (.builtin "isinstance") := by decide +kernel) (hn : T ≠ "__name__" := by decide) (hd : (T == ("__debug__" : Str)) = false := by decide)
    (hs : starEach [e, .Name T p1] X.env = (false, eval e X.env) :: starEach [.Name T p1] X.env := by rfl) (hs2 : starEach [.Name T p1] X.env = (false, eval (.Name T p1) X.env) :: starEach [] X.env := by rfl)
    (hpl : (backTo pos (starEach [.Name T p1] X.env)).any (·.1) = false := by rfl) :
    PE X (.Call (.Name "isinstance" p) [e, .Name T p1] [] pos) (tX P E (op1 (gIsi Tn) f)) := by
  refine pe_imp (pe_callB call_isi hg hm hb1 (pa_cons he (pa_cons (pe_bltn (v := .ty Tn) hgT hmT hvT rfl hn hd) pa_nil hs2) hs) (he := hs) (hpl := hpl)) fun σ H Q h => ?_
  refine op1_imp (r := fun x H Q => rIsi X.K [x, .ty Tn] H Q) ?_ h
  intro F B A m H x dx z Q s rx hz k
  unfold gIsi at hz
  cases hb : isTy m Tn dx with
  | none => rw [hb] at hz; cases hz
  | some b =>
    rw [hb] at hz
    cases hz
    obtain ⟨t, ht, hk⟩ := ty_of s rx hb
    exact ⟨x, .ty Tn, .type t, .type Tn, b, rfl, .ty _, by rw [hK]; exact ht, kit_ty (hk Tn hT b hb), k B H _ (Ex.refl B) s (.bl b)⟩
theorem xe_isi2 {T U : Str} {Tn Un : String} {x1 : Nat} (hK : X.K = P.K) (hT : Tn ∈ tysT) (hU : Un ∈ tysT) (hg : Gl X "isinstance") (hm : X.mg "isinstance" = none) (hgT : Gl X T) (hmT : X.mg T = none) (hvT : bootBuiltins T = some (.type Tn)) (hgU : Gl X U) (hmU : X.mg U = none) (hvU : bootBuiltins U = some (.type Un)) (he : PE X e (tX P E f))
    (hb1 : bootBuiltins "isinstance" = some (.builtin "isinstance") := by decide +kernel) (hn : T ≠ "__name__" := by decide) (hd : (T == ("__debug__" : Str)) = false := by decide) (hnU : U ≠ "__name__" := by decide) (hdU : (U == ("__debug__" : Str)) = false := by decide)
    (hs : starEach [e, .Tuple [.Name T p1, .Name U p2] x1 p3] X.env = (false, eval e X.env) :: starEach [.Tuple [.Name T p1, .Name U p2] x1 p3] X.env := by rfl)
    (hs2 : starEach [.Tuple [.Name T p1, .Name U p2] x1 p3] X.env = (false, eval (.Tuple [.Name T p1, .Name U p2] x1 p3) X.env) :: starEach [] X.env := by rfl)
    (hs3 : starEach [.Name T p1, .Name U p2] X.env = (false, eval (.Name T p1) X.env) :: starEach [.Name U p2] X.env := by rfl)
    (hs4 : starEach [.Name U p2] X.env = (false, eval (.Name U p2) X.env) :: starEach [] X.env := by rfl)
    (hpl : (backTo pos (starEach [.Tuple [.Name T p1, .Name U p2] x1 p3] X.env)).any (·.1) = false := by rfl) :
    PE X (.Call (.Name "isinstance" p) [e, .Tuple [.Name T p1, .Name U p2] x1 p3] [] pos) (tX P E (op1 (gIsi2 Tn Un) f)) := by
  refine pe_imp (pe_callB call_isiT hg hm hb1 (pa_cons he (pa_cons (pe_tup (pa_cons (pe_bltn (v := .ty Tn) hgT hmT hvT rfl hn hd) (pa_cons (pe_bltn (v := .ty Un) hgU hmU hvU rfl hnU hdU) pa_nil hs4) hs3)) pa_nil hs2) hs) (he := hs) (hpl := hpl)) fun σ H Q h => ?_
  refine op1_imp (r := fun x H Q => (2 ≤ sizeLine ∧ ∀ p, H p = none → rIsiT X.K [x, .ref p] (upd H p (.tup [.ty Tn, .ty Un])) Q)) ?_ h
  intro F B A m H x dx z Q s rx hz k
  unfold gIsi2 at hz
  split at hz
  · rename_i a b ha hb
    cases hz
    refine ⟨by decide, fun p hp => ?_⟩
    have s2 := s.frozen (o := .tup [.ty Tn, .ty Un]) hp
    have rx2 := rx.mono (Le.base (A := A) (n := m.n) (s.frozenEx (o := .tup [.ty Tn, .ty Un]) hp))
    obtain ⟨t, ht, hk⟩ := ty_of s2 rx2 ha
    refine ⟨x, p, [.ty Tn, .ty Un], .type t, [.type Tn, .type Un], (a || b), rfl, upd_same, .cons (.ty _) (.cons (.ty _) .nil), by rw [hK]; exact ht, ?_, k _ _ _ (s.frozenEx hp) s2 (.bl _)⟩
    unfold PySem.W.kitAny
    rw [kit_ty (hk Tn hT a ha)]
    cases a with
    | true => rfl
    | false =>
      unfold PySem.W.kitAny
      rw [kit_ty (hk Un hU b hb)]
      cases b <;> rfl
  · cases hz

/-! ### dicts of the store -/
theorem dct_of {F B : Hp} {A : Nat → Addr} {m : Mem} {H : Hp} {v : V} {d : D} {kds : List (KeyS × D)} (s : SR P F B A m H) (r : Rep P.K B A m.n v d) (h : dctOf m d = some kds) :
    ∃ k kvs, d = .loc k ∧ k < m.n ∧ m.get k = some (.dct kds) ∧ v = .ref (A k) ∧ H (A k) = some (.dK kvs) ∧ Paired (fun (p : Key × V) (q : Key × D) => p.1 = q.1 ∧ Rep P.K B A m.n p.2 q.2) kvs kds := by
  cases r with
  | loc hk ea =>
    subst ea
    unfold dctOf at h
    simp only [if_pos hk] at h
    split at h
    · rename_i xs hg
      cases h
      obtain ⟨_, ro⟩ := s.at_ _ _ hk hg
      cases ro with
      | dct h1 h2 => exact ⟨_, _, rfl, hk, hg, rfl, h1, h2⟩
    · cases h
  | _ => cases h
theorem key_of {B : Hp} {A : Nat → Addr} {n : Nat} {v : V} {d : D} {k : KeyS} (r : Rep P.K B A n v d) (h : keyOf d = some k) : v = L2.kV k := by
  cases r with
  | int i => cases h; rfl
  | str x => cases h; rfl
  | _ => cases h
theorem val_rep {B : Hp} {A : Nat → Addr} {n : Nat} {k : KeyS} : ∀ {kvs : List (Key × V)} {kds : List (KeyS × D)}, Paired (fun (p : Key × V) (q : Key × D) => p.1 = q.1 ∧ Rep P.K B A n p.2 q.2) kvs kds →
    (∃ v d, L2.valV kvs k = some v ∧ valK kds k = some d ∧ Rep P.K B A n v d) ∨ (L2.valV kvs k = none ∧ valK kds k = none)
  | _, _, .nil => .inr ⟨rfl, rfl⟩
  | (k1, v) :: kvs, (k2, d) :: kds, .cons r t => by
    have e : k1 = k2 := r.1
    subst e
    by_cases h : k1 = k
    · refine .inl ⟨v, d, ?_, ?_, r.2⟩
      · unfold L2.valV; simp [List.find?_cons, h]
      · unfold valK; simp [List.find?_cons, h]
    · have e1 : L2.valV ((k1, v) :: kvs) k = L2.valV kvs k := by unfold L2.valV; simp [List.find?_cons, h]
      have e2 : valK ((k1, d) :: kds) k = valK kds k := by unfold valK; simp [List.find?_cons, h]
      rw [e1, e2]
      exact val_rep t
theorem put_rep {B : Hp} {A : Nat → Addr} {n : Nat} {k : KeyS} {v : V} {d : D} {kvs : List (Key × V)} {kds : List (KeyS × D)} (h : Paired (fun (p : Key × V) (q : Key × D) => p.1 = q.1 ∧ Rep P.K B A n p.2 q.2) kvs kds) (r : Rep P.K B A n v d) :
    Paired (fun (p : Key × V) (q : Key × D) => p.1 = q.1 ∧ Rep P.K B A n p.2 q.2) (L2.putK kvs k v) (putKD kds k d) := by
  have e : ∀ {kvs : List (Key × V)} {kds : List (KeyS × D)}, Paired (fun (p : Key × V) (q : Key × D) => p.1 = q.1 ∧ Rep P.K B A n p.2 q.2) kvs kds → (kvs.any fun kv => decide (kv.1 = k)) = kds.any fun kv => decide (kv.1 = k) := by
    intro kvs kds h
    induction h with
    | nil => rfl
    | cons r t ih => rw [List.any_cons, List.any_cons, ih, r.1]
  unfold L2.putK putKD
  rw [e h]
  split
  · clear e
    rename_i hx
    clear hx
    induction h with
    | nil => exact .nil
    | @cons p q ps qs r' t ih =>
      rw [List.map_cons, List.map_cons]
      refine .cons ?_ ih
      by_cases hk : p.1 = k
      · rw [if_pos hk, if_pos (by rw [← r'.1]; exact hk)]
        exact ⟨r'.1, r⟩
      · rw [if_neg hk, if_neg (by rw [← r'.1]; exact hk)]
        exact r'
  · have app : ∀ {xs : List (Key × V)} {ys : List (KeyS × D)}, Paired (fun (p : Key × V) (q : Key × D) => p.1 = q.1 ∧ Rep P.K B A n p.2 q.2) xs ys → Paired (fun (p : Key × V) (q : Key × D) => p.1 = q.1 ∧ Rep P.K B A n p.2 q.2) (xs ++ [(k, v)]) (ys ++ [(k, d)]) := by
      intro xs ys h
      induction h with
      | nil => exact .cons ⟨rfl, r⟩ .nil
      | cons r' _ ih => exact .cons r' ih
    exact app h
variable {a b c : Expr} {fa fb fc : SE}
theorem xe_dget {k : Nat} (hr : Room k X.A) (ha : PE X a (tX P E fa)) (hb : PE X b (tX P E fb)) (hs : NoSl b := by intro _ _; rfl) : PE X (.Subscript a b pos) (tX P E (op2 gDget fa fb)) := by
  refine pe_imp (pe_dget (hu_of hr) ha hb hs) fun σ H Q ⟨F, B, A, ρ, m, s, e, h⟩ => ?_
  refine tX_go s e (wp_bind h) fun dx m1 B1 A1 H1 x h1 l1 s1 rx => ?_
  refine tX_go s1 (e.mono l1) (wp_le l1 (wp_bind h1)) fun dy m2 B2 A2 H2 y h2 l2 s2 ry => ?_
  obtain ⟨z, hz, h3⟩ := lift_wp h2
  unfold gDget at hz
  cases hd : dctOf m2 dx with
  | none => rw [hd] at hz; cases hz
  | some kds =>
    cases hk : keyOf dy with
    | none => simp only [hd, hk, Option.bind_some, Option.bind_none] at hz; cases hz
    | some ky =>
      simp only [hd, hk, Option.bind_some] at hz
      obtain ⟨j, kvs, _, _, _, ev, hH, pr⟩ := dct_of s2 (rx.mono l2) hd
      subst ev
      have ey := key_of ry hk
      subst ey
      rcases val_rep (k := ky) pr with ⟨v, d, h4, h5, h6⟩ | ⟨_, h5⟩
      · rw [h5] at hz
        cases hz
        exact ⟨A2 j, v, rfl, by rw [← h4]; exact DGet.k hH, h3 B2 A2 H2 v (l1.trans l2) s2 h6⟩
      · rw [h5] at hz
        cases hz
theorem din_imp {neg : Bool} {σ : L2.St} {H : Hp} {Q : VK} {g : O2} (hg : ∀ dk dd m z, g dk dd m = some z → ∃ kds ky, dctOf m dd = some kds ∧ keyOf dk = some ky ∧ z = .bl (if neg then !(valK kds ky).isSome else (valK kds ky).isSome)) (h : tX P E (op2 g fa fb) σ H Q) :
    tX P E fa σ H fun y H1 => tX P E fb σ H1 fun x H2 => ∃ a o, x = V.ref a ∧ DGet H2 a y o ∧ Q (.bl (if neg then !o.isSome else o.isSome)) H2 := by
  obtain ⟨F, B, A, ρ, m, s, e, h⟩ := h
  refine tX_go s e (wp_bind h) fun dx m1 B1 A1 H1 x h1 l1 s1 rx => ?_
  refine tX_go s1 (e.mono l1) (wp_le l1 (wp_bind h1)) fun dy m2 B2 A2 H2 y h2 l2 s2 ry => ?_
  obtain ⟨z, hz, h3⟩ := lift_wp h2
  obtain ⟨kds, ky, hd, hk, rfl⟩ := hg _ _ _ _ hz
  obtain ⟨j, kvs, _, _, _, ev, hH, pr⟩ := dct_of s2 ry hd
  subst ev
  have ey := key_of (rx.mono l2) hk
  subst ey
  refine ⟨A2 j, L2.valV kvs ky, rfl, DGet.k hH, ?_⟩
  have e : (L2.valV kvs ky).isSome = (valK kds ky).isSome := by
    rcases val_rep (k := ky) pr with ⟨v, d, h4, h5, h6⟩ | ⟨h4, h5⟩
    · rw [h4, h5]; rfl
    · rw [h4, h5]; rfl
  rw [e]
  exact h3 B2 A2 H2 _ (l1.trans l2) s2 (.bl _)
theorem din_g : ∀ dk dd m z, gDin dk dd m = some z → ∃ kds ky, dctOf m dd = some kds ∧ keyOf dk = some ky ∧ z = .bl (if false = true then !(valK kds ky).isSome else (valK kds ky).isSome) := by
  intro dk dd m z h
  unfold gDin at h
  cases hd : dctOf m dd with
  | none => rw [hd] at h; cases h
  | some kds =>
    cases hk : keyOf dk with
    | none => simp only [hd, hk, Option.bind_some, Option.map_none] at h; cases h
    | some ky =>
      simp only [hd, hk, Option.bind_some, Option.map_some, Option.some.injEq] at h
      exact ⟨kds, ky, rfl, rfl, by rw [← h]; rfl⟩
theorem dnotin_g : ∀ dk dd m z, gDnotin dk dd m = some z → ∃ kds ky, dctOf m dd = some kds ∧ keyOf dk = some ky ∧ z = .bl (if true = true then !(valK kds ky).isSome else (valK kds ky).isSome) := by
  intro dk dd m z h
  unfold gDnotin at h
  cases hd : dctOf m dd with
  | none => rw [hd] at h; cases h
  | some kds =>
    cases hk : keyOf dk with
    | none => simp only [hd, hk, Option.bind_some, Option.map_none] at h; cases h
    | some ky =>
      simp only [hd, hk, Option.bind_some, Option.map_some, Option.some.injEq] at h
      exact ⟨kds, ky, rfl, rfl, by rw [← h]; rfl⟩
theorem xt_din {k : Nat} (hr : Room k X.A) (ha : PE X a (tX P E fa)) (hb : PE X b (tX P E fb)) (hm : behindInMarks .In b = false := by rfl) : PT X (.Compare a [.In] [b] pos) (tXT P E (tV (op2 gDin fa fb))) :=
  pt_imp (pt_cmp (pc_din (hu_of hr) ha hb) hm) fun σ H Q h => din_imp (neg := false) din_g (tV_imp h)
theorem xt_dnotin {k : Nat} (hr : Room k X.A) (ha : PE X a (tX P E fa)) (hb : PE X b (tX P E fb)) (hm : behindInMarks .NotIn b = false := by rfl) : PT X (.Compare a [.NotIn] [b] pos) (tXT P E (tV (op2 gDnotin fa fb))) :=
  pt_imp (pt_cmp (pc_dnotin (hu_of hr) ha hb) hm) fun σ H Q h => din_imp (neg := true) dnotin_g (tV_imp h)
theorem xe_dget2 {k : Nat} {apos : Pos} (hr : Room k X.A) (ha : PE X a (tX P E fa)) (hb : PE X b (tX P E fb)) (hc : PE X c (tX P E fc)) (m : M2 X a "get" apos b c pos := by exact ⟨rfl, rfl, rfl, rfl⟩) : PE X (.Call (.Attribute a "get" apos) [b, c] [] pos) (tX P E (dget2 fa fb fc)) := by
  refine pe_imp (pe_dget2 (hu_of hr) ha hb hc m) fun σ H Q ⟨F, B, A, ρ, m, s, e, h⟩ => ?_
  refine tX_go s e (wp_bind h) fun dd m1 B1 A1 H1 x h1 l1 s1 rd => ?_
  have h1' := wp_bind h1
  by_cases hi : isDct m1 dd = true
  · simp only [if_pos hi] at h1'
    obtain ⟨kds, hd⟩ := Option.isSome_iff_exists.mp hi
    obtain ⟨j, kvs, ed, hj, hgj, ev, hH, pr⟩ := dct_of s1 rd hd
    subst ev
    refine ⟨A1 j, rfl, .inl ⟨kvs, .inl hH⟩, ?_⟩
    refine tX_go s1 (e.mono l1) (wp_le l1 (wp_bind h1')) fun dk m2 B2 A2 H2 y h2 l2 s2 rk => ?_
    refine tX_go s2 ((e.mono l1).mono l2) (wp_le (l1.trans l2) (wp_bind h2)) fun dx m3 B3 A3 H3 z h3 l3 s3 rx => ?_
    obtain ⟨w, hw, h4⟩ := lift_wp h3
    cases hd3 : dctOf m3 dd with
    | none => rw [hd3] at hw; cases hw
    | some kds3 =>
      cases hk : keyOf dk with
      | none => simp only [hd3, hk, Option.bind_some, Option.map_none] at hw; cases hw
      | some ky =>
        simp only [hd3, hk, Option.bind_some, Option.map_some, Option.some.injEq] at hw
        subst hw
        obtain ⟨j3, kvs3, ed3, _, _, ev3, hH3, pr3⟩ := dct_of s3 ((rd.mono l2).mono l3) hd3
        have ey := key_of (rk.mono l3) hk
        subst ey
        have ea : A3 j3 = A1 j := (V.ref.inj ev3).symm
        rw [ea] at hH3
        refine ⟨L2.valV kvs3 ky, DGet.k hH3, ?_⟩
        have l := (l1.trans l2).trans l3
        rcases val_rep (k := ky) pr3 with ⟨v, d, h5, h6, h7⟩ | ⟨h5, h6⟩
        · rw [h5]
          rw [h6] at h4
          exact h4 B3 A3 H3 v l s3 h7
        · rw [h5]
          rw [h6] at h4
          exact h4 B3 A3 H3 z l s3 rx
  · simp only [if_neg hi] at h1'
    exact h1'.elim
/-! a display -/
theorem SR.newAt {F B : Hp} {A : Nat → Addr} {m : Mem} {H : Hp} {q : Addr} {o u : HO} {mo : MO} (s : SR P (upd F q o) B A m H) (hF : F q = none) (r : RepO P B (cons1 A m.n q) (m.n + 1) (upd H q u) q mo) : SR P F B (cons1 A m.n q) (m.new mo) (upd H q u) := by
  obtain ⟨h1, hb, live⟩ := s.fr q _ upd_same
  have get : ∀ i, i ≠ m.n → (m.new mo).get i = m.get i := fun i hi => by
    show (if i = m.n then some mo else m.get i) = m.get i
    rw [if_neg hi]
  have get0 : (m.new mo).get m.n = some mo := by
    show (if m.n = m.n then some mo else m.get m.n) = _
    rw [if_pos rfl]
  have lt : ∀ i, i < (m.new mo).n → i ≠ m.n → i < m.n := fun i hi h => by
    have : i < m.n + 1 := hi
    omega
  refine ⟨s.ex.mut hb, fun a w e => ?_, fun k w hk hw => ?_, fun j k w x hj hk hw hx e => ?_⟩
  · have ne : a ≠ q := ne_of_none e hF
    obtain ⟨k1, k2, k3⟩ := s.fr a w (by rw [upd_ne ne]; exact e)
    refine ⟨by rw [upd_ne ne]; exact k1, k2, fun k x hk hx => ?_⟩
    by_cases ek : k = m.n
    · rw [ek, cons1_at]
      exact Ne.symm ne
    · rw [cons1_ne (lt k hk ek)]
      exact k3 k x (lt k hk ek) (by rw [← get k ek]; exact hx)
  · by_cases ek : k = m.n
    · rw [ek, get0] at hw
      cases hw
      rw [ek, cons1_at]
      exact ⟨hb, r⟩
    · rw [get k ek] at hw
      rw [cons1_ne (lt k hk ek)]
      obtain ⟨k1, k2⟩ := s.at_ k w (lt k hk ek) hw
      exact ⟨k1, k2.mono (s.leNew q mo) fun x hx => by rw [upd_ne (live k w (lt k hk ek) hw)]; exact hx⟩
  · by_cases ej : j = m.n
    · by_cases ek : k = m.n
      · rw [ej, ek]
      · rw [get k ek] at hx
        rw [ej, cons1_at, cons1_ne (lt k hk ek)] at e
        exact absurd e.symm (live k x (lt k hk ek) hx)
    · rw [get j ej] at hw
      by_cases ek : k = m.n
      · rw [ek, cons1_at, cons1_ne (lt j hj ej)] at e
        exact absurd e (live j w (lt j hj ej) hw)
      · rw [get k ek] at hx
        rw [cons1_ne (lt j hj ej), cons1_ne (lt k hk ek)] at e
        exact s.inj j k w x (lt j hj ej) (lt k hk ek) hw hx e
def rdP (P : Pm) (E : XK) (ps : List (SE × SE)) : List (TE × TE) := ps.map fun p => (tX P E p.1, tX P E p.2)
def RepP (K : PySem.W.Frag) (B : Hp) (A : Nat → Addr) (n : Nat) : List (V × V) → List (D × D) → Prop := Paired fun (p : V × V) (q : D × D) => Rep K B A n p.1 q.1 ∧ Rep K B A n p.2 q.2
theorem pairs_go : ∀ {ps : List (SE × SE)} {σ : L2.St} {H : Hp} {Q : List (V × V) → Hp → Prop} {F B : Hp} {A : Nat → Addr} {ρ : Ev} {m : Mem} {q : List (D × D) → Mem → Prop}, SR P F B A m H → EnvR P.K B A m.n σ ρ → (prE ps ρ m).wp q (exV P E F B A m.n) →
    (∀ ds m1 B1 A1 H1 vs, q ds m1 → Le B A m.n B1 A1 m1.n → SR P F B1 A1 m1 H1 → RepP P.K B1 A1 m1.n vs ds → Q vs H1) → tPairs (rdP P E ps) σ H Q
  | [], σ, H, Q, F, B, A, ρ, m, q, s, e, h, k => k [] m B A H [] h Le.refl s .nil
  | (fk, fv) :: ps, σ, H, Q, F, B, A, ρ, m, q, s, e, h, k => by
    unfold prE at h
    refine tX_go s e (wp_bind h) fun dk m1 B1 A1 H1 x h1 l1 s1 rk => ?_
    refine tX_go s1 (e.mono l1) (wp_le l1 (wp_bind h1)) fun dv m2 B2 A2 H2 y h2 l2 s2 rv => ?_
    refine pairs_go s2 ((e.mono l1).mono l2) (wp_le (l1.trans l2) (wp_bind h2)) fun ds m3 B3 A3 H3 vs h3 l3 s3 rs => ?_
    exact k _ m3 B3 A3 H3 _ h3 ((l1.trans l2).trans l3) s3 (.cons ⟨(rk.mono l2).mono l3, rv.mono l3⟩ rs)
theorem keys_of {B : Hp} {A : Nat → Addr} {n : Nat} : ∀ {vs : List (V × V)} {ds : List (D × D)} {kds : List (KeyS × D)}, RepP P.K B A n vs ds → keysOf ds = some kds →
    ∃ kvs : List (Key × V), vs = kvs.map (fun kv => (L2.kV kv.1, kv.2)) ∧ Paired (fun (p : Key × V) (q : Key × D) => p.1 = q.1 ∧ Rep P.K B A n p.2 q.2) kvs kds
  | _, _, kds, .nil, h => by
    cases h
    exact ⟨[], rfl, .nil⟩
  | (x, y) :: vs, (dk, dv) :: ds, kds, .cons r t, h => by
    unfold keysOf at h
    split at h
    · rename_i ky kr h1 h2
      cases h
      obtain ⟨kvs, e, pr⟩ := keys_of t h2
      have e1 : x = L2.kV ky := key_of r.1 h1
      refine ⟨(ky, y) :: kvs, by rw [List.map_cons, e, e1], .cons ⟨rfl, r.2⟩ pr⟩
    · cases h
theorem merge_rep {B : Hp} {A : Nat → Addr} {n : Nat} : ∀ {more : List (Key × V)} {mds : List (KeyS × D)} {kvs : List (Key × V)} {kds : List (KeyS × D)}, Paired (fun (p : Key × V) (q : Key × D) => p.1 = q.1 ∧ Rep P.K B A n p.2 q.2) more mds →
    Paired (fun (p : Key × V) (q : Key × D) => p.1 = q.1 ∧ Rep P.K B A n p.2 q.2) kvs kds → Paired (fun (p : Key × V) (q : Key × D) => p.1 = q.1 ∧ Rep P.K B A n p.2 q.2) (mergeK kvs more) (mergeD kds mds)
  | _, _, kvs, kds, .nil, h => h
  | p :: more, q :: mds, kvs, kds, .cons r t, h => by
    show Paired _ (mergeK (L2.putK kvs p.1 p.2) more) (mergeD (putKD kds q.1 q.2) mds)
    rw [r.1]
    exact merge_rep t (put_rep h r.2)
theorem xe_dsp {keys : List (Option Expr)} {values : List Expr} {ps : List (SE × SE)} (h : PPs X pos keys values (rdP P E ps)) (hall : keys.all (·.isSome) = true := by rfl) (hl : keys.length = values.length := by rfl) (h0 : keys ≠ [] := by exact fun z => nomatch z)
    (h15 : keys.length ≤ 15 := by decide) : PE X (.Dict keys values pos) (tX P E (dspE ps)) := by
  refine pe_imp (pe_disp h hall hl h0 h15) fun σ H Q ⟨F, B, A, ρ, m, s, e, h⟩ => ?_
  intro q hq
  have hF : F q = none := by
    cases hf : F q with
    | none => rfl
    | some o =>
      have := (s.fr q o hf).1
      rw [hq] at this
      cases this
  have sF : SR P (upd F q (.dK [])) B A m (upd H q (.dK [])) := s.frame hq
  have h0 : (prE ps ρ m).wp (fun xs m1 => (dspK xs m1).wp (okD P F B A m.n Q) (exV P E F B A m.n)) (exV P E (upd F q (.dK [])) B A m.n) := by
    refine Rs.wp_mono (wp_bind h) (fun _ _ x => x) fun e m' x B' A' H' c dd l s' rx => x B' A' H' c dd l (s'.unframe hF) rx
  refine pairs_go sF e h0 fun ds m1 B1 A1 H1 vs h1 l1 s1 rs => ?_
  unfold dspK at h1
  split at h1
  · rename_i kds hk
    obtain ⟨kvs, ev, pr⟩ := keys_of rs hk
    split at h1
    · rename_i hlen
      refine ⟨(s1.fr q _ upd_same).1, kvs, ev, by rw [Paired.length pr]; exact hlen, ?_⟩
      have l2 : Le B1 A1 m1.n B1 (cons1 A1 m1.n q) (m1.n + 1) := s1.leNew q (.dct (mergeD [] kds))
      have r : RepO P B1 (cons1 A1 m1.n q) (m1.n + 1) (upd H1 q (.dK (mergeK [] kvs))) q (.dct (mergeD [] kds)) := .dct upd_same (L2.Paired.mapP (merge_rep pr .nil) fun _ _ z => ⟨z.1, z.2.mono l2⟩)
      exact h1 B1 _ _ (.ref q) (l1.trans l2) (s1.newAt hF r) (.loc (Nat.lt_succ_self _) cons1_at)
    · exact h1.elim
  · exact h1.elim
theorem xp_nil : PPs X pos [] [] (rdP P E []) := pps_nil
theorem xp_cons {k v : Expr} {ks : List (Option Expr)} {vs : List Expr} {fk fv : SE} {ps : List (SE × SE)} (hk : PE X k (tX P E fk)) (hv : PE X v (tX P E fv)) (hr : PPs X pos ks vs (rdP P E ps)) : PPs X pos (some k :: ks) (v :: vs) (rdP P E ((fk, fv) :: ps)) := pps_cons hk hv hr
/-- {} -/
theorem xe_dct : PE X (.Dict [] [] pos) (tX P E dctE) := by
  refine pe_imp pe_dnewK fun σ H Q ⟨F, B, A, ρ, m, s, e, h⟩ => ?_
  intro q hq
  exact h B (cons1 A m.n q) _ (.ref q) (s.leNew q (.dct [])) (s.new hq (.dct upd_same .nil)) (.loc (Nat.lt_succ_self _) cons1_at)
theorem xs_dput {k : Nat} {pos' : Pos} {o i value : Expr} {fo fi fv : SE} (hr : Room k X.A) (ho : PE X o (tX P E fo)) (hi : PE X i (tX P E fi)) (hv : PE X value (tX P E fv)) (hs : swapsWith value (some (.Subscript o i pos')) pos.line X.env = pure false := by rfl) :
    PS X (.Assign [.Subscript o i pos'] value pos) (tXS P E (sDput fo fi fv)) := by
  refine ps_imp (ps_dput (hu_of hr) ho hi hv hs) fun D σ H ⟨F, B, A, ρ, m, s, e, h⟩ => ?_
  refine tX_go s e (wp_bind h) fun dv m1 B1 A1 H1 v h1 l1 s1 rv => ?_
  refine tX_go s1 (e.mono l1) (wp_le l1 (wp_bind h1)) fun dd m2 B2 A2 H2 x h2 l2 s2 rd => ?_
  refine tX_go s2 ((e.mono l1).mono l2) (wp_le (l1.trans l2) (wp_bind h2)) fun dk m3 B3 A3 H3 y h3 l3 s3 rk => ?_
  split at h3
  · rename_i j ky hk
    split at h3
    · rename_i hj
      split at h3
      · rename_i kds hg
        split at h3
        · rename_i hl
          have rd3 := rd.mono l3
          cases rd3 with
          | loc _ ea =>
            subst ea
            obtain ⟨_, ro⟩ := s3.at_ _ _ hj hg
            cases ro with
            | @dct kvs _ hH pr =>
              have ey := key_of rk hk
              subst ey
              refine ⟨A3 j, _, rfl, DPut.k hH (by rw [Paired.length pr]; exact hl), ?_⟩
              have rv3 := (rv.mono l2).mono l3
              have s4 := s3.put (o' := .dct (putKD kds ky dv)) hj hg (.dct upd_same (put_rep pr rv3))
              exact h3 B3 A3 _ σ ((l1.trans l2).trans l3) s4 (((e.mono l1).mono l2).mono l3)
        · exact h3.elim
      · exact h3.elim
    · exact h3.elim
  · exact h3.elim

/-! ### lists of the store -/
theorem updL_wp {d : D} {f : List D → Option (List D)} {m : Mem} {q : Unit → Mem → Prop} {e : Er → Mem → Prop} (h : (updL d f m).wp q e) : ∃ j xs ys, d = .loc j ∧ j < m.n ∧ m.get j = some (.lst xs) ∧ f xs = some ys ∧ q () (m.put j (.lst ys)) := by
  unfold updL at h
  split at h
  · rename_i j
    split at h
    · rename_i hj
      split at h
      · rename_i xs hg
        split at h
        · rename_i ys hf
          exact ⟨j, xs, ys, rfl, hj, hg, hf, h⟩
        · exact h.elim
      · exact h.elim
    · exact h.elim
  · exact h.elim
theorem cell_lst {F B : Hp} {A : Nat → Addr} {m : Mem} {H : Hp} {j : Nat} {xs : List D} (s : SR P F B A m H) (hj : j < m.n) (hg : m.get j = some (.lst xs)) : ∃ vs, H (A j) = some (.lst vs) ∧ Reps P.K B A m.n vs xs := by
  obtain ⟨_, ro⟩ := s.at_ _ _ hj hg
  cases ro with
  | lst h1 h2 => exact ⟨_, h1, h2⟩
theorem chk_ty {F B : Hp} {A : Nat → Addr} {m : Mem} {H : Hp} {x : V} {d : D} {q : Unit → Mem → Prop} {e : Er → Mem → Prop} (s : SR P F B A m H) (r : Rep P.K B A m.n x d) (h : (chkL d m).wp q e) : tyV P.K "list" x H ∧ q () m := by
  unfold chkL at h
  split at h
  · rename_i hl
    obtain ⟨xs, hx⟩ := Option.isSome_iff_exists.mp hl
    obtain ⟨a, vs, rfl, ha, _⟩ := lst_of s r hx
    exact ⟨.inl ⟨rfl, vs, SqL.of ha⟩, h⟩
  · exact h.elim
theorem xe_app {o : Expr} {fo fe : SE} {ee : Expr} {apos : Pos} (ho : PE X o (tX P E fo)) (he : PE X ee (tX P E fe)) (hK : X.K = P.K)
    (hbase : attributeBase o "append" X.env (eval o X.env) = eval o X.env := by rfl)
    (hfew : ((backTo pos (starEach (ee :: []) X.env)).all (fun x => !x.1) && (backToKw pos (keywordEach [] X.env)).all (fun x => x.1.isSome) && decide ((ee :: []).length + ([] : List Keyword).length + (if ([] : List Keyword).isEmpty then 0 else 1) < 30)) = true := by rfl)
    (hline : (apos.endLine == pos.line) = true := by rfl) (hs : starEach (ee :: []) X.env = (false, eval ee X.env) :: starEach [] X.env := by rfl) (hplain : (backTo pos (starEach [] X.env)).any (·.1) = false := by rfl) :
    PE X (.Call (.Attribute o "append" apos) [ee] [] pos) (tX P E (appE fo fe)) := by
  refine pe_imp (pe_bm PySem.F.plainAttrs_list PySem.F.slot_list_append PySem.F.type_list_append mt_append ho (pa_cons he pa_nil hs) hbase hfew hline hs hplain) fun σ H Q ⟨F, B, A, ρ, m, s, e, h⟩ => ?_
  refine tX_go s e (wp_bind h) fun ld m1 B1 A1 H1 x h1 l1 s1 rl => ?_
  obtain ⟨ht, h1⟩ := chk_ty s1 rl (wp_bind h1)
  refine ⟨by rw [hK]; exact ht, ?_⟩
  refine tX_go s1 (e.mono l1) (wp_le l1 (wp_bind h1)) fun ed m2 B2 A2 H2 y h2 l2 s2 re => ?_
  obtain ⟨j, xs, ys, ej, hj, hg, hf, h3⟩ := updL_wp (wp_bind h2)
  subst ej
  split at hf
  · rename_i hl
    cases hf
    obtain ⟨vs, hv, rs⟩ := cell_lst s2 hj hg
    have rl2 := rl.mono l2
    cases rl2 with
    | loc _ ea =>
      subst ea
      refine ⟨A2 j, vs, y, rfl, rfl, hv, by rw [rs.length]; exact hl, ?_⟩
      have s3 := s2.put (o' := .lst (xs ++ [ed])) hj hg (.lst upd_same (rs.append (.cons re .nil)))
      exact h3 B2 A2 _ .non (l1.trans l2) s3 .non
  · cases hf
theorem xe_ext {o : Expr} {fo fe : SE} {ee : Expr} {apos : Pos} (ho : PE X o (tX P E fo)) (he : PE X ee (tX P E fe)) (hK : X.K = P.K)
    (hbase : attributeBase o "extend" X.env (eval o X.env) = eval o X.env := by rfl)
    (hfew : ((backTo pos (starEach (ee :: []) X.env)).all (fun x => !x.1) && (backToKw pos (keywordEach [] X.env)).all (fun x => x.1.isSome) && decide ((ee :: []).length + ([] : List Keyword).length + (if ([] : List Keyword).isEmpty then 0 else 1) < 30)) = true := by rfl)
    (hline : (apos.endLine == pos.line) = true := by rfl) (hs : starEach (ee :: []) X.env = (false, eval ee X.env) :: starEach [] X.env := by rfl) (hplain : (backTo pos (starEach [] X.env)).any (·.1) = false := by rfl) :
    PE X (.Call (.Attribute o "extend" apos) [ee] [] pos) (tX P E (extE fo fe)) := by
  refine pe_imp (pe_bm PySem.F.plainAttrs_list PySem.F.slot_list_extend PySem.F.type_list_extend mt_extend ho (pa_cons he pa_nil hs) hbase hfew hline hs hplain) fun σ H Q ⟨F, B, A, ρ, m, s, e, h⟩ => ?_
  refine tX_go s e (wp_bind h) fun ld m1 B1 A1 H1 x h1 l1 s1 rl => ?_
  obtain ⟨ht, h1⟩ := chk_ty s1 rl (wp_bind h1)
  refine ⟨by rw [hK]; exact ht, ?_⟩
  refine tX_go s1 (e.mono l1) (wp_le l1 (wp_bind h1)) fun ed m2 B2 A2 H2 y h2 l2 s2 re => ?_
  unfold extK at h2
  split at h2
  · rename_i zs hz
    obtain ⟨j, xs, ys, ej, hj, hg, hf, h3⟩ := updL_wp (wp_bind h2)
    subst ej
    split at hf
    · rename_i hl
      cases hf
      obtain ⟨vs, hv, rs⟩ := cell_lst s2 hj hg
      obtain ⟨b, ws, rfl, hb, rz⟩ := lst_of s2 re hz
      have rl2 := rl.mono l2
      cases rl2 with
      | loc _ ea =>
        subst ea
        refine ⟨A2 j, b, vs, ws, rfl, rfl, hv, hb, by rw [rs.length, rz.length]; exact hl, ?_⟩
        have s3 := s2.put (o' := .lst (xs ++ zs)) hj hg (.lst upd_same (rs.append rz))
        exact h3 B2 A2 _ .non (l1.trans l2) s3 .non
    · cases hf
  · exact h2.elim
theorem xs_lput {o i value : Expr} {fo fi fv : SE} {p2 : Pos} (ho : PE X o (tX P E fo)) (hi : PE X i (tX P E fi)) (hv : PE X value (tX P E fv))
    (ha : ∀ v, assign (.Subscript o i p2) X.env v = (do
      let ov ← holding [v] (eval o X.env)
      let iv ← holding [v, ov] (eval i X.env)
      standAt p2
      holding [v, ov, iv] (setItem ov iv v)
      release [v, ov, iv] []) := by intro _; rfl)
    (hs : swapsWithSole [.Subscript o i p2] value pos.line X.env = pure false := by rfl) (hw : swappedStores [.Subscript o i p2] value X.env = pure none := by rfl) (h1 : (assignEach [.Subscript o i p2] X.env).map (·.2) = [assign (.Subscript o i p2) X.env] := by rfl) :
    PS X (.Assign [.Subscript o i p2] value pos) (tXS P E (sLput fo fi fv)) := by
  refine ps_imp (ps_asg hv (pg_sub ho hi set_list ha) hs hw h1) fun D σ H ⟨F, B, A, ρ, m, s, e, h⟩ => ?_
  refine tX_go s e (wp_bind h) fun ed m1 B1 A1 H1 x h1 l1 s1 re => ?_
  refine tX_go s1 (e.mono l1) (wp_le l1 (wp_bind h1)) fun ld m2 B2 A2 H2 y h2 l2 s2 rl => ?_
  refine tX_go s2 ((e.mono l1).mono l2) (wp_le (l1.trans l2) (wp_bind h2)) fun id m3 B3 A3 H3 z h3 l3 s3 ri => ?_
  replace h3 := wp_bind h3
  unfold lputK at h3
  split at h3
  · rename_i i
    cases ri
    obtain ⟨j, xs, ys, ej, hj, hg, hf, h4⟩ := updL_wp h3
    subst ej
    cases hix : ixD xs.length i with
    | none => rw [hix] at hf; cases hf
    | some n =>
      rw [hix] at hf
      cases hf
      obtain ⟨vs, hv, rs⟩ := cell_lst s3 hj hg
      have rl3 := rl.mono l3
      cases rl3 with
      | loc _ ea =>
        subst ea
        refine ⟨A3 j, vs, i, n, rfl, rfl, hv, by rw [rs.length, ← ix_eq]; exact hix, ?_⟩
        have s4 := s3.put (o' := .lst (xs.set n ed)) hj hg (.lst upd_same (rs.set ((re.mono l2).mono l3) n))
        exact h4 B3 A3 _ σ ((l1.trans l2).trans l3) s4 (((e.mono l1).mono l2).mono l3)
  · exact h3.elim
/-! constants of the module -/
theorem xe_glob {x : Str} {v : V} {u : Value} {d : D} (hg : Gl X x) (hm : X.mg x = some u) (r : RelV v u) (h : ∀ B A n, Rep P.K B A n v d) (hd : (x == ("__debug__" : Str)) = false := by decide) : PE X (.Name x pos) (tX P E (cn d)) := xe_c (pe_glob hg hm r hd) h
end
end LB

set_option Elab.async false
set_option linter.all false
set_option autoImplicit false
set_option maxRecDepth 100000
set_option maxHeartbeats 2000000
/-! What is walked: lists, tuples, ranges, enumerate, zip of any. -/
namespace LB
open PySem PySem.Spec PyProof.Rows L2

section
variable {X : Cx} {P : Pm} {E : XK} {pos : Pos} {tg : Expr}
theorem wp_of_eq {α : Type} {r r' : Rs α} {q : α → Mem → Prop} {e : Er → Mem → Prop} (h : r'.wp q e) (e1 : r = r') : r.wp q e := by
  rw [e1]
  exact h
def isL : D → Bool
  | .tup _ => false
  | _ => true
theorem sq_ofL {F B : Hp} {A : Nat → Addr} {m : Mem} {H : Hp} {v : V} {d : D} {ds : List D} (s : SR P F B A m H) (r : Rep P.K B A m.n v d) (hL : isL d = true) (h : sqOf m d = some ds) : ∃ a vs, v = .ref a ∧ SqL P.K H a vs ∧ Reps P.K B A m.n vs ds := by
  cases r with
  | tup _ _ => cases hL
  | lst hb rs =>
    obtain ⟨a, vs, e, h1, h2⟩ := lst_of s (.lst hb rs) h
    exact ⟨a, vs, e, SqL.of h1, h2⟩
  | loc hk ea =>
    obtain ⟨a, vs, e, h1, h2⟩ := lst_of s (.loc hk ea) h
    exact ⟨a, vs, e, SqL.of h1, h2⟩
  | @scr a ns hq =>
    cases h
    exact ⟨a, _, rfl, s.ex.l hq, reps_ints ns⟩
  | _ => cases h
theorem sq_ofT {F B : Hp} {A : Nat → Addr} {m : Mem} {H : Hp} {v : V} {ds : List D} (s : SR P F B A m H) (r : Rep P.K B A m.n v (.tup ds)) : ∃ a vs, v = .ref a ∧ SqT P.K H a vs ∧ Reps P.K B A m.n vs ds := by
  cases r with
  | tup hq rs => exact ⟨_, _, rfl, s.ex.t hq, rs⟩
theorem jok_lst {F B : Hp} {A : Nat → Addr} {n : Nat} {a : Addr} {d : D} (hL : isL d = true) (r : Rep P.K B A n (.ref a) d) : JOk P F B A n (Itl P.K a) (wkSeq d) := by
  intro i F' B' A' m' H' _ l s
  have r' := r.mono l
  unfold wkSeq
  cases hs : sqOf m' d with
  | none => exact ⟨fun h => (by cases h), fun x h => (by cases h)⟩
  | some ys =>
    obtain ⟨a', vs, ea, hq, rs⟩ := sq_ofL s r' hL hs
    cases ea
    refine ⟨fun h => ?_, fun x h => ?_⟩
    · simp only [Option.map_some, Option.some.injEq] at h
      refine ⟨vs, hq, ?_⟩
      rw [rs.length]
      exact List.getElem?_eq_none_iff.mp h
    · simp only [Option.map_some, Option.some.injEq] at h
      obtain ⟨v, hv, rv⟩ := rs.get h
      refine ⟨⟨vs, v, hq, hv⟩, fun y H2 hy => ?_⟩
      obtain ⟨e1, e2⟩ := hy
      subst e1
      have := e2 vs hq
      rw [hv] at this
      cases this
      exact ⟨B', Ex.refl B', s, rv⟩
theorem jok_tup {F B : Hp} {A : Nat → Addr} {n : Nat} {a : Addr} {ds : List D} (r : Rep P.K B A n (.ref a) (.tup ds)) : JOk P F B A n (Itt P.K a) (wkSeq (.tup ds)) := by
  intro i F' B' A' m' H' _ l s
  have r' := r.mono l
  obtain ⟨a', vs, ea, hq, rs⟩ := sq_ofT s r'
  cases ea
  refine ⟨fun h => ?_, fun x h => ?_⟩
  · have h' : ds[i]? = none := by
      have h2 : some ds[i]? = some none := h
      exact Option.some.inj h2
    refine ⟨vs, hq, ?_⟩
    rw [rs.length]
    exact List.getElem?_eq_none_iff.mp h'
  · have h' : ds[i]? = some x := by
      have h2 : some ds[i]? = some (some x) := h
      exact Option.some.inj h2
    obtain ⟨v, hv, rv⟩ := rs.get h'
    refine ⟨⟨vs, v, hq, hv⟩, fun y H2 hy => ?_⟩
    obtain ⟨e1, e2⟩ := hy
    subst e1
    have := e2 vs hq
    rw [hv] at this
    cases this
    exact ⟨B', Ex.refl B', s, rv⟩
/-- for x in xs, xs a list or a tuple -/
theorem xi_seq {l : Expr} {f : SE} (hK : X.K = P.K) (hl : PE X l (tX P E f)) : PI X tg l (tXI P E (itSeq f)) := by
  refine ⟨fun pins s σ H R I ⟨F, B, A, ρ, m, sr, e, h⟩ => ?_⟩
  have h1 := wp_bind h
  have both : (∃ ds m', f ρ m = .ok (.tup ds) m') ∨ ∀ d m', f ρ m = .ok d m' → isL d = true := by
    generalize f ρ m = r
    cases r with
    | bad => exact .inr fun _ _ e => nomatch e
    | ex _ _ => exact .inr fun _ _ e => nomatch e
    | ok d m' =>
      cases d with
      | tup ds => exact .inl ⟨ds, m', rfl⟩
      | _ => exact .inr fun d m2 e => by cases e; rfl
  rcases both with ⟨ds, m', hf⟩ | hL
  · refine (pi_tup hl).run pins s σ H R I ?_
    rw [hf] at h1
    refine tX_go (q := fun d m2 => d = .tup ds ∧ m2 = m') sr e (by rw [hf]; exact ⟨rfl, rfl⟩) fun d m1 B1 A1 H1 x h2 l1 s1 rx => ?_
    obtain ⟨rfl, rfl⟩ := h2
    obtain ⟨a, vs, ea, hq, rs⟩ := sq_ofT s1 rx
    subst ea
    refine ⟨a, rfl, ⟨vs, by rw [hK]; exact hq⟩, ?_⟩
    rw [hK]
    exact h1 B1 A1 H1 _ l1 s1 (jok_tup rx)
  · refine (pi_list hl).run pins s σ H R I ?_
    have h2 : (f ρ m).wp (fun d m' => isL d = true ∧ Rs.wp (match sqOf m' d with
      | some xs => Rs.ok (wkSeq d, xs.length) m'
      | none => Rs.bad) (fun w m' => ∀ B' A' H' J, Le B A m.n B' A' m'.n → SR P F B' A' m' H' → JOk P F B' A' m'.n J w.1 → R J H') (exV P E F B A m.n)) (exV P E F B A m.n) := by
      generalize hr : f ρ m = r at h1 hL ⊢
      cases r with
      | bad => exact h1
      | ok d m' => exact ⟨hL d m' rfl, h1⟩
      | ex x m' => exact h1
    refine tX_go sr e h2 fun d m1 B1 A1 H1 x h3 l1 s1 rx => ?_
    obtain ⟨hL1, h3⟩ := h3
    cases hs : sqOf m1 d with
    | none => rw [hs] at h3; exact h3.elim
    | some ys =>
      rw [hs] at h3
      obtain ⟨a, vs, ea, hq, rs⟩ := sq_ofL s1 rx hL1 hs
      subst ea
      refine ⟨a, rfl, ⟨vs, by rw [hK]; exact hq⟩, ?_⟩
      rw [hK]
      exact h3 B1 A1 H1 _ l1 s1 (jok_lst hL1 rx)
/-! ranges -/
theorem s62 {i : Int} (h : small62 i = true) : -(2 ^ 62) ≤ i ∧ i < 2 ^ 62 := by
  unfold small62 at h
  rw [Bool.and_eq_true, decide_eq_true_eq, decide_eq_true_eq] at h
  exact h
theorem jok_rng {F B : Hp} {A : Nat → Addr} {n k : Nat} {lo : Int} : JOk P F B A n (Itr lo k) (wkRng lo k) := by
  intro i F' B' A' m' H' _ l s
  unfold wkRng
  refine ⟨fun h => ?_, fun x h => ?_⟩
  · simp only [Option.some.injEq] at h
    split at h
    · cases h
    · rename_i hi
      exact Nat.le_of_not_lt hi
  · simp only [Option.some.injEq] at h
    split at h
    · rename_i hi
      cases h
      refine ⟨hi, fun y H2 hy => ?_⟩
      obtain ⟨e1, e2⟩ := hy
      subst e1
      subst e2
      exact ⟨B', Ex.refl B', s, .int _⟩
    · cases h
theorem xi_rng1 {a : Expr} {fas : SA} {p : Pos} (hg : Gl X "range") (hm : X.mg "range" = none) (ha : PA X [a] (tXA P E fas)) (hs : starEach [a] X.env = [(false, eval a X.env)] := by rfl) : PI X tg (.Call (.Name "range" p) [a] [] pos) (tXI P E (itRng1 fas)) := by
  refine pi_imp (pi_range1 hg hm ha hs) fun σ H R ⟨F, B, A, ρ, m, s, e, h⟩ => ?_
  refine tXA_go s e (wp_bind h) fun ds m1 B1 A1 H1 vs h1 l1 s1 rs => ?_
  split at h1
  · obtain ⟨v, rfl, r⟩ := rs.one
    cases r
    split at h1
    · rename_i hh
      exact ⟨_, rfl, (s62 hh).1, (s62 hh).2, h1 B1 A1 H1 _ l1 s1 jok_rng⟩
    · exact h1.elim
  · exact h1.elim
theorem xi_rng2 {a b : Expr} {fas : SA} {p : Pos} (hg : Gl X "range") (hm : X.mg "range" = none) (ha : PA X [a, b] (tXA P E fas)) (hs : starEach [a, b] X.env = [(false, eval a X.env), (false, eval b X.env)] := by rfl) (hs2 : starEach [b] X.env = [(false, eval b X.env)] := by rfl) :
    PI X tg (.Call (.Name "range" p) [a, b] [] pos) (tXI P E (itRng2 fas)) := by
  refine pi_imp (pi_range2 hg hm ha hs hs2) fun σ H R ⟨F, B, A, ρ, m, s, e, h⟩ => ?_
  refine tXA_go s e (wp_bind h) fun ds m1 B1 A1 H1 vs h1 l1 s1 rs => ?_
  split at h1
  · obtain ⟨v, u, rfl, r, q⟩ := rs.two
    cases r
    cases q
    split at h1
    · rename_i hh
      exact ⟨_, _, rfl, ⟨(s62 hh.1).1, (s62 hh.1).2, (s62 hh.2).1, (s62 hh.2).2⟩, h1 B1 A1 H1 _ l1 s1 jok_rng⟩
    · exact h1.elim
  · exact h1.elim
end
end LB

set_option Elab.async false
set_option linter.all false
set_option autoImplicit false
set_option maxRecDepth 100000
set_option maxHeartbeats 2000000
/-! zip and enumerate over lists, tuples, texts in any mix. -/
namespace LB
open PySem PySem.Spec PyProof.Rows L2

/-- what an iterator is made of -/
inductive Src where
  | lst (a : Addr)
  | tup (a : Addr)
  | txt (x : Str) (t : Tok)
namespace Src
def val : Src → Value
  | .lst a => .ref a
  | .tup a => .ref a
  | .txt x t => .str x t
def obj : Src → Obj
  | .lst a => { cls := .type "list_iterator", data := .fields #[.ref a, .int 0 0] }
  | .tup a => { cls := .type "tuple_iterator", data := .fields #[.ref a, .int 0 0] }
  | .txt x t => { cls := .type (strIterType x), data := .fields #[.str x t, .int 0 0] }
def fp : Src → List Addr
  | .lst a => [a]
  | .tup a => [a]
  | .txt _ _ => []
def signs (x : Str) : List V := x.cps.toList.map fun c => .str ⟨#[c]⟩
def has (K : PySem.W.Frag) (H : Hp) : Src → List V → Prop
  | .lst a, xs => SqL K H a xs
  | .tup a, xs => SqT K H a xs
  | .txt x _, xs => xs = signs x
def it (e : Addr) (i : Nat) (h : Heap) : Src → Prop
  | .lst a => h.IsListIter e a i
  | .tup a => h.IsTupleIter e a i
  | .txt x t => h.IsStrIter e (strIterType x) x t i
def live (h : Heap) (its : Array Value) : Src → Prop
  | .lst a => h.IsList a its
  | .tup a => h.IsTuple a its
  | .txt _ _ => True
def len (its : Array Value) : Src → Nat
  | .lst _ => its.size
  | .tup _ => its.size
  | .txt x _ => x.cps.size
def gives (its : Array Value) : Src → Nat → Value → Prop
  | .lst _, i, v => its[i]? = some v
  | .tup _, i, v => its[i]? = some v
  | .txt x _, i, v => ∃ c u, x.cps[i]? = some c ∧ v = .str ⟨#[c]⟩ u
theorem begins (its : Array Value) : ∀ k : Src, Begins k.val k.obj fun h => k.live h its
  | .lst a => begins_list a its
  | .tup a => begins_tuple a its
  | .txt x t => begins_text x t
theorem draws {prog : Program} {w : World} {A : Around} (hh : A.handled = none) (its : Array Value) (e : Addr) : ∀ k : Src, e ∉ k.fp → Draws prog w A e (e :: k.fp) (k.len its) (k.gives its) fun i h => k.it e i h ∧ k.live h its
  | .lst a, hn => Draws.list hh e a (fun q => hn (by rw [q]; exact List.mem_singleton.mpr rfl)) its
  | .tup a, hn => Draws.tuple hh e a (fun q => hn (by rw [q]; exact List.mem_singleton.mpr rfl)) its
  | .txt x t, _ => by
    have D := Draws.text (prog := prog) (w := w) hh e x t
    exact ⟨fun i h st => D.live i h st.1, fun i h h' st hk => ⟨D.frame i h h' st.1 hk, trivial⟩, fun i s Q E hi st hQ => D.item i s Q E hi st.1 fun x' h' tk hP st' hb => hQ x' h' tk hP ⟨st', trivial⟩ hb, fun s Q E st hE => D.done s Q E st.1 hE⟩
theorem it_new (h : Heap) (e : Addr) : ∀ k : Src, h.get? e = some k.obj → k.it e 0 h
  | .lst _, q => ⟨_, q, rfl, rfl⟩
  | .tup _, q => ⟨_, q, rfl, rfl⟩
  | .txt _ _, q => ⟨_, q, rfl, rfl⟩
theorem it_obj {h : Heap} {e : Addr} {i : Nat} : ∀ {k : Src}, k.it e i h → ∃ o, h.get? e = some o ∧ ∀ v, o.data ≠ .cell v
  | .lst _, ⟨o, q, _, d⟩ => ⟨o, q, fun v z => by rw [d] at z; cases z⟩
  | .tup _, ⟨o, q, _, d⟩ => ⟨o, q, fun v z => by rw [d] at z; cases z⟩
  | .txt _ _, ⟨o, q, _, d⟩ => ⟨o, q, fun v z => by rw [d] at z; cases z⟩
theorem it_at {h h' : Heap} {e : Addr} {i : Nat} (hk : ∀ o, h.get? e = some o → h'.get? e = some o) : ∀ {k : Src}, k.it e i h → k.it e i h'
  | .lst _, ⟨o, q, r⟩ => ⟨o, hk o q, r⟩
  | .tup _, ⟨o, q, r⟩ => ⟨o, hk o q, r⟩
  | .txt _ _, ⟨o, q, r⟩ => ⟨o, hk o q, r⟩
section
variable {X : Cx} {pins : List (Addr × Obj)} {σ : L2.St} {H : Hp} {s : Shared}
/-- what the heap says of it -/
theorem seen (I : Inv X pins σ H s) : ∀ {k : Src} {xs : List V}, k.has X.K H xs → ∃ its : Array Value, k.live s.heap its ∧ k.len its = xs.length ∧ (∀ i v, k.gives its i v → ∃ x, xs[i]? = some x ∧ RelV x v) ∧ ∀ b ∈ k.fp, b < s.heap.objs.size
  | .lst a, xs, h => by
    obtain ⟨its, rv, p, _⟩ := I.list h
    obtain ⟨o, n, ho, hc, hd, hs⟩ := id p
    refine ⟨its.toArray, p.isList, by show its.toArray.size = _; rw [List.size_toArray]; exact rv.length.symm, fun i v hv => ?_, fun b hb => ?_⟩
    · have hv' : its[i]? = some v := by simpa using (show its.toArray[i]? = some v from hv)
      cases hx : xs[i]? with
      | none => rw [Vals.none_of rv hx] at hv'; cases hv'
      | some x =>
        obtain ⟨u, hu, ru⟩ := rv.get hx
        rw [hu] at hv'
        cases hv'
        exact ⟨x, rfl, ru⟩
    · rw [List.mem_singleton.mp hb]
      exact p.lt
  | .tup a, xs, h => by
    obtain ⟨its, rv, p, _⟩ := I.tuple h
    obtain ⟨o, ho, _⟩ := id p
    refine ⟨its.toArray, p, by show its.toArray.size = _; rw [List.size_toArray]; exact rv.length.symm, fun i v hv => ?_, fun b hb => ?_⟩
    · have hv' : its[i]? = some v := by simpa using (show its.toArray[i]? = some v from hv)
      cases hx : xs[i]? with
      | none => rw [Vals.none_of rv hx] at hv'; cases hv'
      | some x =>
        obtain ⟨u, hu, ru⟩ := rv.get hx
        rw [hu] at hv'
        cases hv'
        exact ⟨x, rfl, ru⟩
    · rw [List.mem_singleton.mp hb]
      exact Heap.lt_size ho
  | .txt x t, xs, h => by
    have h' : xs = signs x := h
    subst h'
    refine ⟨#[], trivial, by show x.cps.size = _; simp [signs], fun i v hv => ?_, fun b hb => nomatch hb⟩
    obtain ⟨c, u, hc, rfl⟩ := hv
    refine ⟨.str ⟨#[c]⟩, ?_, ⟨u, rfl⟩⟩
    unfold signs
    rw [List.getElem?_map]
    have : x.cps.toList[i]? = some c := by simpa using hc
    rw [this]
    rfl
theorem has_inj (I : Inv X pins σ H s) : ∀ {k : Src} {xs ys : List V}, k.has X.K H xs → k.has X.K H ys → xs = ys
  | .lst _, _, _, h, h' => I.list_inj h h'
  | .tup _, _, _, h, h' => I.tuple_inj h h'
  | .txt _ _, _, _, h, h' => (show _ = _ from h).trans (show _ = _ from h').symm
end
end Src

/-! ### zip -/
def ItZ (K : PySem.W.Frag) (k1 k2 : Src) : It :=
  ⟨fun i H => ∃ xs ys : List V, k1.has K H xs ∧ k2.has K H ys ∧ i < min xs.length ys.length,
   fun i H v H' => ∃ T x y, v = .ref T ∧ H T = none ∧ H' = upd H T (.tup [x, y]) ∧ (∀ xs, k1.has K H xs → xs[i]? = some x) ∧ ∀ ys, k2.has K H ys → ys[i]? = some y,
   fun i H => ∃ xs ys : List V, k1.has K H xs ∧ k2.has K H ys ∧ i = min xs.length ys.length⟩
theorem turn_zipK {Pg : Program} {w : World} {K : PySem.W.Frag} {elts : List Expr} {kk : Nat} {tpos : Pos} {k1 k2 : Src} {z TI TO e1 e2 : Addr} (S : ZipSep2 z TI TO e1 e2 (e1 :: k1.fp) (e2 :: k2.fp)) (n1 : e1 ∉ k1.fp) (n2 : e2 ∉ k2.fp) :
    Turn Pg w K (.Tuple elts kk tpos) (ItZ K k1 k2) [z, TI, TO, e1, e2] z (fun i h => IsZip h z TI TO .none ∧ IsTupOf2 h TI (.ref e1) (.ref e2) ∧ (∃ x y, IsTupOf2 h TO x y) ∧ k1.it e1 i h ∧ k2.it e2 i h) where
  mem := List.mem_cons_self
  obj := fun i h ⟨hz, hTI, ⟨x, y, hTO⟩, h1, h2⟩ c hc => by
    simp only [List.mem_cons, List.not_mem_nil, or_false] at hc
    rcases hc with q | q | q | q | q
    · exact ⟨_, q ▸ hz, fun v r => by cases r⟩
    · exact ⟨_, q ▸ hTI, fun v r => by cases r⟩
    · exact ⟨_, q ▸ hTO, fun v r => by cases r⟩
    · rw [q]; exact Src.it_obj h1
    · rw [q]; exact Src.it_obj h2
  keep := fun i h h' ⟨hz, hTI, ⟨x, y, hTO⟩, h1, h2⟩ k =>
    ⟨k z (by simp) _ hz, k TI (by simp) _ hTI, ⟨x, y, k TO (by simp) _ hTO⟩, Src.it_at (fun o q => k e1 (by simp) o q) h1, Src.it_at (fun o q => k e2 (by simp) o q) h2⟩
  item := by
    intro X hP hw hK hc i pins s σ H E I hf st hg
    subst hP hw hK
    obtain ⟨xs, ys, hx, hy, hi⟩ := hg
    obtain ⟨hz, hTI, ⟨x0, y0, hTO⟩, h1, h2⟩ := st
    obtain ⟨its1, lv1, ln1, gv1, lt1⟩ := Src.seen I hx
    obtain ⟨its2, lv2, ln2, gv2, lt2⟩ := Src.seen I hy
    have hh : X.A.in1.handled = none := I.ok.hd hc
    have W := GoesN.zip2 (prog := X.prog) (w := X.w) (A := X.A) (elts := elts) (x1 := kk) (pos := tpos) S (Src.draws hh its1 e1 k1 n1) (Src.draws hh its2 e2 k2 n2)
    refine W.goes i s _ E (by rw [ln1, ln2]; exact hi) ⟨hz, hTI, ⟨x0, y0, hTO⟩, ⟨h1, lv1⟩, ⟨h2, lv2⟩⟩ fun v h' tk hY st' hk htk => ?_
    obtain ⟨T, u1, u2, rfl, hT, p1, p2, hTup⟩ := hY
    obtain ⟨x, hx1, r1⟩ := gv1 i u1 p1
    obtain ⟨y, hy1, r2⟩ := gv2 i u2 p2
    have new : ObjOk X.prog X.w (upd H T (.tup [x, y])) h' T (.tup [x, y]) := ⟨by show 2 ≤ sizeLine; decide, [u1, u2], .cons r1 (.cons r2 .nil), hTup⟩
    have I1 := I.turnedNew (t' := tk) (ch := [z, TI, TO, e1, e2]) (fun c o hb q => hk c o (fun hm => hb (by
      simp only [List.mem_cons, List.not_mem_nil, or_false] at hm ⊢
      rcases hm with r | r | r | r
      · exact .inl r
      · exact .inr (.inr (.inl r))
      · exact .inr (.inr (.inr (.inl r)))
      · exact .inr (.inr (.inr (.inr r))))) q) hf hT new
    refine ⟨.ref T, _, I1, rfl, ⟨T, x, y, rfl, I.hok.fresh hT, rfl, fun l hl => by rw [Src.has_inj I hl hx]; exact hx1, fun l hl => by rw [Src.has_inj I hl hy]; exact hy1⟩, ⟨st'.1, st'.2.1, st'.2.2.1, st'.2.2.2.1.1, st'.2.2.2.2.1⟩, fun c hcm => ?_⟩
    have hlt : c < s.heap.objs.size := by
      simp only [List.mem_cons, List.not_mem_nil, or_false] at hcm
      rcases hcm with q | q | q | q | q
      · rw [q]; exact Heap.lt_size hz
      · rw [q]; exact Heap.lt_size hTI
      · rw [q]; exact Heap.lt_size hTO
      · rw [q]; obtain ⟨o, ho, _⟩ := Src.it_obj h1; exact Heap.lt_size ho
      · rw [q]; obtain ⟨o, ho, _⟩ := Src.it_obj h2; exact Heap.lt_size ho
    rw [upd_ne (Nat.ne_of_lt (Nat.lt_of_lt_of_le hlt hT))]
    exact (hf c hcm).1
  done := by
    intro X hP hw hK hc i pins s σ H E I hf st hg
    subst hP hw hK
    obtain ⟨xs, ys, hx, hy, hi⟩ := hg
    obtain ⟨hz, hTI, ⟨x0, y0, hTO⟩, h1, h2⟩ := st
    obtain ⟨its1, lv1, ln1, gv1, lt1⟩ := Src.seen I hx
    obtain ⟨its2, lv2, ln2, gv2, lt2⟩ := Src.seen I hy
    have hh : X.A.in1.handled = none := I.ok.hd hc
    have W := GoesN.zip2 (prog := X.prog) (w := X.w) (A := X.A) (elts := elts) (x1 := kk) (pos := tpos) S (Src.draws hh its1 e1 k1 n1) (Src.draws hh its2 e2 k2 n2)
    have hn : i = min (k1.len its1) (k2.len its2) := by rw [ln1, ln2]; exact hi
    subst hn
    refine W.stops s _ E ⟨hz, hTI, ⟨x0, y0, hTO⟩, ⟨h1, lv1⟩, ⟨h2, lv2⟩⟩ fun h' tk hk htk => ?_
    exact I.turnedL (t' := tk) (ch := [z, TI, TO, e1, e2]) (fun c o hb q => hk c o (fun hm => hb (by
      simp only [List.mem_cons, List.not_mem_nil, or_false] at hm ⊢
      rcases hm with r | r | r | r
      · exact .inl r
      · exact .inr (.inr (.inl r))
      · exact .inr (.inr (.inr (.inl r)))
      · exact .inr (.inr (.inr (.inr r))))) q) hf
  self := fun A i s Q E st h => wpAny_pyIter_zip st.1 h

/-! ### what a value is a source of -/
/-- a source that stands for data -/
def srcOf (K : PySem.W.Frag) (B : Hp) (A : Nat → Addr) (n : Nat) (k : Src) (x : V) (d : D) : Prop := match k with
  | .lst a => x = .ref a ∧ Rep K B A n x d ∧ isL d = true ∧ ∀ z, d ≠ .str z
  | .tup a => x = .ref a ∧ Rep K B A n x d ∧ isL d = false
  | .txt z _ => x = .str z ∧ d = .str z
theorem srcOf.mono {K : PySem.W.Frag} {B B' : Hp} {A A' : Nat → Addr} {n n' : Nat} {k : Src} {x : V} {d : D} (l : Le B A n B' A' n') (h : srcOf K B A n k x d) : srcOf K B' A' n' k x d := by
  cases k with
  | lst a => exact ⟨h.1, h.2.1.mono l, h.2.2⟩
  | tup a => exact ⟨h.1, h.2.1.mono l, h.2.2⟩
  | txt z t => exact h
theorem reps_signs {K : PySem.W.Frag} {B : Hp} {A : Nat → Addr} {n : Nat} (z : Str) : Reps K B A n (Src.signs z) (strOf z) := by
  unfold Src.signs strOf
  generalize z.cps.toList = l
  induction l with
  | nil => exact .nil
  | cons c r ih => exact .cons (.str _) ih
theorem src_has {P : Pm} {F B : Hp} {A : Nat → Addr} {m : Mem} {H : Hp} {k : Src} {x : V} {d : D} {ds : List D} (s : SR P F B A m H) (h : srcOf P.K B A m.n k x d) (hw : wlkOf m d = some ds) : ∃ xs, k.has P.K H xs ∧ Reps P.K B A m.n xs ds := by
  cases k with
  | lst a =>
    obtain ⟨rfl, r, hL, hS⟩ := h
    have hw' : sqOf m d = some ds := by
      cases d with
      | str z => exact absurd rfl (hS z)
      | _ => exact hw
    obtain ⟨a', vs, ea, hq, rs⟩ := sq_ofL s r hL hw'
    cases ea
    exact ⟨vs, hq, rs⟩
  | tup a =>
    obtain ⟨rfl, r, hL⟩ := h
    cases d with
    | tup xs =>
      cases hw
      obtain ⟨a', vs, ea, hq, rs⟩ := sq_ofT s r
      cases ea
      exact ⟨vs, hq, rs⟩
    | _ => cases hL
  | txt z t =>
    obtain ⟨rfl, rfl⟩ := h
    cases hw
    exact ⟨_, rfl, reps_signs z⟩
/-- what stands there is a source -/
theorem src_at {P : Pm} {F B : Hp} {A : Nat → Addr} {m : Mem} {H : Hp} {x : V} {u : Value} {d : D} {ds : List D} (s : SR P F B A m H) (r : Rep P.K B A m.n x d) (ru : RelV x u) (hw : wlkOf m d = some ds) : ∃ k : Src, k.val = u ∧ srcOf P.K B A m.n k x d := by
  cases d with
  | str z =>
    cases r
    obtain ⟨t, rfl⟩ := ru
    exact ⟨.txt z t, rfl, rfl, rfl⟩
  | tup xs =>
    obtain ⟨a, vs, rfl, _, _⟩ := sq_ofT s r
    cases ru
    exact ⟨.tup a, rfl, rfl, r, rfl⟩
  | lst xs =>
    obtain ⟨a, vs, rfl, _, _⟩ := sq_ofL s r rfl hw
    cases ru
    exact ⟨.lst a, rfl, rfl, r, rfl, fun z q => by cases q⟩
  | loc j =>
    obtain ⟨a, vs, rfl, _, _⟩ := sq_ofL s r rfl hw
    cases ru
    exact ⟨.lst a, rfl, rfl, r, rfl, fun z q => by cases q⟩
  | scr ns =>
    obtain ⟨a, vs, rfl, _, _⟩ := sq_ofL s r rfl hw
    cases ru
    exact ⟨.lst a, rfl, rfl, r, rfl, fun z q => by cases q⟩
  | _ => cases hw
theorem jok_zip {P : Pm} {F B : Hp} {A : Nat → Addr} {n : Nat} {k1 k2 : Src} {x y : V} {d e : D} (h1 : srcOf P.K B A n k1 x d) (h2 : srcOf P.K B A n k2 y e) : JOk P F B A n (ItZ P.K k1 k2) (wkZp d e) := by
  intro i F' B' A' m' H' _ l s
  have h1' := h1.mono l
  have h2' := h2.mono l
  unfold wkZp
  cases hd : wlkOf m' d with
  | none => exact ⟨fun h => (by cases h), fun x h => (by cases h)⟩
  | some ds =>
    cases he : wlkOf m' e with
    | none => exact ⟨fun h => (by cases h), fun x h => (by cases h)⟩
    | some es =>
      obtain ⟨xs, hx, rx⟩ := src_has s h1' hd
      obtain ⟨ys, hy, ry⟩ := src_has s h2' he
      simp only [Option.bind_some]
      unfold upTo
      refine ⟨fun h => ?_, fun w h => ?_⟩
      · split at h
        · rename_i hi
          exfalso
          have a1 : i < ds.length := by omega
          have a2 : i < es.length := by omega
          rw [List.getElem?_eq_getElem a1, List.getElem?_eq_getElem a2] at h
          cases h
        · split at h
          · rename_i hi
            exact ⟨xs, ys, hx, hy, by rw [rx.length, ry.length]; exact hi⟩
          · cases h
      · split at h
        · rename_i hi
          have a1 : i < ds.length := by omega
          have a2 : i < es.length := by omega
          obtain ⟨v1, hv1, r1⟩ := rx.get (List.getElem?_eq_getElem a1)
          obtain ⟨v2, hv2, r2⟩ := ry.get (List.getElem?_eq_getElem a2)
          rw [List.getElem?_eq_getElem a1, List.getElem?_eq_getElem a2] at h
          simp only [Option.bind_some, Option.map_some, Option.some.injEq] at h
          subst h
          refine ⟨⟨xs, ys, hx, hy, by rw [rx.length, ry.length]; exact hi⟩, fun u H2 hu => ?_⟩
          obtain ⟨T, x', y', rfl, hT, rfl, e1, e2⟩ := hu
          have q1 := e1 xs hx
          have q2 := e2 ys hy
          rw [hv1] at q1
          rw [hv2] at q2
          cases q1
          cases q2
          have ex := s.frozenEx (o := .tup [v1, v2]) hT
          exact ⟨_, ex, s.frozen hT, .tup (SqT.of upd_same) (.cons (r1.mono (Le.base ex)) (.cons (r2.mono (Le.base ex)) .nil))⟩
        · split at h <;> cases h
section
variable {X : Cx} {P : Pm} {E : XK} {pos : Pos}
theorem xi_zp {a b : Expr} {fa fb : SE} {p tpos : Pos} {elts : List Expr} {kk : Nat} (hK : X.K = P.K) (hg : Gl X "zip") (hm : X.mg "zip" = none) (ha : PE X a (tX P E fa)) (hb : PE X b (tX P E fb))
    (hs : starEach [a, b] X.env = (false, eval a X.env) :: starEach [b] X.env := by rfl) (hs2 : starEach [b] X.env = (false, eval b X.env) :: starEach [] X.env := by rfl) (hpl : (backTo pos (starEach [b] X.env)).any (·.1) = false := by rfl) :
    PI X (.Tuple elts kk tpos) (.Call (.Name "zip" p) [a, b] [] pos) (tXI P E (itZp fa fb)) := by
  refine ⟨fun pins s σ H R I ⟨F, B, A, ρ, m, sr, e, h⟩ => ?_⟩
  have args : PA X [a, b] (tCons (tX P E fa) (tCons (tX P E fb) tNil)) := pa_cons ha (pa_cons hb pa_nil hs2) hs
  have rd : tCons (tX P E fa) (tCons (tX P E fb) tNil) σ H fun vs H1 => ∃ x y, vs = [x, y] ∧ ∃ B1 A1 m1 d e, SR P F B1 A1 m1 H1 ∧ Rep P.K B1 A1 m1.n x d ∧ Rep P.K B1 A1 m1.n y e ∧ ∃ ds es, wlkOf m1 d = some ds ∧ wlkOf m1 e = some es ∧ ∀ J, JOk P F B1 A1 m1.n J (wkZp d e) → R J H1 := by
    refine tX_go sr e (wp_bind h) fun dx m1 B1 A1 H1 x h1 l1 s1 rx => ?_
    refine tX_go s1 (e.mono l1) (wp_le l1 (wp_bind h1)) fun dy m2 B2 A2 H2 y h2 l2 s2 ry => ?_
    refine ⟨x, y, rfl, B2, A2, m2, dx, dy, s2, rx.mono l2, ry, ?_⟩
    split at h2
    · rename_i ds es hd he
      exact ⟨ds, es, hd, he, fun J j => h2 B2 A2 H2 J (l1.trans l2) s2 j⟩
    · exact h2.elim
  refine Call_ (ld_blt I hg hm PyProof.Rows.boot_zip (PyProof.Rows.callWith_type1 (thn (args.run pos pins s σ H _ I rd) fun us s1 hq => ?_) hs hpl))
  obtain ⟨vs, H1, I1, rv, x, y, rfl, B1, A1, m1, d, e, s1', rx, ry, ds, es, hd, he, hJ⟩ := hq
  obtain ⟨u1, u2, rfl, ru1, ru2⟩ : ∃ u1 u2, us = [u1, u2] ∧ RelV x u1 ∧ RelV y u2 := by
    cases rv with
    | cons r t =>
      cases t with
      | cons q t =>
        cases t
        exact ⟨_, _, rfl, r, q⟩
  obtain ⟨k1, e1, h1⟩ := src_at s1' rx ru1 hd
  obtain ⟨k2, e2, h2⟩ := src_at s1' ry ru2 he
  subst e1 e2
  obtain ⟨xs, hx, _⟩ := src_has s1' h1 hd
  obtain ⟨ys, hy, _⟩ := src_has s1' h2 he
  have hx' : k1.has X.K H1 xs := by rw [hK]; exact hx
  have hy' : k2.has X.K H1 ys := by rw [hK]; exact hy
  obtain ⟨its1, lv1, _, _, lt1⟩ := Src.seen I1 hx'
  obtain ⟨its2, lv2, _, _, lt2⟩ := Src.seen I1 hy'
  refine zip_begins2 (Src.begins its1 k1) (Src.begins its2 k2) lv1 lv2 fun h' hz hTI hTO ho1 ho2 hsz hk => wpAny_pyIter_zip hz ?_
  have I2 : Inv X pins σ H1 { s1 with heap := h' } := I1.kept (t' := s1.toks) hk
  have nw : ∀ {k : Src} {j : Nat}, (∀ b ∈ k.fp, b < s1.heap.objs.size) → s1.heap.objs.size + j ∉ k.fp := fun {k j} hlt hm => absurd (hlt _ hm) (Nat.not_lt.mpr (Nat.le_add_right _ _))
  refine ⟨s1.heap.objs.size + 4, [s1.heap.objs.size + 4, s1.heap.objs.size + 2, s1.heap.objs.size + 3, s1.heap.objs.size, s1.heap.objs.size + 1], _, ItZ X.K k1 k2, H1, rfl, I2,
    turn_zipK (zip_sep2 lt1 lt2) (nw (j := 0) lt1) (nw (j := 1) lt2), ⟨hz, hTI, ⟨_, _, hTO⟩, Src.it_new _ _ k1 ho1, Src.it_new _ _ k2 ho2⟩, fun c hcm => ?_, by rw [hK]; exact hJ _ (jok_zip h1 h2)⟩
  have hle : s1.heap.objs.size ≤ c := by
    simp only [List.mem_cons, List.not_mem_nil, or_false] at hcm
    rcases hcm with q | q | q | q | q <;> (rw [q]; first | exact Nat.le_add_right _ _ | exact Nat.le_refl _)
  exact I1.fpOk hle (I1.hok.fresh hle)
end
/-! ### enumerate -/
set_option maxHeartbeats 1000000 in
theorem en_makes {v : Value} {ob : Obj} {Hh : Heap → Prop} (Bg : Begins v ob Hh) :
    Meets (Builtin.«enumerate.__new__» ⟨[.type "enumerate", v], []⟩) (fun _ Rk st => Hh st.heap ∧
      Rk (.ok (.ret (.ref (st.heap.push ob).objs.size))) { st with heap := (st.heap.push ob).push { cls := .type "enumerate", data := .fields #[.none, .bool false, .ref st.heap.objs.size, rawInt 0, .none, .none] } }) :=
  .of_wp fun Pg w Ar Rk st hyp => by
    obtain ⟨hh, gg, dd, tt, oo⟩ := st
    obtain ⟨h1, hyp⟩ := hyp
    have sb := sub_enumerate
    have go : ∀ {A1 : Around} {E1 : Value → Shared → Prop} {Q1 : Value → Shared → Prop}, Q1 (.ref hh.objs.size) ⟨hh.push ob, gg, dd, tt, oo⟩ → wpAny (model Pg w) A1 (pyIter v) Q1 E1 ⟨hh, gg, dd, tt, oo⟩ :=
      fun z => Bg.iter Pg w _ _ ⟨hh, gg, dd, tt, oo⟩ _ h1 z
    wp_walk using go
    refine wpAny_stack_any fun stk => wpAny_pure ?_
    split
    · rename_i cl _ _ _ _ _
      cases (cl == Value.type "enumerate") <;> (wp_walk using go; exact ⟨_, rfl, hyp⟩)
    · wp_walk using go
      exact ⟨_, rfl, hyp⟩
theorem en_begins {Pg : Program} {w : World} {Ar : Around} {E1 : Value → Shared → Prop} {st : Shared} {v : Value} {ob : Obj} {Hh : Heap → Prop} {Q1 : Value → Shared → Prop} (Bg : Begins v ob Hh) (h1 : Hh st.heap)
    (hyp : ∀ h2, IsEnum h2 (st.heap.objs.size + 1) st.heap.objs.size 0 .none → h2.get? st.heap.objs.size = some ob → (∀ b o, st.heap.get? b = some o → h2.get? b = some o) → Q1 (.ref (st.heap.objs.size + 1)) { st with heap := h2 }) :
    wpAny (model Pg w) Ar (PySem.call (.type "enumerate") [v]) Q1 E1 st := by
  refine callType_new F.called_enumerate (by decide) (F.typeCall_enumerate_1 _) (F.newCall_enumerate_1 _) (fun ob2 => F.args_object_init_2 ob2 _) F.entry_enumerate_new (en_makes Bg) ⟨h1, ?_⟩
  have sz : (st.heap.push ob).objs.size = st.heap.objs.size + 1 := Heap.size_push ..
  show _ ∧ _
  rw [sz]
  have there : IsEnum ((st.heap.push ob).push { cls := .type "enumerate", data := .fields #[.none, .bool false, .ref st.heap.objs.size, rawInt 0, .none, .none] }) (st.heap.objs.size + 1) st.heap.objs.size 0 .none := by
    have q := Heap.get?_push_size (st.heap.push ob) (o := { cls := .type "enumerate", data := .fields #[.none, .bool false, .ref st.heap.objs.size, rawInt 0, .none, .none] }) rfl
    rw [sz] at q
    exact q
  exact ⟨⟨_, there, rfl⟩, hyp _ there (Heap.get?_push_of_some _ (Heap.get?_push_size _ Bg.free)) fun b o x => Heap.get?_push_of_some _ (Heap.get?_push_of_some _ x)⟩
def ItE (K : PySem.W.Frag) (k1 : Src) : It :=
  ⟨fun i H => ∃ xs : List V, k1.has K H xs ∧ i < xs.length,
   fun i H v H' => ∃ T x, v = .ref T ∧ H T = none ∧ H' = upd H T (.tup [.int (i : Nat), x]) ∧ ∀ xs, k1.has K H xs → xs[i]? = some x,
   fun i H => ∃ xs : List V, k1.has K H xs ∧ i = xs.length⟩
theorem turn_enK {Pg : Program} {w : World} {K : PySem.W.Frag} {elts : List Expr} {kk : Nat} {tpos : Pos} {k1 : Src} {e e1 : Addr} (hei : e ≠ e1) (hef : e ∉ e1 :: k1.fp) (n1 : e1 ∉ k1.fp) :
    Turn Pg w K (.Tuple elts kk tpos) (ItE K k1) [e, e1] e (fun i h => (∃ old, IsEnum h e e1 ((0 : Int) + ((i : Nat) : Int)) old) ∧ k1.it e1 i h) where
  mem := List.mem_cons_self
  obj := fun i h ⟨⟨old, he⟩, h1⟩ c hc => by
    simp only [List.mem_cons, List.not_mem_nil, or_false] at hc
    rcases hc with q | q
    · exact ⟨_, q ▸ he, fun v r => by cases r⟩
    · rw [q]; exact Src.it_obj h1
  keep := fun i h h' ⟨⟨old, he⟩, h1⟩ k => ⟨⟨old, k e (by simp) _ he⟩, Src.it_at (fun o q => k e1 (by simp) o q) h1⟩
  item := by
    intro X hP hw hK hc i pins s σ H E I hf st hg
    subst hP hw hK
    obtain ⟨xs, hx, hi⟩ := hg
    obtain ⟨⟨old, he⟩, h1⟩ := st
    obtain ⟨its1, lv1, ln1, gv1, lt1⟩ := Src.seen I hx
    have hh : X.A.in1.handled = none := I.ok.hd hc
    have W := GoesN.enumFrom (prog := X.prog) (w := X.w) (A := X.A) (elts := elts) (x1 := kk) (pos := tpos) 0 (Src.draws hh its1 e1 k1 n1) e hei hef List.mem_cons_self
    refine W.goes i s _ E (by rw [ln1]; exact hi) ⟨⟨old, he⟩, ⟨h1, lv1⟩⟩ fun v h' tk hY st' hk htk => ?_
    obtain ⟨T, t, u1, rfl, hT, p1, hTup⟩ := hY
    obtain ⟨x, hx1, r1⟩ := gv1 i u1 p1
    have new : ObjOk X.prog X.w (upd H T (.tup [.int (i : Nat), x])) h' T (.tup [.int (i : Nat), x]) := ⟨by show 2 ≤ sizeLine; decide, [.int ((0 : Int) + (i : Int)) t, u1], .cons ⟨t, by rw [Int.zero_add]⟩ (.cons r1 .nil), hTup⟩
    have I1 := I.turnedNew (t' := tk) (ch := [e, e1]) (fun c o hb q => hk c o hb q) hf hT new
    refine ⟨.ref T, _, I1, rfl, ⟨T, x, rfl, I.hok.fresh hT, rfl, fun l hl => by rw [Src.has_inj I hl hx]; exact hx1⟩, ⟨st'.1, st'.2.1⟩, fun c hcm => ?_⟩
    have hlt : c < s.heap.objs.size := by
      simp only [List.mem_cons, List.not_mem_nil, or_false] at hcm
      rcases hcm with q | q
      · rw [q]; exact Heap.lt_size he
      · rw [q]; obtain ⟨o, ho, _⟩ := Src.it_obj h1; exact Heap.lt_size ho
    rw [upd_ne (Nat.ne_of_lt (Nat.lt_of_lt_of_le hlt hT))]
    exact (hf c hcm).1
  done := by
    intro X hP hw hK hc i pins s σ H E I hf st hg
    subst hP hw hK
    obtain ⟨xs, hx, hi⟩ := hg
    obtain ⟨⟨old, he⟩, h1⟩ := st
    obtain ⟨its1, lv1, ln1, gv1, lt1⟩ := Src.seen I hx
    have hh : X.A.in1.handled = none := I.ok.hd hc
    have W := GoesN.enumFrom (prog := X.prog) (w := X.w) (A := X.A) (elts := elts) (x1 := kk) (pos := tpos) 0 (Src.draws hh its1 e1 k1 n1) e hei hef List.mem_cons_self
    have hn : i = k1.len its1 := by rw [ln1]; exact hi
    subst hn
    exact W.stops s _ E ⟨⟨old, he⟩, ⟨h1, lv1⟩⟩ fun h' tk hk htk => I.turnedL (t' := tk) (ch := [e, e1]) (fun c o hb q => hk c o hb q) hf
  self := fun A i s Q E st h => by
    obtain ⟨⟨old, he⟩, _⟩ := st
    exact wpAny_pyIter_enum he h
theorem jok_en {P : Pm} {F B : Hp} {A : Nat → Addr} {n : Nat} {k1 : Src} {x : V} {d : D} (h1 : srcOf P.K B A n k1 x d) : JOk P F B A n (ItE P.K k1) (wkEn d) := by
  intro i F' B' A' m' H' _ l s
  have h1' := h1.mono l
  unfold wkEn
  cases hd : wlkOf m' d with
  | none => exact ⟨fun h => (by cases h), fun x h => (by cases h)⟩
  | some ds =>
    obtain ⟨xs, hx, rx⟩ := src_has s h1' hd
    simp only [Option.bind_some]
    unfold upTo
    refine ⟨fun h => ?_, fun w h => ?_⟩
    · split at h
      · rename_i hi
        rw [List.getElem?_eq_getElem hi] at h
        cases h
      · split at h
        · rename_i hi
          exact ⟨xs, hx, by rw [rx.length]; exact hi⟩
        · cases h
    · split at h
      · rename_i hi
        obtain ⟨v1, hv1, r1⟩ := rx.get (List.getElem?_eq_getElem hi)
        rw [List.getElem?_eq_getElem hi] at h
        simp only [Option.map_some, Option.some.injEq] at h
        subst h
        refine ⟨⟨xs, hx, by rw [rx.length]; exact hi⟩, fun u H2 hu => ?_⟩
        obtain ⟨T, x', rfl, hT, rfl, e1⟩ := hu
        have q1 := e1 xs hx
        rw [hv1] at q1
        cases q1
        have ex := s.frozenEx (o := .tup [.int (i : Nat), v1]) hT
        exact ⟨_, ex, s.frozen hT, .tup (SqT.of upd_same) (.cons (.int _) (.cons (r1.mono (Le.base ex)) .nil))⟩
      · split at h <;> cases h
section
variable {X : Cx} {P : Pm} {E : XK} {pos : Pos}
theorem xi_en {a : Expr} {fa : SE} {p tpos : Pos} {elts : List Expr} {kk : Nat} (hK : X.K = P.K) (hg : Gl X "enumerate") (hm : X.mg "enumerate" = none) (ha : PE X a (tX P E fa)) (hs : starEach [a] X.env = (false, eval a X.env) :: starEach [] X.env := by rfl) :
    PI X (.Tuple elts kk tpos) (.Call (.Name "enumerate" p) [a] [] pos) (tXI P E (itEn fa)) := by
  refine ⟨fun pins s σ H R I ⟨F, B, A, ρ, m, sr, e, h⟩ => ?_⟩
  have args : PA X [a] (tCons (tX P E fa) tNil) := pa_cons ha pa_nil hs
  have rd : tCons (tX P E fa) tNil σ H fun vs H1 => ∃ x, vs = [x] ∧ ∃ B1 A1 m1 d, SR P F B1 A1 m1 H1 ∧ Rep P.K B1 A1 m1.n x d ∧ ∃ ds, wlkOf m1 d = some ds ∧ ∀ J, JOk P F B1 A1 m1.n J (wkEn d) → R J H1 := by
    refine tX_go sr e (wp_bind h) fun dx m1 B1 A1 H1 x h1 l1 s1 rx => ?_
    refine ⟨x, rfl, B1, A1, m1, dx, s1, rx, ?_⟩
    split at h1
    · rename_i ds hd
      exact ⟨ds, hd, fun J j => h1 B1 A1 H1 J l1 s1 j⟩
    · exact h1.elim
  refine Call_ (ld_blt I hg hm boot_enumerate (PyProof.Rows.callWith_type1 (thn (args.run pos pins s σ H _ I rd) fun us s1 hq => ?_) hs rfl))
  obtain ⟨vs, H1, I1, rv, x, rfl, B1, A1, m1, d, s1', rx, ds, hd, hJ⟩ := hq
  obtain ⟨u1, rfl, ru1⟩ : ∃ u1, us = [u1] ∧ RelV x u1 := by
    cases rv with
    | cons r t =>
      cases t
      exact ⟨_, rfl, r⟩
  obtain ⟨k1, e1, h1⟩ := src_at s1' rx ru1 hd
  subst e1
  obtain ⟨xs, hx, _⟩ := src_has s1' h1 hd
  have hx' : k1.has X.K H1 xs := by rw [hK]; exact hx
  obtain ⟨its1, lv1, _, _, lt1⟩ := Src.seen I1 hx'
  refine en_begins (Src.begins its1 k1) lv1 fun h' he ho1 hk => wpAny_pyIter_enum he ?_
  have I2 : Inv X pins σ H1 { s1 with heap := h' } := I1.kept (t' := s1.toks) hk
  have nw : ∀ {j : Nat}, s1.heap.objs.size + j ∉ k1.fp := fun {j} hm => absurd (lt1 _ hm) (Nat.not_lt.mpr (Nat.le_add_right _ _))
  refine ⟨s1.heap.objs.size + 1, [s1.heap.objs.size + 1, s1.heap.objs.size], _, ItE X.K k1, H1, rfl, I2, turn_enK (Nat.succ_ne_self _) (fun hm => ?_) (nw (j := 0)), ⟨⟨.none, he⟩, Src.it_new _ _ k1 ho1⟩, fun c hcm => ?_, by rw [hK]; exact hJ _ (jok_en h1)⟩
  · rcases List.mem_cons.mp hm with q | q
    · exact absurd q (Nat.succ_ne_self _)
    · exact nw (j := 1) q
  · have hle : s1.heap.objs.size ≤ c := by
      simp only [List.mem_cons, List.not_mem_nil, or_false] at hcm
      rcases hcm with q | q <;> (rw [q]; first | exact Nat.le_add_right _ _ | exact Nat.le_refl _)
    exact I1.fpOk hle (I1.hok.fresh hle)
end
end LB

set_option Elab.async false
set_option linter.all false
set_option autoImplicit false
set_option maxRecDepth 100000
set_option maxHeartbeats 2000000
/-! Slices of texts, unpacking of lists, constants of the module. -/
namespace LB
open PySem PySem.Spec PyProof.Rows L2
section
variable {X : Cx} {P : Pm} {E : XK} {pos : Pos}
theorem cut_eq (z : Str) (lo hi : Option Int) : cutZ z lo hi = cutS z lo hi := by
  unfold cutZ cutS cutD
  simp [sIx_eq]
  rfl
theorem xe_slcS {e : Expr} {lo hi : Option Expr} {f : SE} {fl fh : SO} {p2 : Pos} (he : PE X e (tX P E f)) (hl : PO X lo (tXO P E fl)) (hh : PO X hi (tXO P E fh)) : PE X (.Subscript e (.Slice lo hi none p2) pos) (tX P E (slcS f fl fh)) := by
  refine pe_imp (pe_slice sl_str he hl hh) fun σ H Q ⟨F, B, A, ρ, m, s, e, h⟩ => ?_
  refine tX_go s e (wp_bind h) fun dx m1 B1 A1 H1 x h1 l1 s1 rx => ?_
  refine ⟨F, B1, A1, ρ, m1, s1, e.mono l1, Rs.wp_mono (wp_le l1 (wp_bind h1)) (fun l m2 h2 B2 A2 H2 l2 s2 => ?_) fun _ _ x => x⟩
  refine ⟨F, B2, A2, ρ, m2, s2, (e.mono l1).mono l2, Rs.wp_mono (wp_le (l1.trans l2) (wp_bind h2)) (fun u m3 h3 B3 A3 H3 l3 s3 => ?_) fun _ _ x => x⟩
  obtain ⟨z, hz, h4⟩ := lift_wp h3
  unfold gSlS at hz
  split at hz
  · rename_i w
    split at hz
    · rename_i hlen
      cases hz
      cases rx
      refine ⟨w, rfl, hlen, ?_⟩
      rw [← cut_eq]
      exact h4 B3 A3 H3 _ ((l1.trans l2).trans l3) s3 (.str _)
    · cases hz
  · cases hz
theorem xs_asgU {es : List Expr} {e : Expr} {f : SE} {is : List Nat} {kk : Nat} {p2 : Pos} (hK : X.K = P.K) (hc : X.calm = true) (he : PE X e (tX P E f)) (hg : PGs X es (tXGs P is)) (hn : (assignEach es X.env).length = is.length := by rfl) (hst : (assignEach es X.env).findIdx? (·.1) = none := by rfl)
    (hs : swapsWithSole [.Tuple es kk p2] e pos.line X.env = pure false := by rfl) (hw : swappedStores [.Tuple es kk p2] e X.env = pure none := by rfl) (h1 : (assignEach [.Tuple es kk p2] X.env).map (·.2) = [assign (.Tuple es kk p2) X.env] := by rfl) :
    PS X (.Assign [.Tuple es kk p2] e pos) (tXS P E (sAsgU f is)) := by
  refine ps_imp (ps_asg he (pg_unl hc hg hn hst) hs hw h1) fun D σ H ⟨F, B, A, ρ, m, s, e, h⟩ => ?_
  refine tX_go s e (wp_bind h) fun dx m1 B1 A1 H1 x h1 l1 s1 rx => ?_
  unfold gUl at h1
  cases hd : lstOf m1 dx with
  | none => rw [hd] at h1; exact h1.elim
  | some ds =>
    cases hg' : gNms is ds ρ with
    | none => simp only [hd, hg', Option.bind_some] at h1; exact h1.elim
    | some ρ1 =>
      simp only [hd, hg', Option.bind_some] at h1
      obtain ⟨a, vs, rfl, ha, rs⟩ := lst_of s1 rx hd
      exact ⟨a, vs, rfl, SqL.of ha, by rw [rs.length, gNms_len hg'], B1, A1, m1.n, ρ, ds, ρ1, e.mono l1, s1.ex, rs, hg', fun σ1 e1 _ => h1 B1 A1 H1 σ1 l1 s1 e1⟩
end
end LB

set_option Elab.async false
set_option linter.all false
set_option autoImplicit false
set_option maxRecDepth 100000
set_option maxHeartbeats 2000000
/-! The text's defs by their names: what the top has written, promises by names. -/
namespace LB
open PySem PySem.Spec PyProof.Rows L2

structure Ctx (fa : List He.Fa) (fn : List He.DefD) (ts : List He.Tab) (ex : PySem.W.Frag → Bool) (w : World) (K : PySem.W.Frag) (mg : Str → Option Value) : Prop where
  at_ : ∃ h : Heap, K.In h ∧ h.Ns mainGlobals mg ∧ He.SaysX fa fn ts [] ex w h K
section
variable {fa : List He.Fa} {fn : List He.DefD} {ts : List He.Tab} {ex : PySem.W.Frag → Bool} {w : World} {K : PySem.W.Frag} {mg : Str → Option Value}
theorem Ctx.glo (c : Ctx fa fn ts ex w K mg) (i : Nat) {x : Str} (h : fa[i]? = some (.glo x) := by rfl) : mg x = some (.ref (He.ga K x)) := let ⟨_, X, G, S⟩ := c.at_; He.glo_ok X G (S.t.d.fact i h)
theorem Ctx.free (c : Ctx fa fn ts ex w K mg) (i : Nat) {x : Str} (h : fa[i]? = some (.free x) := by rfl) : mg x = none := let ⟨_, X, G, S⟩ := c.at_; He.free_ok X G (S.t.d.fact i h)
theorem Ctx.int (c : Ctx fa fn ts ex w K mg) (i : Nat) {x : Str} {n : Int} (h : fa[i]? = some (.int x n) := by rfl) : ∃ t, mg x = some (.int n t) := let ⟨_, X, G, S⟩ := c.at_; He.int_ok X G (S.t.d.fact i h)
theorem Ctx.cls (c : Ctx fa fn ts ex w K mg) (i : Nat) {x : Str} (h : fa[i]? = some (.cls x) := by rfl) : Cls K (He.ga K x) := let ⟨_, _, _, S⟩ := c.at_; He.cls_ok (S.t.d.fact i h)
theorem Ctx.noat (c : Ctx fa fn ts ex w K mg) (i : Nat) {x f : Str} (h : fa[i]? = some (.noat x f) := by rfl) : NoAttr K (He.ga K x) f := let ⟨_, _, _, S⟩ := c.at_; He.noat_ok (S.t.d.fact i h)
theorem Ctx.meth (c : Ctx fa fn ts ex w K mg) (i : Nat) {x f : Str} (h : fa[i]? = some (.meth x f) := by rfl) : Meth K (He.ga K x) f (He.ma K (He.ga K x) f) := let ⟨_, _, _, S⟩ := c.at_; He.meth_ok (S.t.d.fact i h)
theorem Ctx.mkr (c : Ctx fa fn ts ex w K mg) (i : Nat) {x : Str} (h : fa[i]? = some (.mkr x) := by rfl) : Mk K (He.ga K x) (He.ma K (He.ga K x) "__init__") := let ⟨_, _, _, S⟩ := c.at_; He.mkr_ok (S.t.d.fact i h)
theorem Ctx.more (c : Ctx fa fn ts ex w K mg) : ex K = true := let ⟨_, _, _, S⟩ := c.at_; S.more
theorem Ctx.def_ (c : Ctx fa fn ts ex w K mg) (i : Nat) {d : He.DefD} (h : fn[i]? = some d := by rfl) : ∃ fd, FunD K d.name d.qual d.params d.body d.scope (d.dvs K) (d.kws K) (He.fAd K d.at_) fd := let ⟨_, _, _, S⟩ := c.at_; S.t.d.def_ i h
theorem Ctx.tab (c : Ctx fa fn ts ex w K mg) (i : Nat) {t : He.Tab} (h : ts[i]? = some t := by rfl) : ∃ es n, KDict K w (t.1 K) es n := let ⟨_, _, _, S⟩ := c.at_; S.t.tab i h
end

/-- a def that is called by its name -/
structure Cal (Pg : Program) (w : World) (K : PySem.W.Frag) (mg : Str → Option Value) (base : Heap) (P : Pm) (x : Str) (k np : Nat) (mf : Fn) : Prop where
  ex : ∃ (f : Addr) (fd : FuncData) (ps : List Str), FnOk Pg w K mg base (L2.CX Pg w) k f fd ps (spF P mf np) ∧ mg x = some (.ref f) ∧ PySem.W.keepIn K (.ref f) = true ∧ Binds K fd ps []
section
variable {X : Cx} {P : Pm} {E : XK} {pos : Pos} {k np : Nat} {mf : Fn} {x : Str} {fas : SA}
theorem xe_callC {e : Expr} {es : List Expr} {p : Pos} (C : Cal X.prog X.w X.K X.mg X.base P x k np mf) (hr : Room k X.A) (hx : Passes (L2.CX X.prog X.w) X E) (ha : PA X (e :: es) (tXA P E fas)) (hg : Gl X x := by rfl) (hdb : (x == ("__debug__" : Str)) = false := by decide)
    (he : starEach (e :: es) X.env = (false, eval e X.env) :: starEach es X.env := by rfl) (hpl : (backTo pos (starEach es X.env)).any (·.1) = false := by rfl) : PE X (.Call (.Name x p) (e :: es) [] pos) (tX P E (callN np mf fas)) := by
  obtain ⟨f, fd, ps, G, hm, hk, hb⟩ := C.ex
  exact xe_call G hr hg hm hk hb hx ha hdb he hpl
theorem xe_gint {i : Int} (h : ∃ t, X.mg x = some (.int i t)) (hg : Gl X x := by rfl) (hd : (x == ("__debug__" : Str)) = false := by decide) : PE X (.Name x pos) (tX P E (cn (.int i))) := by
  obtain ⟨t, ht⟩ := h
  exact xe_glob (v := .int i) hg ht ⟨t, rfl⟩ (fun _ _ _ => .int i) hd
/-- a thing of the module that stays -/
def GV (K : PySem.W.Frag) (mg : Str → Option Value) (x : Str) (d : D) : Prop := ∃ v u, mg x = some u ∧ RelV v u ∧ ∀ B A n, Rep K B A n v d
theorem xe_gval {d : D} (h : GV P.K X.mg x d) (hg : Gl X x := by rfl) (hd : (x == ("__debug__" : Str)) = false := by decide) : PE X (.Name x pos) (tX P E (cn d)) := by
  obtain ⟨v, u, hm, r, hr⟩ := h
  exact xe_glob hg hm r hr hd
/-- a dict of texts that the module holds -/
structure Tb (K : PySem.W.Frag) (w : World) (mg : Str → Option Value) (x : Str) (tbl : List (Str × D)) : Prop where
  ex : ∃ (d : Addr) (es : Array DictEntry) (n : Nat), mg x = some (.ref d) ∧ KDict K w d es n ∧ ∀ z, match tbl.lookup z with
    | some y => ∃ u v, PySem.W.nsIn K d z = some (some u) ∧ RelV v u ∧ ∀ B A n, Rep K B A n v y
    | none => PySem.W.nsIn K d z = some none
variable {tbl : List (Str × D)} {a : Expr} {fa : SE} {p : Pos}
theorem tb_case (tbl : List (Str × D)) (z : Str) {K : PySem.W.Frag} {d : Addr} (h : match tbl.lookup z with
    | some y => ∃ u v, PySem.W.nsIn K d z = some (some u) ∧ RelV v u ∧ ∀ B A n, Rep K B A n v y
    | none => PySem.W.nsIn K d z = some none) : ∃ r, PySem.W.nsIn K d z = some r ∧ r.isSome = (tbl.lookup z).isSome := by
  cases e : tbl.lookup z with
  | none =>
    rw [e] at h
    exact ⟨none, h, rfl⟩
  | some y =>
    rw [e] at h
    obtain ⟨u, v, h1, _⟩ := h
    exact ⟨some u, h1, rfl⟩
theorem xe_notInK (hK : X.K = P.K) (t : Tb X.K X.w X.mg x tbl) (ha : PE X a (tX P E fa)) (hg : Gl X x := by rfl) (hd : (x == ("__debug__" : Str)) = false := by decide) (hm : behindInMarks .NotIn (.Name x p) = false := by rfl) : PT X (.Compare a [.NotIn] [.Name x p] pos) (tXT P E (tV (op1 (gNotInK tbl) fa))) := by
  obtain ⟨d, es, n, hmg, D, hz⟩ := t.ex
  refine pt_imp (pt_cmpR (op_notIn_kd D) ha (pe_glob (v := .ref d) hg hmg rfl hd) hm) fun σ H Q h => ?_
  refine op1_imp (r := fun x H Q => ∃ (z : Str) (r : Option Value), x = .str z ∧ V.ref d = .ref d ∧ PySem.W.nsIn X.K d z = some r ∧ Q (.bl (!r.isSome)) H) ?_ (tV_imp h)
  intro F B A m H x dx z Q s rx hz' k
  unfold gNotInK at hz'
  split at hz'
  · rename_i w
    cases rx
    cases hz'
    obtain ⟨r, h1, h2⟩ := tb_case tbl w (hz w)
    exact ⟨w, r, rfl, rfl, h1, by rw [h2]; exact k B H _ (Ex.refl B) s (.bl _)⟩
  · cases hz'
theorem xe_getK (hK : X.K = P.K) (t : Tb X.K X.w X.mg x tbl) (ha : PE X a (tX P E fa)) (hg : Gl X x := by rfl) (hd : (x == ("__debug__" : Str)) = false := by decide) (hs : PlainIx a := by exact fun _ _ => rfl) : PE X (.Subscript (.Name x p) a pos) (tX P E (op1 (gGetK tbl) fa)) := by
  obtain ⟨d, es, n, hmg, D, hz⟩ := t.ex
  refine pe_imp (pe_ix ix_kdict (pe_glob (v := .ref d) hg hmg rfl hd) ha hs) fun σ H Q h => ?_
  refine op1_imp (r := fun x H Q => rIxD X.K X.w (.ref d) x H Q) ?_ h
  intro F B A m H x dx z Q s rx hz' k
  unfold gGetK at hz'
  split at hz'
  · rename_i w
    cases rx
    have q := hz w
    rw [hz'] at q
    obtain ⟨u, v, h1, h2, h3⟩ := q
    exact ⟨d, w, v, rfl, rfl, ⟨es, n, u, D.at_, D.lit, h1, h2⟩, k B H v (Ex.refl B) s (by rw [← hK]; exact h3 B A m.n)⟩
  · cases hz'
end
section
variable {fa : List He.Fa} {fn : List He.DefD} {ts : List He.Tab} {ex : PySem.W.Frag → Bool} {Pg : Program} {w : World} {K : PySem.W.Frag} {mg : Str → Option Value} {base : Heap} {P : Pm}
theorem cal_of (c : Ctx fa fn ts ex w K mg) {st : Stmt} {x : Str} {N ps : List Str} {k : Nat} {mf : Fn} {fb : SS} (i j : Nat) (S : FnScope N ps (defScope st))
    (hbd : ∀ (kV doc pm : Value) (an : Option Addr) (cdv ct : Value) (us : List Value), us.length = ps.length → bindArgs (PySem.W.fnOf x x (defArgs st) (defBody st) (defScope st) .none kV doc pm an cdv ct) ⟨us, []⟩ = pure (ps.zip us))
    (hm : ∀ ds m, ds.length = ps.length → LeR m (mf ds m) (run N.length fb ds m))
    (hb : ∀ (f : Addr) (cdv : Value) (A : Around) (outer : List Env) (s : Shared) (H : Hp) (E : XK), Room k (A.deeper (envOfC x (defScope st) s.heap.objs.size f cdv)) →
      Passes (L2.CX Pg w) (cxOf (L2.CX Pg w) Pg w K mg base N x (defScope st) f cdv A outer s H E) E → PassesOwn (model Pg w) (A.deeper (envOfC x (defScope st) s.heap.objs.size f cdv)) (envOfC x (defScope st) s.heap.objs.size f cdv) (cxOf (L2.CX Pg w) Pg w K mg base N x (defScope st) f cdv A outer s H E).xe →
      PSs (cxOf (L2.CX Pg w) Pg w K mg base N x (defScope st) f cdv A outer s H E) (defBody st) (tXS P E fb))
    (hi : fa[i]? = some (.glo x) := by rfl) (hj : fn[j]? = some ⟨(x, none), x, x, defArgs st, defBody st, defScope st, [], []⟩ := by rfl) : Cal Pg w K mg base P x (k + 1) ps.length mf := by
  obtain ⟨fd, F⟩ := c.def_ j hj
  have F2 : FunD K x x (defArgs st) (defBody st) (defScope st) [] [] (He.ga K x) fd := F
  refine ⟨He.ga K x, fd, ps, ok_fn (He5.fun_of F2) S hm fun cdv A outer s H E hr => ?_, c.glo i hi, F2.kp, F2.bindsN hbd⟩
  refine hb _ cdv A outer s H E hr ?_ ?_
  · exact passes_call (takes_of rfl rfl rfl rfl) fun _ _ _ _ h => h
  · exact passes_of rfl
end
end LB

set_option Elab.async false
set_option linter.all false
set_option autoImplicit false
set_option maxRecDepth 100000
set_option maxHeartbeats 2000000
/-! A name given a comprehension, two names at once, signs, list * int. -/
namespace LB
open PySem PySem.Spec PyProof.Rows L2
section
variable {X : Cx} {P : Pm} {E : XK} {pos : Pos}
theorem xs_setLc {i : Nat} {y : Str} {py : Pos} {elt tg iter : Expr} {ifs : List Expr} {scope : Scope} {own : List (Str × Nat)} {spos : Pos} {it : SI} {g : SG} {is : List Nat} {ft : SB} {fe : SE} (hc : X.calm = true) (hN : X.N.Nodup)
    (hi : PI X tg iter (tXI P E it)) (ok : BlkOk X.N X.env.scope scope own)
    (hg : ∀ (s : Shared) (H : Hp) (C : Addr) (cl : List (Str × Addr)) (fp : List Addr), PG (X.blk s H scope (compEnvC scope cl C X.env) fp) tg (tXG P g is)) (ht : ∀ (s : Shared) (H : Hp) (C : Addr) (cl : List (Str × Addr)) (fp : List Addr), PTs (X.blk s H scope (compEnvC scope cl C X.env) fp) ifs (tXT P E0 ft))
    (he : ∀ (s : Shared) (H : Hp) (C : Addr) (cl : List (Str × Addr)) (fp : List Addr), PE (X.blk s H scope (compEnvC scope cl C X.env) fp) elt (tX P E0 fe)) (hown : ∀ i ∈ is, i ∈ own.map (·.2))
    (hy : X.N[i]? = some y := by rfl) (hyl : X.env.scope.names.lookup y = some .local := by rfl) (hsw : swapsWith (.ListComp elt [⟨tg, iter, ifs, 0⟩] scope pos) (some (.Name y py)) spos.line X.env = pure true := by exact sw_true rfl rfl rfl (by decide +kernel)) (hs : ∀ x, foldedSetIterable iter X.env x = pure x := by intro _; rfl) :
    PS X (.Assign [.Name y py] (.ListComp elt [⟨tg, iter, ifs, 0⟩] scope pos) spos) (tXS P E (sAsg (comp it g ft fe (own.map (·.2))) (gNm i))) := by
  refine ps_imp (ps_setLc hc hN hy hyl hsw hi ok hg ht he hs) fun D σ H ⟨F, B, A, ρ, m, s, e, h⟩ => ?_
  refine comp_core hown s e (wp_bind (wp_bind h)) fun ds m1 B1 A1 H1 p vs h1 l1 hF s1 rs => ?_
  obtain ⟨s2, ex⟩ := s1.toBase hF
  have l2 := l1.trans (Le.base (A := A1) (n := m1.n) ex)
  exact h1 _ A1 H1 _ l2 s2 ((e.mono l2).set (.lst upd_same (rs.mono (Le.base ex))) i)
theorem xs_setLcM {i : Nat} {y : Str} {py : Pos} {elt tg iter : Expr} {ifs : List Expr} {scope : Scope} {own : List (Str × Nat)} {spos : Pos} {it : SI} {g : SG} {is : List Nat} {ft : SB} {fe : SE} (hc : X.calm = true) (hN : X.N.Nodup)
    (hi : PI X tg iter (tXI P E it)) (ok : BlkOk X.N X.env.scope scope own)
    (hg : ∀ (s : Shared) (H : Hp) (C : Addr) (cl : List (Str × Addr)) (fp : List Addr), PG (X.blk s H scope (compEnvC scope cl C X.env) fp) tg (tXG P g is)) (ht : ∀ (s : Shared) (H : Hp) (C : Addr) (cl : List (Str × Addr)) (fp : List Addr), PTs (X.blk s H scope (compEnvC scope cl C X.env) fp) ifs (tXT P E0 ft))
    (he : ∀ (s : Shared) (H : Hp) (C : Addr) (cl : List (Str × Addr)) (fp : List Addr), PE (X.blk s H scope (compEnvC scope cl C X.env) fp) elt (tX P E0 fe)) (hown : ∀ i ∈ is, i ∈ own.map (·.2))
    (hy : X.N[i]? = some y := by rfl) (hyl : X.env.scope.names.lookup y = some .local := by rfl) (hsw : swapsWith (.ListComp elt [⟨tg, iter, ifs, 0⟩] scope pos) (some (.Name y py)) spos.line X.env = pure true := by exact sw_true rfl rfl rfl (by decide +kernel)) (hs : ∀ x, foldedSetIterable iter X.env x = pure x := by intro _; rfl) :
    PS X (.Assign [.Name y py] (.ListComp elt [⟨tg, iter, ifs, 0⟩] scope pos) spos) (tXS P E (sAsg (compM it g ft fe (own.map (·.2))) (gNm i))) := by
  refine ps_imp (ps_setLc hc hN hy hyl hsw hi ok hg ht he hs) fun D σ H ⟨F, B, A, ρ, m, s, e, h⟩ => ?_
  refine comp_core hown s e (wp_bind (wp_bind h)) fun ds m1 B1 A1 H1 p vs h1 l1 hF s1 rs => ?_
  have s2 := s1.toCell hF rs
  have l2 := l1.trans (s1.leNew p (.lst ds))
  exact h1 B1 (cons1 A1 m1.n p) H1 _ l2 s2 ((e.mono l2).set (.loc (Nat.lt_succ_self _) cons1_at) i)
theorem xs_par {i j : Nat} {x y : Str} {a b : Expr} {fa fb : SE} {px py pt : Pos} {kt k2 : Nat} {pt2 : Pos} (hc : X.calm = true) (hN : X.N.Nodup) (hij : i ≠ j) (ha : PE X a (tX P E fa)) (hb : PE X b (tX P E fb)) (hi : X.N[i]? = some x := by rfl) (hj : X.N[j]? = some y := by rfl)
    (hx : X.env.scope.names.lookup x = some .local := by rfl) (hy : X.env.scope.names.lookup y = some .local := by rfl)
    (hs1 : starEach [a, b] X.env = (false, eval a X.env) :: starEach [b] X.env := by rfl) (hs2 : starEach [b] X.env = (false, eval b X.env) :: starEach [] X.env := by rfl)
    (hw : swappedStores [.Tuple [.Name x px, .Name y py] kt pt] (.Tuple [a, b] k2 pt2) X.env = pure (some [x, y]) := by rfl)
    (hs : swapsWithSole [.Tuple [.Name x px, .Name y py] kt pt] (.Tuple [a, b] k2 pt2) pos.line X.env = pure false := by rfl) :
    PS X (.Assign [.Tuple [.Name x px, .Name y py] kt pt] (.Tuple [a, b] k2 pt2) pos) (tXS P E (sPar i j fa fb)) := by
  refine ps_imp (ps_par hc hN hi hj hij hx hy (pa_cons ha (pa_cons hb pa_nil hs2) hs1) hw hs) fun D σ H ⟨F, B, A, ρ, m, s, e, h⟩ => ?_
  refine tX_go s e (wp_bind h) fun dx m1 B1 A1 H1 v h1 l1 s1 rx => ?_
  refine tX_go s1 (e.mono l1) (wp_le l1 (wp_bind h1)) fun dy m2 B2 A2 H2 u h2 l2 s2 ry => ?_
  exact ⟨v, u, rfl, h2 B2 A2 H2 _ (l1.trans l2) s2 ((((e.mono l1).mono l2).set (rx.mono l2) i).set ry j)⟩
theorem xe_neg {a : Expr} {fa : SE} (ha : PE X a (tX P E fa)) : PE X (.UnaryOp .USub a pos) (tX P E (op1 gNeg fa)) := by
  refine pe_imp (pe_un un_neg ha) fun σ H Q h => ?_
  refine op1_imp ?_ h
  intro F B A m H x dx z Q s rx hz k
  unfold gNeg at hz
  split at hz
  · cases rx
    cases hz
    exact ⟨_, rfl, k B H _ (Ex.refl B) s (.int _)⟩
  · cases hz
end
/-! list * int -/
section
variable {X : Cx} {P : Pm} {E : XK} {pos : Pos} {a b : Expr} {fa fb : SE}
theorem Reps.rep {K : PySem.W.Frag} {B : Hp} {A : Nat → Addr} {n : Nat} {vs : List V} {ds : List D} (r : Reps K B A n vs ds) : ∀ k : Nat, Reps K B A n (List.replicate k vs).flatten (List.replicate k ds).flatten
  | 0 => .nil
  | k + 1 => by
    rw [List.replicate_succ, List.replicate_succ, List.flatten_cons, List.flatten_cons]
    exact r.append (Reps.rep r k)
theorem xe_rep (ha : PE X a (tX P E fa)) (hb : PE X b (tX P E fb)) : PE X (.BinOp a .Mult b pos) (tX P E (op2 gRep fa fb)) := by
  refine xe_op op_rep ?_ ha hb
  intro F B A m H x y dx dy z Q s rx ry hz k
  unfold gRep at hz
  split at hz
  · rename_i j
    cases ry
    cases hs : lstOf m dx with
    | none => rw [hs] at hz; cases hz
    | some xs =>
      simp only [hs, Option.bind_some] at hz
      split at hz
      · rename_i hc
        cases hz
        obtain ⟨p, vs, rfl, hp, rs⟩ := lst_of s rx hs
        exact ⟨p, j, vs, rfl, rfl, hp, hc.1, hc.2.1, by rw [rs.length]; exact hc.2.2, fun q hq => k _ _ _ (s.frozenEx hq) (s.frozen hq) (.lst upd_same ((rs.rep _).mono (Le.base (s.frozenEx hq))))⟩
      · cases hz
  · cases hz
theorem xe_repM (ha : PE X a (tX P E fa)) (hb : PE X b (tX P E fb)) : PE X (.BinOp a .Mult b pos) (tX P E (op2M gRep fa fb)) := by
  refine pe_imp (pe_op op_rep ha hb) fun σ H Q ⟨F, B, A, ρ, m, s, e, h⟩ => ?_
  refine tX_go s e (wp_bind h) fun dx m1 B1 A1 H1 x h1 l1 s1 rx => ?_
  refine tX_go s1 (e.mono l1) (wp_le l1 (wp_bind h1)) fun dy m2 B2 A2 H2 y h2 l2 s2 ry => ?_
  obtain ⟨z, hz, h3⟩ := lift_wp (wp_bind h2)
  unfold gRep at hz
  split at hz
  · rename_i j
    cases ry
    cases hs : lstOf m2 dx with
    | none => rw [hs] at hz; cases hz
    | some xs =>
      simp only [hs, Option.bind_some] at hz
      split at hz
      · rename_i hc
        cases hz
        obtain ⟨p, vs, rfl, hp, rs⟩ := lst_of s2 (rx.mono l2) hs
        exact ⟨p, j, vs, rfl, rfl, hp, hc.1, hc.2.1, by rw [rs.length]; exact hc.2.2, fun q hq => alloc_lst (l1.trans l2) s2 (rs.rep _) h3 hq⟩
      · cases hz
  · cases hz
end
end LB

set_option Elab.async false
set_option linter.all false
set_option autoImplicit false
set_option maxRecDepth 100000
set_option maxHeartbeats 2000000
/-! Constants of the module by a Boolean look; the law's own def. -/
namespace LB
open PySem PySem.Spec PyProof.Rows L2
/-- a value without a place -/
def relD : D → Value → Bool
  | .non, .none => true
  | .bl b, .bool c => b == c
  | .int i, .int j _ => decide (i = j)
  | .str x, .str y _ => decide (x = y)
  | _, _ => false
def vOfD : D → V
  | .bl b => .bl b
  | .int i => .int i
  | .str x => .str x
  | _ => .non
theorem relD_ok {d : D} {u : Value} (h : relD d u = true) : RelV (vOfD d) u ∧ ∀ K B A n, Rep K B A n (vOfD d) d := by
  unfold relD at h
  split at h
  · exact ⟨rfl, fun _ _ _ _ => .non⟩
  · rename_i b c
    cases beq_iff_eq.mp h
    exact ⟨rfl, fun _ _ _ _ => .bl _⟩
  · rename_i i j t
    cases of_decide_eq_true h
    exact ⟨⟨t, rfl⟩, fun _ _ _ _ => .int _⟩
  · rename_i i j t
    cases of_decide_eq_true h
    exact ⟨⟨t, rfl⟩, fun _ _ _ _ => .str _⟩
  · cases h
def relDs : List D → List Value → Bool
  | [], [] => true
  | d :: ds, u :: us => relD d u && relDs ds us
  | _, _ => false
theorem relDs_ok : ∀ {ds : List D} {us : List Value}, relDs ds us = true → Vals (ds.map vOfD) us ∧ ∀ K B A n, Reps K B A n (ds.map vOfD) ds
  | [], [], _ => ⟨.nil, fun _ _ _ _ => .nil⟩
  | d :: ds, u :: us, h => by
    obtain ⟨h1, h2⟩ := Bool.and_eq_true_iff.mp (show (relD d u && relDs ds us) = true from h)
    exact ⟨.cons (relD_ok h1).1 (relDs_ok h2).1, fun K B A n => .cons ((relD_ok h1).2 K B A n) ((relDs_ok h2).2 K B A n)⟩
  | [], _ :: _, h => by cases h
  | _ :: _, [], h => by cases h
/-- a flat tuple that the module names -/
def tupB (K : PySem.W.Frag) (a : Addr) (ds : List D) : Bool := match K.lookup a with
  | some ⟨.type c, _, .seq its _, _⟩ => decide (c = "tuple") && (decide (its.size ≤ sizeLine) && relDs ds its.toList)
  | _ => false
theorem tupB_ok {K : PySem.W.Frag} {a : Addr} {ds : List D} (h : tupB K a ds = true) : ∀ B A n, Rep K B A n (.ref a) (.tup ds) := by
  unfold tupB at h
  split at h
  · rename_i c od its n sl hl
    obtain ⟨h1, h2⟩ := Bool.and_eq_true_iff.mp h
    obtain ⟨h3, h4⟩ := Bool.and_eq_true_iff.mp h2
    have hc := of_decide_eq_true h1
    subst hc
    exact fun B A m => .tup (.inr ⟨_, its, n, hl, rfl, rfl, of_decide_eq_true h3, (relDs_ok h4).1⟩) ((relDs_ok h4).2 K B A m)
  · cases h
theorem gv_tup {K : PySem.W.Frag} {mg : Str → Option Value} {x : Str} {ds : List D} (hm : mg x = some (.ref (He.ga K x))) (h : tupB K (He.ga K x) ds = true) : GV K mg x (.tup ds) :=
  ⟨.ref (He.ga K x), .ref (He.ga K x), hm, rfl, tupB_ok h⟩
/-- a dict of texts -/
def entB : List (Str × D) → List DictEntry → Bool
  | [], [] => true
  | p :: t, e :: l => (match e.key with
    | .str x _ => decide (x = p.1)
    | _ => false) && (relD p.2 e.val && entB t l)
  | _, _ => false
theorem entB_ok (z : Str) : ∀ {tbl : List (Str × D)} {l : List DictEntry}, entB tbl l = true → l.any (·.refKey) = false ∧ match tbl.lookup z with
    | some y => ∃ e, l.find? (·.key.isStr z) = some e ∧ relD y e.val = true
    | none => l.find? (·.key.isStr z) = none
  | [], [], _ => ⟨rfl, rfl⟩
  | (k, d) :: t, e :: l, h => by
    obtain ⟨h1, h2⟩ := Bool.and_eq_true_iff.mp (show ((match e.key with
      | .str x _ => decide (x = k)
      | _ => false) && (relD d e.val && entB t l)) = true from h)
    obtain ⟨h3, h4⟩ := Bool.and_eq_true_iff.mp h2
    obtain ⟨i1, i2⟩ := entB_ok z h4
    split at h1
    · rename_i x q hk
      have hx := of_decide_eq_true h1
      subst hx
      have er : e.refKey = false := by unfold DictEntry.refKey; rw [hk]
      have es : e.key.isStr z = (x == z) := by rw [hk]; rfl
      refine ⟨by rw [List.any_cons, er, i1]; rfl, ?_⟩
      by_cases hz : z = x
      · subst hz
        rw [List.lookup_cons_self]
        exact ⟨e, by rw [List.find?_cons, es, beq_self_eq_true], h3⟩
      · have n1 : (z == x) = false := by simpa using hz
        have n2 : (x == z) = false := by simpa using fun h => hz h.symm
        rw [List.lookup_cons, n1, List.find?_cons, es, n2]
        exact i2
    · cases h1
  | [], _ :: _, h => by cases h
  | _ :: _, [], h => by cases h
def tabB (K : PySem.W.Frag) (a : Addr) (tbl : List (Str × D)) : Bool := match K.lookup a with
  | some ⟨_, _, .dict es _, _⟩ => entB tbl es.toList
  | _ => false
theorem tb_of {K : PySem.W.Frag} {w : World} {mg : Str → Option Value} {x : Str} {tbl : List (Str × D)} (hm : mg x = some (.ref (He.ga K x))) (hd : ∃ es n, KDict K w (He.ga K x) es n) (h : tabB K (He.ga K x) tbl = true) : Tb K w mg x tbl := by
  obtain ⟨es, n, D⟩ := hd
  refine ⟨He.ga K x, es, n, hm, D, fun z => ?_⟩
  unfold tabB at h
  rw [D.at_] at h
  obtain ⟨h1, h2⟩ := entB_ok z (show entB tbl es.toList = true from h)
  have hn : PySem.W.nsIn K (He.ga K x) z = (match es.toList.find? (·.key.isStr z) with
      | some e => some (some e.val)
      | none => if es.toList.any (·.refKey) then none else some none) := by
    unfold PySem.W.nsIn
    rw [D.at_]
    rfl
  cases e : tbl.lookup z with
  | none =>
    rw [e] at h2
    have h3 : es.toList.find? (·.key.isStr z) = none := h2
    rw [h3, h1] at hn
    exact hn
  | some y =>
    rw [e] at h2
    obtain ⟨q, h3, h4⟩ := h2
    rw [h3] at hn
    exact ⟨q.val, vOfD y, hn, (relD_ok h4).1, (relD_ok h4).2 K⟩
section
variable {fa : List He.Fa} {fn : List He.DefD} {ts : List He.Tab} {ex : PySem.W.Frag → Bool} {Pg : Program} {w : World} {K : PySem.W.Frag} {mg : Str → Option Value} {P : Pm}
/-- the law's own def -/
theorem law_of (c : Ctx fa fn ts ex w K mg) {st : Stmt} {y : Str} {N : List Str} {k : Nat} {fb : SS} (i j : Nat) (S : FnScope N [y] (defScope st))
    (hbd : ∀ (kV doc pm : Value) (an : Option Addr) (cdv ct : Value) (us : List Value), us.length = [y].length → bindArgs (PySem.W.fnOf "law" "law" (defArgs st) (defBody st) (defScope st) .none kV doc pm an cdv ct) ⟨us, []⟩ = pure ([y].zip us))
    (hb : ∀ (base : Heap) (f : Addr) (cdv : Value) (A : Around) (outer : List Env) (s : Shared) (H : Hp) (E : XK), Room k (A.deeper (envOfC "law" (defScope st) s.heap.objs.size f cdv)) →
      Passes (L2.CX Pg w) (cxOf (L2.CX Pg w) Pg w K mg base N "law" (defScope st) f cdv A outer s H E) E → PassesOwn (model Pg w) (A.deeper (envOfC "law" (defScope st) s.heap.objs.size f cdv)) (envOfC "law" (defScope st) s.heap.objs.size f cdv) (cxOf (L2.CX Pg w) Pg w K mg base N "law" (defScope st) f cdv A outer s H E).xe →
      PSs (cxOf (L2.CX Pg w) Pg w K mg base N "law" (defScope st) f cdv A outer s H E) (defBody st) (tXS P E fb))
    (hK : P.K = K) (hj : fn[j]? = some ⟨("law", none), "law", "law", defArgs st, defBody st, defScope st, [], []⟩) (hi : fa[i]? = some (.glo "law"))
    (hlaw : ∀ ns : List Int, ns.length ≤ 63 → (run N.length fb [.scr ns] ⟨fun _ => none, 0⟩).wp (fun d _ => d = .bl true) fun _ _ => False) (f : Addr) (hf : mg "law" = some (.ref f)) :
    ∃ (fd : FuncData) (sp : Sp), (∀ (s : Shared) (u : Value), BindsTo s fd ⟨[u], []⟩ [(y, u)]) ∧ (∀ (H : Hp) (a : Addr) (ns : List Int), ns.length ≤ 63 → SqL K H a (ns.map V.int) → sp [.ref a] H (fun v _ => v = .bl true) fun _ _ _ => False) ∧
      ∀ base : Heap, K.In base → base.Ns mainGlobals mg → FnOk Pg w K mg base (L2.CX Pg w) (k + 1) f fd [y] sp := by
  obtain ⟨fd, F⟩ := c.def_ j hj
  have F2 : FunD K "law" "law" (defArgs st) (defBody st) (defScope st) [] [] (He.ga K "law") fd := F
  have e := hf.symm.trans (c.glo i hi)
  cases e
  have b := FunD.bindsA (ps := [y]) F2 hbd
  refine ⟨fd, spF P (run N.length fb) 1, fun s v => b s [v] rfl, fun H a ns hl hS => ?_, fun base _ _ => ok_fn (He5.fun_of F2) S (fun ds m _ => .same _) fun cdv A outer s H E hr => ?_⟩
  · refine ⟨fun _ => none, H, fun _ => 0, ⟨fun _ => none, 0⟩, [.scr ns], ⟨Ex.refl H, fun _ _ h => by (cases h), fun k _ h => absurd h (Nat.not_lt_zero k), fun j _ _ _ h => absurd h (Nat.not_lt_zero j)⟩, .cons (.scr (by rw [hK]; exact hS)) .nil, rfl, ?_⟩
    refine Rs.wp_mono (hlaw ns hl) (fun d m h => ?_) fun _ _ h => h.elim
    subst h
    intro B' A' H' v _ _ r
    cases r
    rfl
  · exact hb base _ cdv A outer s H E hr (passes_call (takes_of rfl rfl rfl rfl) fun _ _ _ _ h => h) (passes_of rfl)
end
end LB

set_option Elab.async false
set_option linter.all false
set_option autoImplicit false
set_option maxRecDepth 100000
set_option maxHeartbeats 2000000
/-! len(set(xs)), list(range(n)). -/
namespace LB
open PySem PySem.Spec PyProof.Rows L2
theorem firstMet_ddup (ns : List Int) : firstMet (fun i => ns.getD i 0) ns.length = ddup ns := by
  have e : (List.range ns.length).map (fun i => ns.getD i 0) = ns := by
    apply List.ext_getElem
    · rw [List.length_map, List.length_range]
    · intro i h1 h2
      rw [List.getElem_map, List.getElem_range, List.getD_eq_getElem?_getD, List.getElem?_eq_getElem h2]
      rfl
  unfold firstMet
  rw [e]
  rfl
section
variable {X : Cx} {P : Pm} {E : XK}
def tLenSetD (K : PySem.W.Frag) (ta : TE) : TE := fun σ H Q => ta σ H fun x H1 => ∃ (l : Addr) (ns : List Int), x = V.ref l ∧ SqL K H1 l (ns.map V.int) ∧ ns.length < 4000 ∧ Q (.int (ddup ns).length) H1
theorem pe_lenSetD {a : Expr} {ta : TE} {p p2 q pos : Pos} (hc : X.calm = true) (hg : Gl X "len") (hm : X.mg "len" = none) (hg2 : Gl X "set") (hm2 : X.mg "set" = none) (ha : PE X a ta)
    (hs : starEach [a] X.env = (false, eval a X.env) :: starEach [] X.env := by rfl) : PE X (.Call (.Name "len" p) [.Call (.Name "set" p2) [a] [] q] [] pos) (tLenSetD X.K ta) := by
  refine ⟨fun pins s σ H Q I h => ?_⟩
  refine Call_ (ld_blt I hg hm PySem.boot_len (callWith_builtin1 (args_cons ?_ rfl) rfl rfl))
  refine Call_ (ld_blt I hg2 hm2 PyProof.Rows.boot_set (callWith_type1 (args_cons (thn (ha.run pins s σ H _ I h) fun v s1 ⟨x, H1, I1, r1, q1⟩ => args_nil ?_) hs) hs rfl))
  obtain ⟨l, ns, rfl, hq, h1, q1⟩ := q1
  cases r1
  obtain ⟨us, r, pl, hz⟩ := I1.list hq
  have hl : us.toArray.size = ns.length := by
    rw [List.size_toArray, ← r.length, List.length_map]
  have hle := firstMet_length_le (fun i => ns.getD i 0) ns.length
  refine call_set_list (I1.ok.hd hc) pl.isList (ns := ns) (by simpa using r.ints) (by unfold scanBound; omega) fun h' tk hS hk => ?_
  rw [hl, firstMet_ddup] at hS
  rw [firstMet_ddup] at hle
  obtain ⟨o, es, ep, t, ho, hex, hd, _, _, _, hf, hn⟩ := hS
  have I2 : Inv X pins σ H1 { s1 with heap := h', toks := tk } := I1.kept fun b o e => hk b o (Heap.lt_size e) e
  exact args_nil (call_len_set ho hex hd hf (by rw [hn]; omega) ⟨.int (ddup ns).length, H1, I2.tok _, ⟨_, by rw [hn]⟩, q1⟩)
theorem xe_lenset {a : Expr} {fa : SE} {p p2 q pos : Pos} (hc : X.calm = true) (hK : X.K = P.K) (hm : X.mg "len" = none) (hm2 : X.mg "set" = none) (ha : PE X a (tX P E fa)) (hg : Gl X "len" := by rfl) (hg2 : Gl X "set" := by rfl)
    (hs : starEach [a] X.env = (false, eval a X.env) :: starEach [] X.env := by rfl) : PE X (.Call (.Name "len" p) [.Call (.Name "set" p2) [a] [] q] [] pos) (tX P E (op1 gLenSet fa)) := by
  refine pe_imp (pe_lenSetD hc hg hm hg2 hm2 ha hs) fun σ H Q h => ?_
  refine op1_imp (r := fun x H1 Q => ∃ (l : Addr) (ns : List Int), x = V.ref l ∧ SqL X.K H1 l (ns.map V.int) ∧ ns.length < 4000 ∧ Q (.int (ddup ns).length) H1) ?_ h
  intro F B A m H x dx z Q s rx hz k
  unfold gLenSet at hz
  cases hs : lstOf m dx with
  | none => rw [hs] at hz; cases hz
  | some ys =>
    rw [hs] at hz
    cases hi : intsOf ys with
    | none => simp only [Option.bind_some, hi] at hz; cases hz
    | some ns =>
      simp only [Option.bind_some, hi] at hz
      by_cases c : ns.length < 4000
      · rw [if_pos c] at hz
        cases hz
        obtain ⟨a, ws, rfl, ha, rw⟩ := lst_of s rx hs
        have e := ints_of rw hi
        subst e
        exact ⟨a, ns, rfl, SqL.of ha, c, k B H _ (Ex.refl B) s (.int _)⟩
      · rw [if_neg c] at hz
        cases hz
theorem reps_rg {B : Hp} {A : Nat → Addr} {n : Nat} {K : PySem.W.Frag} (a : Int) : ∀ l : List Nat, Reps K B A n (l.map fun i => V.int (a + (i : Nat))) (l.map fun i => D.int (a + (i : Nat)))
  | [] => .nil
  | i :: r => .cons (.int _) (reps_rg a r)
theorem xe_lrg {a : Expr} {fa : SE} {p p2 q pos : Pos} (hc : X.calm = true) (hm : X.mg "list" = none) (hm2 : X.mg "range" = none) (ha : PE X a (tX P E fa)) (hg : Gl X "list" := by rfl) (hg2 : Gl X "range" := by rfl)
    (hs : starEach [a] X.env = (false, eval a X.env) :: starEach [] X.env := by rfl) (hs2 : starEach [.Call (.Name "range" p2) [a] [] q] X.env = (false, eval (.Call (.Name "range" p2) [a] [] q) X.env) :: starEach [] X.env := by rfl) :
    PE X (.Call (.Name "list" p) [.Call (.Name "range" p2) [a] [] q] [] pos) (tX P E (op1 gLRg fa)) := by
  refine pe_imp (pe_listRg hc hg hm (prg_1 hg2 hm2 ha hs) hs2) fun σ H Q h => ?_
  show tX P E fa σ H fun x H1 => ∃ n, x = .int n ∧ (RgOk 0 n ∧ ∀ q, H1 q = none → Q (.ref q) (upd H1 q (.lst (rgV 0 n))))
  refine op1_imp (r := fun x H1 Q => ∃ n, x = .int n ∧ (RgOk 0 n ∧ ∀ q, H1 q = none → Q (.ref q) (upd H1 q (.lst (rgV 0 n))))) ?_ h
  intro F B A m H x dx z Q s rx hz k
  unfold gLRg at hz
  split at hz
  · rename_i n
    by_cases c : -(2 ^ 62) ≤ n ∧ n ≤ 16777216
    · rw [if_pos c] at hz
      cases hz
      cases rx
      refine ⟨n, rfl, ⟨by omega, by omega, by omega, by omega, by omega⟩, fun q hq => ?_⟩
      exact k _ _ _ (s.frozenEx hq) (s.frozen hq) (.lst upd_same (reps_rg 0 _))
    · rw [if_neg c] at hz
      cases hz
  · cases hz
end
end LB

set_option Elab.async false
set_option linter.all false
set_option autoImplicit false
set_option maxRecDepth 100000
set_option maxHeartbeats 2000000
/-! Objects: fields, methods, making. -/
namespace LB
open PySem PySem.Spec PyProof.Rows L2
section
variable {P : Pm} {F B : Hp} {A : Nat → Addr} {m : Mem} {H : Hp}
abbrev FdR (P : Pm) (B : Hp) (A : Nat → Addr) (n : Nat) : Str × V → Str × D → Prop := fun p q => p.1 = q.1 ∧ Rep P.K B A n p.2 q.2
theorem obj_of {c : Nat} {v : V} {d : D} {fds : List (Str × D)} (s : SR P F B A m H) (r : Rep P.K B A m.n v d) (h : objOf m c d = some fds) : ∃ k dx fs, d = .loc k ∧ v = .ref (A k) ∧ k < m.n ∧ m.get k = some (.obj c fds) ∧ H (A k) = some (.ins (P.CA c) dx fs) ∧ Paired (FdR P B A m.n) fs fds := by
  cases d with
  | loc k =>
    have h2 : (if k < m.n then (match m.get k with
      | some (.obj c2 fs) => if c2 = c then some fs else none
      | _ => none) else none) = some fds := h
    by_cases hk : k < m.n
    · rw [if_pos hk] at h2
      cases hg : m.get k with
      | none => rw [hg] at h2; cases h2
      | some o =>
        rw [hg] at h2
        cases o with
        | lst _ => cases h2
        | dct _ => cases h2
        | obj c2 fs2 =>
          have h3 : (if c2 = c then some fs2 else none) = some fds := h2
          by_cases hc : c2 = c
          · rw [if_pos hc] at h3
            cases h3
            subst hc
            cases r with
            | loc _ e =>
              subst e
              obtain ⟨_, ro⟩ := s.at_ k _ hk hg
              cases ro with
              | obj h1 pr => exact ⟨k, _, _, rfl, rfl, hk, hg, h1, pr⟩
          · rw [if_neg hc] at h3
            cases h3
    · rw [if_neg hk] at h2
      cases h2
  | _ => cases h
theorem fd_some {n : Nat} {f : Str} : ∀ {fs : List (Str × V)} {fds : List (Str × D)} {d : D}, Paired (FdR P B A n) fs fds → fds.lookup f = some d → ∃ v, fs.lookup f = some v ∧ Rep P.K B A n v d
  | _, _, _, .nil, h => by cases h
  | (g, v) :: fs, (g2, d2) :: fds, d, .cons q t, h => by
    obtain ⟨e, r⟩ := q
    have e2 : g = g2 := e
    subst e2
    rw [List.lookup_cons] at h ⊢
    cases hb : f == g with
    | true =>
      rw [hb] at h
      cases h
      exact ⟨v, rfl, r⟩
    | false =>
      rw [hb] at h
      exact fd_some t h
theorem fd_none {n : Nat} {f : Str} : ∀ {fs : List (Str × V)} {fds : List (Str × D)}, Paired (FdR P B A n) fs fds → fds.lookup f = none → fs.lookup f = none
  | _, _, .nil, _ => rfl
  | (g, v) :: fs, (g2, d2) :: fds, .cons q t, h => by
    obtain ⟨e, r⟩ := q
    have e2 : g = g2 := e
    subst e2
    rw [List.lookup_cons] at h ⊢
    cases hb : f == g with
    | true =>
      rw [hb] at h
      cases h
    | false =>
      rw [hb] at h
      exact fd_none t h
theorem fd_put {n : Nat} {f : Str} {v : V} {d : D} (r : Rep P.K B A n v d) : ∀ {fs : List (Str × V)} {fds : List (Str × D)}, Paired (FdR P B A n) fs fds → Paired (FdR P B A n) (putF f v fs) (putFD f d fds)
  | _, _, .nil => .cons ⟨rfl, r⟩ .nil
  | (g, u) :: fs, (g2, d2) :: fds, .cons q t => by
    obtain ⟨e, r2⟩ := q
    have e2 : g = g2 := e
    subst e2
    unfold putF putFD
    by_cases h : g = f
    · rw [if_pos h, if_pos h]
      exact .cons ⟨rfl, r⟩ t
    · rw [if_neg h, if_neg h]
      exact .cons ⟨rfl, r2⟩ (fd_put r t)
theorem fd_len {n : Nat} {fs : List (Str × V)} {fds : List (Str × D)} (h : Paired (FdR P B A n) fs fds) : fs.length = fds.length := Paired.length h
end
section
variable {X : Cx} {P : Pm} {E : XK} {pos : Pos} {k np : Nat} {mf : Fn} {fo fe : SE} {fas : SA} {o e : Expr} {f : Str} {c : Nat}
theorem xe_fld (hK : X.K = P.K) (hc : Cls X.K (P.CA c)) (hn : NoAttr X.K (P.CA c) f) (ho : PE X o (tX P E fo)) (hb : attributeBase o f X.env (eval o X.env) = eval o X.env := by rfl) : PE X (.Attribute o f pos) (tX P E (op1 (gFld c f) fo)) := by
  refine pe_imp (pe_fld ho hb) fun σ H Q h => ?_
  refine op1_imp (r := fun x H1 Q => ∃ a C dx fs v, x = .ref a ∧ H1 a = some (.ins C dx fs) ∧ Cls X.K C ∧ NoAttr X.K C f ∧ fs.lookup f = some v ∧ Q v H1) ?_ h
  intro F B A m H x dx z Q s rx hz k
  unfold gFld at hz
  cases ho : objOf m c dx with
  | none => rw [ho] at hz; cases hz
  | some fds =>
    rw [ho] at hz
    obtain ⟨j, dd, fs, rfl, rfl, hj, hg, hh, pr⟩ := obj_of s rx ho
    obtain ⟨v, hv, rv⟩ := fd_some pr hz
    exact ⟨A j, P.CA c, dd, fs, v, rfl, hh, hc, hn, hv, k B H v (Ex.refl B) s rv⟩
theorem xs_fput {value : Expr} {p2 : Pos} {fv : SE} (hc : Cls X.K (P.CA c)) (hn : NoAttr X.K (P.CA c) f) (ho : PE X o (tX P E fo)) (hv : PE X value (tX P E fv)) (hs : swapsWith value (some (.Attribute o f p2)) pos.line X.env = pure false := by rfl) :
    PS X (.Assign [.Attribute o f p2] value pos) (tXS P E (sFput c f fo fv)) := by
  refine ps_imp (ps_fld ho hv hs) fun D σ H ⟨F, B, A, ρ, m, s, e, h⟩ => ?_
  refine tX_go s e (wp_bind h) fun vd m1 B1 A1 H1 x h1 l1 s1 re => ?_
  refine tX_go s1 (e.mono l1) (wp_le l1 (wp_bind h1)) fun od m2 B2 A2 H2 y h2 l2 s2 rl => ?_
  replace h2 := wp_bind h2
  unfold fputK at h2
  split at h2
  · rename_i j
    split at h2
    · rename_i fds hof
      by_cases hl : fds.length < 1000
      · rw [if_pos hl] at h2
        obtain ⟨j2, dd, fs, ej, rfl, hj, hg, hh, pr⟩ := obj_of s2 rl hof
        cases ej
        refine ⟨A2 j, P.CA c, dd, fs, rfl, hh, hc, hn, by rw [fd_len pr]; exact hl, ?_⟩
        have s3 := s2.put (o' := .obj c (putFD f vd fds)) (u := .ins (P.CA c) dd (putF f x fs)) hj hg (.obj upd_same (fd_put (re.mono l2) pr))
        exact h2 B2 A2 _ σ (l1.trans l2) s3 ((e.mono l1).mono l2)
      · rw [if_neg hl] at h2
        exact h2.elim
    · exact h2.elim
  · exact h2.elim
/-- a method by its class -/
structure CalM (Pg : Program) (w : World) (K : PySem.W.Frag) (mg : Str → Option Value) (base : Heap) (P : Pm) (c : Nat) (x : Str) (k np : Nat) (mf : Fn) : Prop where
  ex : ∃ (f : Addr) (fd : FuncData) (ps : List Str), FnOk Pg w K mg base (L2.CX Pg w) k f fd ps (spF P mf np) ∧ Meth K (P.CA c) x f ∧ Binds K fd ps []
theorem callM_imp {mt : Str} {σ : L2.St} {H : Hp} {Q : VK} (h : tX P E (callM c np mt mf fo fas) σ H Q) : tX P E fo σ H fun x H1 => ∃ a dx fs, x = .ref a ∧ H1 a = some (.ins (P.CA c) dx fs) ∧ fs.lookup mt = none ∧ tXA P E fas σ H1 fun vs H2 => spF P mf np (x :: (vs ++ [])) H2 Q E := by
  obtain ⟨F, B, A, ρ, m, s, e, h⟩ := h
  refine tX_go s e (wp_bind h) fun d m1 B1 A1 H1 v h1 l1 s1 r => ?_
  replace h1 := wp_bind h1
  unfold chkO at h1
  split at h1
  · rename_i fds hof
    by_cases hn : (fds.lookup mt).isNone = true
    · rw [if_pos hn] at h1
      obtain ⟨j, dd, fs, rfl, rfl, hj, hg, hh, pr⟩ := obj_of s1 r hof
      refine ⟨A1 j, dd, fs, rfl, hh, fd_none pr (Option.isNone_iff_eq_none.mp hn), ?_⟩
      refine ⟨F, B1, A1, ρ, m1, s1, e.mono l1, ?_⟩
      refine Rs.wp_mono (wp_le l1 (wp_bind h1)) (fun ds m2 h2 => ?_) fun _ _ q => q
      intro B2 A2 H2 vs l2 s2 rs
      by_cases hl : ds.length + 1 = np
      · rw [if_pos hl] at h2
        refine ⟨F, B2, A2, m2, .loc j :: ds, s2, ?_, hl, ?_⟩
        · rw [List.append_nil]
          exact .cons (r.mono l2) rs
        · exact Rs.wp_mono (wp_le l2 (wp_le l1 h2)) (fun _ _ q => q.le (l1.trans l2)) fun _ _ q => q
      · rw [if_neg hl] at h2
        exact h2.elim
    · rw [if_neg hn] at h1
      exact h1.elim
  · exact h1.elim
theorem xe_meth {mt : Str} {e : Expr} {es : List Expr} {apos : Pos} {pl : Sem Bool} (C : CalM X.prog X.w X.K X.mg X.base P c mt k np mf) (hc : Cls X.K (P.CA c)) (hr : Room k X.A) (hx : Passes (L2.CX X.prog X.w) X E) (ho : PE X o (tX P E fo)) (ha : PA X (e :: es) (tXA P E fas))
    (hst : starEach (e :: es) X.env = (false, eval e X.env) :: starEach es X.env := by rfl) (hpl : (backTo pos (starEach es X.env)).any (·.1) = false := by rfl)
    (ht : eval (.Call (.Attribute o mt apos) (e :: es) [] pos) X.env = (do
      let ov ← eval o X.env
      standAt apos.atName
      let (f, first) ← holding [ov] (getMethod ov mt pl)
      callWith pos f first (backTo pos (starEach (e :: es) X.env)) (backToKw pos (keywordEach [] X.env))) := by rfl) : PE X (.Call (.Attribute o mt apos) (e :: es) [] pos) (tX P E (callM c np mt mf fo fas)) := by
  obtain ⟨f, fd, ps, G, hm, hb⟩ := C.ex
  exact pe_imp (pe_meth (pl := pl) ho hc hm G hr hb .nil hx ha hst hpl ht) fun σ H Q h => callM_imp h
theorem xe_meth0 {mt : Str} {apos : Pos} {pl : Sem Bool} (C : CalM X.prog X.w X.K X.mg X.base P c mt k np mf) (hc : Cls X.K (P.CA c)) (hr : Room k X.A) (hx : Passes (L2.CX X.prog X.w) X E) (ho : PE X o (tX P E fo))
    (ht : eval (.Call (.Attribute o mt apos) [] [] pos) X.env = (do
      let ov ← eval o X.env
      standAt apos.atName
      let (f, first) ← holding [ov] (getMethod ov mt pl)
      callWith pos f first (backTo pos (starEach [] X.env)) (backToKw pos (keywordEach [] X.env))) := by rfl) : PE X (.Call (.Attribute o mt apos) [] [] pos) (tX P E (callM c np mt mf fo argN)) := by
  obtain ⟨f, fd, ps, G, hm, hb⟩ := C.ex
  refine pe_imp (pe_meth0 (pl := pl) ho hc hm G hr hb .nil hx ht) fun σ H Q h => ?_
  have z := callM_imp h
  obtain ⟨F, B, A, ρ, m, s, en, z⟩ := z
  refine ⟨F, B, A, ρ, m, s, en, Rs.wp_mono z (fun d m1 q => ?_) fun _ _ q => q⟩
  intro B' A' H' v l s' r
  obtain ⟨a, dx, fs, e1, e2, e3, F2, B2, A2, ρ2, m2, s2, en2, z2⟩ := q B' A' H' v l s' r
  exact ⟨a, dx, fs, e1, e2, e3, z2 B2 A2 H' [] Le.refl s2 .nil⟩
/-- a class that is called by its name -/
structure CalI (Pg : Program) (w : World) (K : PySem.W.Frag) (mg : Str → Option Value) (base : Heap) (P : Pm) (c : Nat) (x : Str) (k np : Nat) (mf : Fn) : Prop where
  ex : ∃ (f : Addr) (fd : FuncData) (ps : List Str), FnOk Pg w K mg base (L2.CX Pg w) k f fd ps (spF P mf np) ∧ Mk K (P.CA c) f ∧ mg x = some (.ref (P.CA c)) ∧ Binds K fd ps []
theorem xe_mk {x : Str} {e : Expr} {es : List Expr} {p : Pos} (C : CalI X.prog X.w X.K X.mg X.base P c x k np mf) (hr : Room (k + 1) X.A) (hx : Passes (L2.CX X.prog X.w) X E) (ha : PA X (e :: es) (tXA P E fas)) (hg : Gl X x := by rfl) (hdb : (x == ("__debug__" : Str)) = false := by decide)
    (he : starEach (e :: es) X.env = (false, eval e X.env) :: starEach es X.env := by rfl) (hpl : (backTo pos (starEach es X.env)).any (·.1) = false := by rfl) : PE X (.Call (.Name x p) (e :: es) [] pos) (tX P E (mkE c np mf fas)) := by
  obtain ⟨f, fd, ps, G, M, hm, hb⟩ := C.ex
  refine pe_imp (pe_make M G hr hg hm hb .nil hx ha hdb he hpl) fun σ H Q ⟨F, B, A, ρ, m, s, en, h⟩ => ?_
  show tXA P E fas σ H fun vs H1 => ∀ x dx, H1 x = none → H1 dx = none → dx ≠ x → spF P mf np (.ref x :: (vs ++ [])) (upd (upd H1 dx (.own x)) x (.ins (P.CA c) dx [])) (fun v H2 => v = .non ∧ Q (.ref x) H2) E
  refine tXA_go s en (wp_bind h) fun ds m1 B1 A1 H1 vs h1 l1 s1 rs => ?_
  intro x dx hx0 hd0 hne
  by_cases hl : ds.length + 1 = np
  · rw [if_pos hl] at h1
    have sA := s1.frozen (o := .own x) hd0
    have hx1 : upd H1 dx (.own x) x = none := by
      unfold upd
      rw [if_neg (fun e => hne e.symm)]
      exact hx0
    have exB : Ex B1 (upd B1 dx (.own x)) := s1.frozenEx hd0
    have sB := sA.new (p := x) (o := .obj c []) (u := .ins (P.CA c) dx []) hx1 (.obj upd_same .nil)
    have lB : Le B1 A1 m1.n (upd B1 dx (.own x)) (cons1 A1 m1.n x) (m1.new (.obj c [])).n := (Le.base exB).trans (sA.leNew x (.obj c []))
    refine ⟨F, upd B1 dx (.own x), cons1 A1 m1.n x, m1.new (.obj c []), .loc m1.n :: ds, sB, ?_, hl, ?_⟩
    · rw [List.append_nil]
      exact .cons (.loc (Nat.lt_succ_self _) cons1_at) (rs.mono lB)
    · refine Rs.wp_mono (wp_bind h1) (fun d m2 h2 => ?_) fun _ _ q => q.le (l1.trans lB)
      intro B2 A2 H2 v l2 s2 r
      unfold mkK at h2
      split at h2
      · cases r
        refine ⟨rfl, ?_⟩
        exact h2 B2 A2 H2 (.ref x) ((l1.trans lB).trans l2) s2 (.loc (Nat.lt_of_lt_of_le (Nat.lt_succ_self _) l2.nn) ((l2.aa _ (Nat.lt_succ_self _)).trans cons1_at))
      · exact h2.elim
  · rw [if_neg hl] at h1
    exact h1.elim
end
/-! from the head's facts -/
section
variable {fa : List He.Fa} {fn : List He.DefD} {ts : List He.Tab} {ex : PySem.W.Frag → Bool} {Pg : Program} {w : World} {K : PySem.W.Frag} {mg : Str → Option Value} {base : Heap} {P : Pm}
theorem calM_of (ct : Ctx fa fn ts ex w K mg) {st : Stmt} {C x q : Str} {N ps : List Str} {k c : Nat} {mf : Fn} {fb : SS} (i j : Nat) (S : FnScope N ps (defScope st)) (hC : P.CA c = He.ga K C)
    (hbd : ∀ (kV doc pm : Value) (an : Option Addr) (cdv ct : Value) (us : List Value), us.length = ps.length → bindArgs (PySem.W.fnOf x q (defArgs st) (defBody st) (defScope st) .none kV doc pm an cdv ct) ⟨us, []⟩ = pure (ps.zip us))
    (hm : ∀ ds m, ds.length = ps.length → LeR m (mf ds m) (run N.length fb ds m))
    (hb : ∀ (f : Addr) (cdv : Value) (A : Around) (outer : List Env) (s : Shared) (H : Hp) (E : XK), Room k (A.deeper (envOfC q (defScope st) s.heap.objs.size f cdv)) →
      Passes (L2.CX Pg w) (cxOf (L2.CX Pg w) Pg w K mg base N q (defScope st) f cdv A outer s H E) E → PassesOwn (model Pg w) (A.deeper (envOfC q (defScope st) s.heap.objs.size f cdv)) (envOfC q (defScope st) s.heap.objs.size f cdv) (cxOf (L2.CX Pg w) Pg w K mg base N q (defScope st) f cdv A outer s H E).xe →
      PSs (cxOf (L2.CX Pg w) Pg w K mg base N q (defScope st) f cdv A outer s H E) (defBody st) (tXS P E fb))
    (hi : fa[i]? = some (.meth C x) := by rfl) (hj : fn[j]? = some ⟨(C, some x), x, q, defArgs st, defBody st, defScope st, [], []⟩ := by rfl) : CalM Pg w K mg base P c x (k + 1) ps.length mf := by
  obtain ⟨fd, F⟩ := ct.def_ j hj
  have F2 : FunD K x q (defArgs st) (defBody st) (defScope st) [] [] (He.ma K (He.ga K C) x) fd := F
  refine ⟨He.ma K (He.ga K C) x, fd, ps, ok_fn (He5.fun_of F2) S hm fun cdv A outer s H E hr => ?_, by rw [hC]; exact ct.meth i hi, F2.bindsN hbd⟩
  exact hb _ cdv A outer s H E hr (passes_call (takes_of rfl rfl rfl rfl) fun _ _ _ _ h => h) (passes_of rfl)
theorem calI_of (ct : Ctx fa fn ts ex w K mg) {st : Stmt} {C q : Str} {N ps : List Str} {k c : Nat} {mf : Fn} {fb : SS} (i i2 j : Nat) (S : FnScope N ps (defScope st)) (hC : P.CA c = He.ga K C)
    (hbd : ∀ (kV doc pm : Value) (an : Option Addr) (cdv ct : Value) (us : List Value), us.length = ps.length → bindArgs (PySem.W.fnOf "__init__" q (defArgs st) (defBody st) (defScope st) .none kV doc pm an cdv ct) ⟨us, []⟩ = pure (ps.zip us))
    (hm : ∀ ds m, ds.length = ps.length → LeR m (mf ds m) (run N.length fb ds m))
    (hb : ∀ (f : Addr) (cdv : Value) (A : Around) (outer : List Env) (s : Shared) (H : Hp) (E : XK), Room k (A.deeper (envOfC q (defScope st) s.heap.objs.size f cdv)) →
      Passes (L2.CX Pg w) (cxOf (L2.CX Pg w) Pg w K mg base N q (defScope st) f cdv A outer s H E) E → PassesOwn (model Pg w) (A.deeper (envOfC q (defScope st) s.heap.objs.size f cdv)) (envOfC q (defScope st) s.heap.objs.size f cdv) (cxOf (L2.CX Pg w) Pg w K mg base N q (defScope st) f cdv A outer s H E).xe →
      PSs (cxOf (L2.CX Pg w) Pg w K mg base N q (defScope st) f cdv A outer s H E) (defBody st) (tXS P E fb))
    (hi : fa[i]? = some (.mkr C) := by rfl) (hi2 : fa[i2]? = some (.glo C) := by rfl) (hj : fn[j]? = some ⟨(C, some "__init__"), "__init__", q, defArgs st, defBody st, defScope st, [], []⟩ := by rfl) : CalI Pg w K mg base P c C (k + 1) ps.length mf := by
  obtain ⟨fd, F⟩ := ct.def_ j hj
  have F2 : FunD K "__init__" q (defArgs st) (defBody st) (defScope st) [] [] (He.ma K (He.ga K C) "__init__") fd := F
  refine ⟨He.ma K (He.ga K C) "__init__", fd, ps, ok_fn (He5.fun_of F2) S hm fun cdv A outer s H E hr => ?_, by rw [hC]; exact ct.mkr i hi, by rw [hC]; exact ct.glo i2 hi2, F2.bindsN hbd⟩
  exact hb _ cdv A outer s H E hr (passes_call (takes_of rfl rfl rfl rfl) fun _ _ _ _ h => h) (passes_of rfl)
end
end LB

set_option Elab.async false
set_option linter.all false
set_option autoImplicit false
set_option maxRecDepth 100000
set_option maxHeartbeats 2000000
/-! Methods of lists that want no argument. -/
namespace LB
open PySem PySem.Spec PyProof.Rows L2
section
variable {X : Cx} {P : Pm} {E : XK} {pos : Pos} {fo : SE} {o : Expr} {name : Str} {id : String} {apos : Pos} {r : V → List V → Hp → VK → Prop} {g : List D → Option (List D × D)}
theorem xe_mt0 (slot : Slot "list" name id) (hty : typeOf (.builtin id) = pure (.type "method_descriptor")) (hm : MtR X id r)
    (hr : ∀ (B : Hp) (A : Nat → Addr) (n : Nat) (a : Addr) (vs : List V) (xs ys : List D) (d : D) (H : Hp) (Q : VK), H a = some (.lst vs) → Reps P.K B A n vs xs → g xs = some (ys, d) → (∀ ws v, Reps P.K B A n ws ys → Rep P.K B A n v d → Q v (upd H a (.lst ws))) → r (.ref a) [] H Q)
    (ho : PE X o (tX P E fo)) (hK : X.K = P.K) (hbase : attributeBase o name X.env (eval o X.env) = eval o X.env := by rfl) (hline : (apos.endLine == pos.line) = true := by rfl) :
    PE X (.Call (.Attribute o name apos) [] [] pos) (tX P E (mt0E g fo)) := by
  refine pe_imp (pe_bm0 PySem.F.plainAttrs_list slot hty hm ho hbase hline) fun σ H Q ⟨F, B, A, ρ, m, s, e, h⟩ => ?_
  show tX P E fo σ H fun x H1 => tyV X.K "list" x H1 ∧ r x [] H1 Q
  refine tX_go s e (wp_bind h) fun ld m1 B1 A1 H1 x h1 l1 s1 rl => ?_
  cases hg : (lstOf m1 ld).bind g with
  | none =>
    have h2 : Rs.wp (match (lstOf m1 ld).bind g with
      | some (_, d) => M.bind (updL ld fun xs => (g xs).map (·.1)) (fun _ => M.pure d) m1
      | none => Rs.bad) (okD P F B A m.n Q) (exV P E F B A m.n) := h1
    rw [hg] at h2
    exact h2.elim
  | some p =>
    obtain ⟨ys, d⟩ := p
    have h2 : Rs.wp (match (lstOf m1 ld).bind g with
      | some (_, d) => M.bind (updL ld fun xs => (g xs).map (·.1)) (fun _ => M.pure d) m1
      | none => Rs.bad) (okD P F B A m.n Q) (exV P E F B A m.n) := h1
    rw [hg] at h2
    obtain ⟨j, xs, zs, ej, hj, hc, hf, h3⟩ := updL_wp (wp_bind h2)
    subst ej
    obtain ⟨vs, hv, rs⟩ := cell_lst s1 hj hc
    have hlst : lstOf m1 (.loc j) = some xs := by
      show (if j < m1.n then (match m1.get j with
        | some (.lst xs) => some xs
        | _ => none) else none) = some xs
      rw [if_pos hj, hc]
    rw [hlst] at hg
    have hg2 : g xs = some (ys, d) := hg
    rw [hg2] at hf
    cases hf
    cases rl with
    | loc _ ea =>
      subst ea
      refine ⟨by rw [hK]; exact .inl ⟨rfl, vs, SqL.of hv⟩, hr B1 A1 m1.n (A1 j) vs xs ys d H1 Q hv rs hg2 fun ws v rw rd => ?_⟩
      have s3 := s1.put (o' := .lst ys) (u := .lst ws) hj hc (.lst upd_same rw)
      exact h3 B1 A1 _ v l1 s3 rd
theorem xe_clear (ho : PE X o (tX P E fo)) (hK : X.K = P.K) (hbase : attributeBase o "clear" X.env (eval o X.env) = eval o X.env := by rfl) (hline : (apos.endLine == pos.line) = true := by rfl) : PE X (.Call (.Attribute o "clear" apos) [] [] pos) (tX P E (mt0E gClear fo)) := by
  refine xe_mt0 (r := rClear) PySem.F.slot_list_clear PySem.F.type_list_clear mt_clear (fun B A n a vs xs ys d H Q hv rs hg k => ?_) ho hK hbase hline
  cases hg
  exact ⟨a, vs, rfl, rfl, hv, k [] .non .nil .non⟩
theorem xe_reverse (ho : PE X o (tX P E fo)) (hK : X.K = P.K) (hbase : attributeBase o "reverse" X.env (eval o X.env) = eval o X.env := by rfl) (hline : (apos.endLine == pos.line) = true := by rfl) : PE X (.Call (.Attribute o "reverse" apos) [] [] pos) (tX P E (mt0E gReverse fo)) := by
  refine xe_mt0 (r := rReverse) PySem.F.slot_list_reverse PySem.F.type_list_reverse mt_reverse (fun B A n a vs xs ys d H Q hv rs hg k => ?_) ho hK hbase hline
  cases hg
  exact ⟨a, vs, rfl, rfl, hv, k _ .non rs.reverse .non⟩
end
end LB

set_option Elab.async false
set_option linter.all false
set_option autoImplicit false
set_option maxRecDepth 100000
set_option maxHeartbeats 2000000
/-! Methods of built-in kinds with one argument that change nothing. -/
namespace LB
open PySem PySem.Spec PyProof.Rows L2
/-- which kind a method's owner must be of -/
def chkD (chk : D → Mem → Bool) (d : D) : M Unit := fun m => if chk d m = true then .ok () m else .bad
def mt1E (chk : D → Mem → Bool) (g : O2) (o e : SE) : SE := fun ρ => M.bind (o ρ) fun d => M.bind (chkD chk d) fun _ => M.bind (e ρ) fun y => fun m => lift (g d y m) m
def isLst (d : D) (m : Mem) : Bool := (lstOf m d).isSome
def isStr (d : D) (_ : Mem) : Bool := match d with
  | .str _ => true
  | _ => false
/-- where it stands first -/
def gIndex : O2 := fun x y m => (lstOf m x).bind fun xs => if y.isFlat = true ∧ xs.all D.isFlat = true then (xs.findIdx? fun z => z.eqv y).map fun j => D.int (j : Nat) else none
section
variable {X : Cx} {P : Pm} {E : XK} {pos : Pos} {fo fe : SE} {o ee : Expr} {name : Str} {T id : String} {apos : Pos} {r : V → List V → Hp → VK → Prop} {g : O2} {chk : D → Mem → Bool}
theorem xe_mt1 (pa : PlainAttrs T) (slot : Slot T name id) (hty : typeOf (.builtin id) = pure (.type "method_descriptor")) (hm : MtR X id r)
    (hc : ∀ (F B : Hp) (A : Nat → Addr) (m : Mem) (H : Hp) (x : V) (d : D), SR P F B A m H → Rep P.K B A m.n x d → chk d m = true → tyV P.K T x H) (hg : Op2 P g fun x y H Q => r x [y] H Q) (hK : X.K = P.K) (ho : PE X o (tX P E fo)) (he : PE X ee (tX P E fe))
    (hbase : attributeBase o name X.env (eval o X.env) = eval o X.env := by rfl)
    (hfew : ((backTo pos (starEach (ee :: []) X.env)).all (fun x => !x.1) && (backToKw pos (keywordEach [] X.env)).all (fun x => x.1.isSome) && decide ((ee :: []).length + ([] : List Keyword).length + (if ([] : List Keyword).isEmpty then 0 else 1) < 30)) = true := by rfl)
    (hline : (apos.endLine == pos.line) = true := by rfl) (hs : starEach (ee :: []) X.env = (false, eval ee X.env) :: starEach [] X.env := by rfl) (hplain : (backTo pos (starEach [] X.env)).any (·.1) = false := by rfl) :
    PE X (.Call (.Attribute o name apos) [ee] [] pos) (tX P E (mt1E chk g fo fe)) := by
  refine pe_imp (pe_bm pa slot hty hm ho (pa_cons he pa_nil hs) hbase hfew hline hs hplain) fun σ H Q ⟨F, B, A, ρ, m, s, e, h⟩ => ?_
  show tX P E fo σ H fun x H1 => tyV X.K T x H1 ∧ tX P E fe σ H1 fun y H2 => r x [y] H2 Q
  refine tX_go s e (wp_bind h) fun ld m1 B1 A1 H1 x h1 l1 s1 rl => ?_
  have h2 := wp_bind h1
  by_cases hk : chk ld m1 = true
  · have h3 : Rs.wp (chkD chk ld m1) _ _ := h2
    unfold chkD at h3
    rw [if_pos hk] at h3
    refine ⟨by rw [hK]; exact hc F B1 A1 m1 H1 x ld s1 rl hk, ?_⟩
    refine tX_go s1 (e.mono l1) (wp_le l1 (wp_bind h3)) fun ed m2 B2 A2 H2 y h4 l2 s2 re => ?_
    obtain ⟨z, hz, h5⟩ := lift_wp h4
    exact hg F B2 A2 m2 H2 x y ld ed z Q s2 (rl.mono l2) re hz fun B' H' v ex s' rv => h5 B' A2 H' v ((l1.trans l2).trans (Le.base ex)) s' rv
  · have h3 : Rs.wp (chkD chk ld m1) _ _ := h2
    unfold chkD at h3
    rw [if_neg hk] at h3
    exact h3.elim
theorem chk_lst (F B : Hp) (A : Nat → Addr) (m : Mem) (H : Hp) (x : V) (d : D) (s : SR P F B A m H) (rx : Rep P.K B A m.n x d) (h : isLst d m = true) : tyV P.K "list" x H := by
  obtain ⟨xs, hx⟩ := Option.isSome_iff_exists.mp h
  obtain ⟨a, vs, rfl, ha, _⟩ := lst_of s rx hx
  exact .inl ⟨rfl, vs, SqL.of ha⟩
theorem chk_str (F B : Hp) (A : Nat → Addr) (m : Mem) (H : Hp) (x : V) (d : D) (s : SR P F B A m H) (rx : Rep P.K B A m.n x d) (h : isStr d m = true) : tyV P.K "str" x H := by
  cases d with
  | str z =>
    cases rx
    rfl
  | _ => cases h
theorem flat_rep {K : PySem.W.Frag} {B : Hp} {A : Nat → Addr} {n : Nat} {v : V} {d : D} (r : Rep K B A n v d) (h : d.isFlat = true) : flatV v = true := by
  cases r <;> first
    | rfl
    | cases h
theorem flat_reps {K : PySem.W.Frag} {B : Hp} {A : Nat → Addr} {n : Nat} : ∀ {vs : List V} {ds : List D}, Reps K B A n vs ds → ds.all D.isFlat = true → vs.all flatV = true
  | _, _, .nil, _ => rfl
  | _, _, .cons r t, h => by
    rw [List.all_cons, Bool.and_eq_true] at h ⊢
    exact ⟨flat_rep r h.1, flat_reps t h.2⟩
theorem eqv_rep {K : PySem.W.Frag} {B : Hp} {A : Nat → Addr} {n : Nat} {v u : V} {d e : D} (r : Rep K B A n v d) (q : Rep K B A n u e) (h : d.isFlat = true) (h2 : e.isFlat = true) : eqV v u = d.eqv e := by
  cases r <;> first
    | (cases h; done)
    | (cases q <;> first
        | (cases h2; done)
        | rfl
        | (simp [eqV, D.eqv]))
theorem op2_index (hK : X.K = P.K) : Op2 P gIndex fun x y H Q => rIndex X.K x [y] H Q := by
  intro F B A m H x y dx dy z Q s rx ry hz k
  unfold gIndex at hz
  cases hl : lstOf m dx with
  | none => rw [hl] at hz; cases hz
  | some xs =>
    rw [hl] at hz
    have hz2 : (if dy.isFlat = true ∧ xs.all D.isFlat = true then (xs.findIdx? fun z => z.eqv dy).map fun j => D.int (j : Nat) else none) = some z := hz
    by_cases hf : dy.isFlat = true ∧ xs.all D.isFlat = true
    · rw [if_pos hf] at hz2
      cases hj : xs.findIdx? fun z => z.eqv dy with
      | none => rw [hj] at hz2; cases hz2
      | some j =>
        rw [hj] at hz2
        cases hz2
        obtain ⟨a, vs, rfl, ha, rs⟩ := lst_of s rx hl
        rw [List.findIdx?_eq_some_iff_getElem] at hj
        obtain ⟨hjl, h1, h2⟩ := hj
        obtain ⟨v, hv, rv⟩ := rs.get (List.getElem?_eq_getElem hjl)
        have fl : ∀ (i : Nat) (h : i < xs.length), (xs[i]).isFlat = true := fun i h => List.all_eq_true.mp hf.2 _ (List.getElem_mem h)
        refine ⟨a, vs, y, j, v, rfl, rfl, by rw [hK]; exact SqL.of ha, flat_rep ry hf.1, flat_reps rs hf.2, hv, by rw [eqv_rep rv ry (fl j hjl) hf.1]; exact h1, fun i z' hi hz' => ?_, k B H _ (Ex.refl B) s (.int _)⟩
        have hil : i < xs.length := by omega
        obtain ⟨d, hd, rd⟩ := rs.getV hz'
        rw [List.getElem?_eq_getElem hil] at hd
        cases hd
        rw [eqv_rep rd ry (fl i hil) hf.1]
        have h3 := h2 i hi
        simpa using h3
    · rw [if_neg hf] at hz2
      cases hz2
theorem xe_index (hK : X.K = P.K) (ho : PE X o (tX P E fo)) (he : PE X ee (tX P E fe))
    (hbase : attributeBase o "index" X.env (eval o X.env) = eval o X.env := by rfl)
    (hfew : ((backTo pos (starEach (ee :: []) X.env)).all (fun x => !x.1) && (backToKw pos (keywordEach [] X.env)).all (fun x => x.1.isSome) && decide ((ee :: []).length + ([] : List Keyword).length + (if ([] : List Keyword).isEmpty then 0 else 1) < 30)) = true := by rfl)
    (hline : (apos.endLine == pos.line) = true := by rfl) (hs : starEach (ee :: []) X.env = (false, eval ee X.env) :: starEach [] X.env := by rfl) (hplain : (backTo pos (starEach [] X.env)).any (·.1) = false := by rfl) :
    PE X (.Call (.Attribute o "index" apos) [ee] [] pos) (tX P E (mt1E isLst gIndex fo fe)) :=
  xe_mt1 PySem.F.plainAttrs_list PySem.F.slot_list_index PySem.F.type_list_index mt_index chk_lst (op2_index hK) hK ho he hbase hfew hline hs hplain
end
end LB

set_option Elab.async false
set_option linter.all false
set_option autoImplicit false
set_option maxRecDepth 100000
set_option maxHeartbeats 2000000
/-! list(zip(a, b)) of two lists; sorted of a dict's keys, of a set of a list. -/
namespace LB
open PySem PySem.Spec PyProof.Rows L2
theorem zip_no_len : typeLookup (.type "zip") "__len__" = pure none := am_miss_of_fast (by decide +kernel)
theorem zip_no_hint : typeLookup (.type "zip") "__length_hint__" = pure none := am_miss_of_fast (by decide +kernel)
abbrev lsObj (acc : Array Value) (c : Nat) : Obj := { cls := .type "list", dict := none, data := .seq acc c, slots := #[] }
abbrev prObj (x y : Value) : Obj := { cls := .type "tuple", data := .seq #[x, y] }
/-- where a walk over two lists stands while S is filled -/
structure ZSt (h : Heap) (z TI TO i1 i2 l1 l2 S : Addr) (xs ys : Array Value) (i : Nat) : Prop where
  ti : IsPair h TI (.ref i1) (.ref i2)
  ia : h.IsListIter i1 l1 i
  ib : h.IsListIter i2 l2 i
  la : h.IsList l1 xs
  lb : h.IsList l2 ys
  zz : (IsZip h z TI TO .none ∧ ∃ a b, IsPair h TO a b) ∨ ∃ T f oT, PySem.IsZipHeld h z TI TO T f ∧ h.get? T = some oT ∧ T ≠ z ∧ T ≠ i1 ∧ T ≠ i2 ∧ T ≠ S
/-- the pairs that were made so far -/
structure ZMd (xs ys : Array Value) (lo : Addr) (h : Heap) (as : List Addr) : Prop where
  rise : as.Pairwise (· < ·)
  above : ∀ a ∈ as, lo ≤ a
  at_ : ∀ (j : Nat) (a : Addr), as[j]? = some a → ∃ x y, xs[j]? = some x ∧ ys[j]? = some y ∧ h.get? a = some (prObj x y)
theorem ZMd.low {xs ys : Array Value} {lo : Addr} {h : Heap} {as : List Addr} (g : ZMd xs ys lo h as) {a : Addr} (ha : a ∈ as) : a < h.objs.size := by
  obtain ⟨j, hj⟩ := List.mem_iff_getElem?.mp ha
  obtain ⟨_, _, _, _, e⟩ := g.at_ j a hj
  exact Heap.lt_size e
theorem ZMd.up {xs ys : Array Value} {lo : Addr} {h h' : Heap} {as : List Addr} (g : ZMd xs ys lo h as) (k : ∀ b o, lo ≤ b → h.get? b = some o → h'.get? b = some o) : ZMd xs ys lo h' as :=
  ⟨g.rise, g.above, fun j a hj => let ⟨x, y, e1, e2, e3⟩ := g.at_ j a hj; ⟨x, y, e1, e2, k a _ (g.above a (List.mem_of_getElem? hj)) e3⟩⟩
section
variable {prog : Program} {w : World} {A : Around} {s : Shared} {z TI TO i1 i2 l1 l2 S : Addr} {xs ys : Array Value}
theorem ZSt.keep {h h' : Heap} {i : Nat} (t : ZSt h z TI TO i1 i2 l1 l2 S xs ys i) (n : ∀ c ∈ [z, TI, TO, i1, i2, l1, l2], c ≠ S) (k : ∀ b o, b ≠ S → h.get? b = some o → h'.get? b = some o) : ZSt h' z TI TO i1 i2 l1 l2 S xs ys i := by
  obtain ⟨t1, t2, t3, t4, t5, t6⟩ := t
  simp only [List.mem_cons, List.not_mem_nil, or_false, forall_eq_or_imp, forall_eq] at n
  obtain ⟨n1, n2, n3, n4, n5, n6, n7⟩ := n
  refine ⟨k _ _ n2 t1, t2.at fun o e => k _ o n4 e, t3.at fun o e => k _ o n5 e, t4.at fun o e => k _ o n6 e, t5.at fun o e => k _ o n7 e, ?_⟩
  rcases t6 with ⟨hz, a, b, hTO⟩ | ⟨T, f, oT, hz, hT, r1, r2, r3, r4⟩
  · exact .inl ⟨k _ _ n1 hz, a, b, k _ _ n3 hTO⟩
  · exact .inr ⟨T, f, oT, k _ _ n1 hz, k _ _ r4 hT, r1, r2, r3, r4⟩
theorem zst_item {E : Value → Shared → Prop} {Q : Option Value → Shared → Prop} {i : Nat} {x y : Value} (D : ZipApart z TI TO i1 i2 l1 l2) (t : ZSt s.heap z TI TO i1 i2 l1 l2 S xs ys i) (hS : S < s.heap.objs.size) (hx : xs[i]? = some x) (hy : ys[i]? = some y)
    (hQ : ∀ h', ZSt h' z TI TO i1 i2 l1 l2 S xs ys (i + 1) → h'.get? s.heap.objs.size = some (prObj x y) → h'.objs.size = s.heap.objs.size + 1 → (∀ c o, c ∉ [z, TO, i1, i2] → s.heap.get? c = some o → h'.get? c = some o) → Q (some (.ref s.heap.objs.size)) { s with heap := h' }) :
    wpAny (model prog w) A (pyNext (.ref z)) Q E s := by
  obtain ⟨hTI, h1, h2, hl1, hl2, hzz⟩ := t
  have lt : ∀ {c : Addr} {o : Obj}, s.heap.get? c = some o → s.heap.objs.size ≠ c := fun q => Nat.ne_of_gt (Heap.lt_size q)
  have n1 : s.heap.objs.size ≠ i1 := by
    obtain ⟨_, q, _⟩ := h1
    exact lt q
  have n2 : s.heap.objs.size ≠ i2 := by
    obtain ⟨_, q, _⟩ := h2
    exact lt q
  rcases hzz with ⟨hz, a, b, hTO⟩ | ⟨T, f, oT, hz, hT, r1, r2, r3, r4⟩
  · refine wpAny_pyNext_zip_item D hz hTI hTO h1 h2 hl1 hl2 hx hy fun h' a1 a2 a3 a4 a5 a6 hk => ?_
    refine hQ h' ⟨hk _ _ D.TIz D.TITO D.TIi1 D.TIi2 hTI, a3, a4, hl1.at fun o q => hk _ o D.l1z D.l1TO D.l1i1 D.l1i2 q, hl2.at fun o q => hk _ o D.l2z D.l2TO D.l2i1 D.l2i2 q, ?_⟩ a5 a6 fun c o hc q => ?_
    · exact .inr ⟨_, false, _, a1, a5, lt hz, n1, n2, Nat.ne_of_gt hS⟩
    · simp only [List.mem_cons, List.not_mem_nil, or_false, not_or] at hc
      exact hk c o hc.1 hc.2.1 hc.2.2.1 hc.2.2.2 q
  · refine PySem.wpAny_pyNext_zip_item_held D hz hT hTI h1 h2 hl1 hl2 hx hy fun h' a1 a3 a4 a5 a6 hk => ?_
    refine hQ h' ⟨hk _ _ D.TIz D.TIi1 D.TIi2 hTI, a3, a4, hl1.at fun o q => hk _ o D.l1z D.l1i1 D.l1i2 q, hl2.at fun o q => hk _ o D.l2z D.l2i1 D.l2i2 q, ?_⟩ a5 a6 fun c o hc q => ?_
    · exact .inr ⟨T, true, oT, a1, hk _ _ r1 r2 r3 hT, r1, r2, r3, r4⟩
    · simp only [List.mem_cons, List.not_mem_nil, or_false, not_or] at hc
      exact hk c o hc.1 hc.2.2.1 hc.2.2.2 q
theorem zst_done {E : Value → Shared → Prop} {Q : Option Value → Shared → Prop} {i : Nat} (hh : A.handled = none) (D : ZipApart z TI TO i1 i2 l1 l2) (t : ZSt s.heap z TI TO i1 i2 l1 l2 S xs ys i) (hend : xs[i]? = none ∨ ys[i]? = none)
    (hQ : ∀ h', (∀ c o, c ∉ [z, TO, i1, i2] → s.heap.get? c = some o → h'.get? c = some o) → Q none { s with heap := h' }) : wpAny (model prog w) A (pyNext (.ref z)) Q E s := by
  obtain ⟨hTI, h1, h2, hl1, hl2, hzz⟩ := t
  rcases hzz with ⟨hz, a, b, hTO⟩ | ⟨T, f, oT, hz, hT, r1, r2, r3, r4⟩
  · refine wpAny_pyNext_zip_end hh D hz hTI hTO h1 h2 hl1 hl2 hend fun h' hk => hQ h' fun c o hc q => ?_
    simp only [List.mem_cons, List.not_mem_nil, or_false, not_or] at hc
    exact hk c o hc.1 hc.2.1 hc.2.2.1 hc.2.2.2 q
  · refine PySem.wpAny_pyNext_zip_end_held hh D hz hT hTI h1 h2 hl1 hl2 hend fun h' hk => hQ h' fun c o hc q => ?_
    simp only [List.mem_cons, List.not_mem_nil, or_false, not_or] at hc
    exact hk c o hc.1 hc.2.2.1 hc.2.2.2 q
variable {R : Result → Shared → Prop}
theorem zlp {h₁ : Heap} {lo : Addr} {res : Value} (hh : A.handled = none) (D : ZipApart z TI TO i1 i2 l1 l2) (nS : ∀ c ∈ [z, TI, TO, i1, i2, l1, l2], c ≠ S) (hlo : ∀ c ∈ [S, z, TO, i1, i2], c < lo) (hn : min xs.size ys.size ≤ sizeLine)
    (hR : ∀ h' acc c as, (∀ b o, b ∉ [S, z, TO, i1, i2] → h₁.get? b = some o → h'.get? b = some o) → h'.get? S = some (lsObj acc c) → as.length = min xs.size ys.size → ZMd xs ys lo h' as → acc.toList = as.map Value.ref → R (.ok (.ret res)) { s with heap := h' }) :
    ∀ (k i : Nat) (h : Heap) (c : Nat) (acc : Array Value) (as : List Addr), min xs.size ys.size - i = k → i ≤ min xs.size ys.size → ZSt h z TI TO i1 i2 l1 l2 S xs ys i → (∀ b o, b ∉ [S, z, TO, i1, i2] → h₁.get? b = some o → h.get? b = some o) →
      h.get? S = some (lsObj acc c) → acc.toList = as.map Value.ref → as.length = i → ZMd xs ys lo h as → lo ≤ h.objs.size → codeAny (model prog w) A (.builtin "list.extend.loop" ⟨[.ref S, .ref z, res], []⟩) R { s with heap := h } := by
  have lo4 : ∀ b, lo ≤ b → b ∉ [z, TO, i1, i2] := fun b hb hm => absurd (hlo b (List.mem_cons_of_mem _ hm)) (Nat.not_lt.mpr hb)
  have loS : ∀ b, lo ≤ b → b ≠ S := fun b hb hm => absurd (hlo S List.mem_cons_self) (by rw [← hm]; exact Nat.not_lt.mpr hb)
  have S4 : S ∉ [z, TO, i1, i2] := by
    intro hm
    have e : S = z ∨ S = TO ∨ S = i1 ∨ S = i2 := by simpa using hm
    rcases e with e | e | e | e
    · exact nS z (by simp) e.symm
    · exact nS TO (by simp) e.symm
    · exact nS i1 (by simp) e.symm
    · exact nS i2 (by simp) e.symm
  intro k
  induction k with
  | zero =>
    intro i h c acc as hk hi st keep hS hacc hal hG hIs
    have ei : i = min xs.size ys.size := by omega
    refine codeAny_builtin PySem.F.entry_extend_loop ?_
    rw [Around.under_plainId PySem.F.plain_extend_loop _]
    show wpAny _ A.in1 (pyNext (.ref z) >>= _) _ _ _
    have hend : xs[i]? = none ∨ ys[i]? = none := by
      rcases Nat.le_total xs.size ys.size with q | q
      · exact .inl (Array.getElem?_eq_none (by omega))
      · exact .inr (Array.getElem?_eq_none (by omega))
    refine wpAny_bind (zst_done (s := { s with heap := h }) (A := A.in1) hh D st hend fun h' he => ?_)
    refine wpAny_pure (hR h' acc c as (fun b o hb q => he b o (fun m => hb (List.mem_cons_of_mem _ m)) (keep b o hb q)) (he S _ S4 hS) (by omega) (hG.up fun b o hb q => he b o (lo4 b hb) q) hacc)
  | succ k ih =>
    intro i h c acc as hk hi st keep hS hacc hal hG hIs
    have hlt : i < min xs.size ys.size := by omega
    have hx : xs[i]? = some xs[i] := Array.getElem?_eq_getElem (by omega)
    have hy : ys[i]? = some ys[i] := Array.getElem?_eq_getElem (by omega)
    have hsz : acc.size = i := by rw [← Array.length_toList, hacc, List.length_map, hal]
    refine codeAny_builtin PySem.F.entry_extend_loop ?_
    rw [Around.under_plainId PySem.F.plain_extend_loop _]
    show wpAny _ A.in1 (pyNext (.ref z) >>= _) _ _ _
    refine wpAny_bind (zst_item (s := { s with heap := h }) D st (Heap.lt_size hS) hx hy fun h' st' ht hz hkp => ?_)
    dsimp only at ht hz hkp ⊢
    have hS' := hkp S _ S4 hS
    have up : ∀ b o, b ≠ S → h'.get? b = some o → (h'.update S (Obj.mapSeq (·.push (Value.ref h.objs.size)))).get? b = some o := fun b o hb q => (Heap.get?_update_other _ _ (Ne.symm hb)).trans q
    have usz : (h'.update S (Obj.mapSeq (·.push (Value.ref h.objs.size)))).get? h.objs.size = some (prObj xs[i] ys[i]) := up _ _ (loS _ hIs) ht
    show wpAny _ A.in1 (updateSeq S (·.push (Value.ref h.objs.size)) >>= _) _ _ _
    refine wpAny_bind (wpAny_updateSeq hS' rfl (wpAny_pure ⟨plainId_quiet PySem.F.plain_extend_loop _, ?_⟩) (by rw [hsz]; omega) (by show (acc.push (Value.ref h.objs.size)).size ≤ sizeLine + 1; rw [Array.size_push, hsz]; omega))
    refine ih (i + 1) _ _ (acc.push (Value.ref h.objs.size)) (as ++ [h.objs.size]) (by omega) hlt (st'.keep nS up) (fun b o hb q => up b o (fun e => hb (by rw [e]; exact List.mem_cons_self)) (hkp b o (fun m => hb (List.mem_cons_of_mem _ m)) (keep b o hb q)))
      (Heap.get?_update_self _ hS' rfl) (by rw [Array.toList_push, hacc, List.map_append]; rfl) (by rw [List.length_append, hal]; rfl) ⟨?_, ?_, ?_⟩ (Nat.le_trans hIs (Nat.le_of_lt (Heap.lt_size usz)))
    · refine List.pairwise_append.mpr ⟨hG.rise, List.pairwise_singleton _ _, fun a ha b hb => ?_⟩
      rw [List.mem_singleton.mp hb]
      exact hG.low ha
    · intro a ha
      rcases List.mem_append.mp ha with ha | ha
      · exact hG.above a ha
      · rw [List.mem_singleton.mp ha]
        exact hIs
    · intro j b hj
      by_cases h1 : j < as.length
      · rw [List.getElem?_append_left h1] at hj
        obtain ⟨x, y, e1, e2, e3⟩ := hG.at_ j b hj
        have hb := hG.above b (List.mem_of_getElem? hj)
        exact ⟨x, y, e1, e2, up b _ (loS b hb) (hkp b _ (lo4 b hb) e3)⟩
      · rw [List.getElem?_append_right (by omega)] at hj
        have e0 : j - as.length = 0 := by
          rcases Nat.eq_zero_or_pos (j - as.length) with q | q
          · exact q
          · rw [List.getElem?_eq_none (by rw [List.length_singleton]; omega)] at hj
            cases hj
        rw [e0] at hj
        have eb : h.objs.size = b := Option.some.inj hj
        have ej : j = i := by omega
        subst ej
        rw [← eb]
        exact ⟨_, _, hx, hy, usz⟩
/-- list(z) -/
theorem zcall {E : Value → Shared → Prop} {Q : Value → Shared → Prop} (hh : A.handled = none) (D : ZipApart z TI TO i1 i2 l1 l2) (hz : IsZip s.heap z TI TO .none) (hTI : IsPair s.heap TI (.ref i1) (.ref i2)) (hTO : ∃ a b, IsPair s.heap TO a b)
    (h1 : s.heap.IsListIter i1 l1 0) (h2 : s.heap.IsListIter i2 l2 0) (hl1 : s.heap.IsList l1 xs) (hl2 : s.heap.IsList l2 ys) (hn : min xs.size ys.size ≤ sizeLine)
    (hQ : ∀ h' acc c as, (∀ b o, b ∉ [z, TO, i1, i2] → s.heap.get? b = some o → h'.get? b = some o) → h'.get? s.heap.objs.size = some (lsObj acc c) → as.length = min xs.size ys.size → ZMd xs ys (s.heap.objs.size + 1) h' as → acc.toList = as.map Value.ref → Q (.ref s.heap.objs.size) { s with heap := h' }) :
    wpAny (model prog w) A (PySem.call (Value.type "list") [Value.ref z]) Q E s := by
  refine callType_codes (Q₁ := fun obj t => obj = .ref s.heap.objs.size ∧ t = { s with heap := s.heap.push { cls := .type "list", data := .seq #[] } }) PySem.F.called_list (PySem.F.typeCall_list_1 _) PySem.F.entry_list_init (code_list_new _ ⟨rfl, rfl⟩) fun obj t ht => ?_
  obtain ⟨rfl, rfl⟩ := ht
  have hS : (s.heap.push { cls := .type "list", data := .seq #[] }).get? s.heap.objs.size = some { cls := .type "list", data := .seq #[] } := Heap.get?_push_size _ rfl
  have lt : ∀ {b : Addr} {o : Obj}, s.heap.get? b = some o → b < s.heap.objs.size := fun q => Heap.lt_size q
  have t7 : ∀ c ∈ [z, TI, TO, i1, i2, l1, l2], c < s.heap.objs.size := by
    obtain ⟨_, _, hTO⟩ := hTO
    obtain ⟨_, q1, _⟩ := h1
    obtain ⟨_, q2, _⟩ := h2
    obtain ⟨_, q3, _⟩ := hl1
    obtain ⟨_, q4, _⟩ := hl2
    intro c hc
    have e : c = z ∨ c = TI ∨ c = TO ∨ c = i1 ∨ c = i2 ∨ c = l1 ∨ c = l2 := by simpa using hc
    rcases e with e | e | e | e | e | e | e <;> rw [e]
    · exact lt hz
    · exact lt hTI
    · exact lt hTO
    · exact lt q1
    · exact lt q2
    · exact lt q3
    · exact lt q4
  have nS : ∀ c ∈ [z, TI, TO, i1, i2, l1, l2], c ≠ s.heap.objs.size := fun c hc => Nat.ne_of_lt (t7 c hc)
  refine ⟨⟨_, hS, rfl⟩, PySem.F.args_list_init_2 _ _, ?_⟩
  show wpAny _ A.in1.in1 (do let old ← Builtin.List.listItems (.ref s.heap.objs.size); Builtin.List.listUpdate (.ref s.heap.objs.size) (fun _ => #[]); letGo old.toList.reverse; Builtin.List.listExtendWith (.ref s.heap.objs.size) (.ref z) .none) _ _ _
  refine wpAny_bind ?_
  unfold Builtin.List.listItems
  refine wpAny_bind (wpAny_seqItems hS rfl (wpAny_pure ?_))
  show wpAny _ A.in1.in1 (updateSeq s.heap.objs.size (fun _ => #[]) >>= fun _ => letGo (#[] : Array Value).toList.reverse >>= fun _ => Builtin.List.listExtendWith (.ref s.heap.objs.size) (.ref z) .none) _ _ _
  refine wpAny_bind (wpAny_updateSeq hS rfl ?_)
  have hS2 := Heap.get?_update_self (Obj.mapSeq (fun _ => (#[] : Array Value))) hS rfl
  refine wpAny_bind (wpAny_letGo ?_)
  unfold Builtin.List.listExtendWith
  have st0 : ZSt s.heap z TI TO i1 i2 l1 l2 s.heap.objs.size xs ys 0 := ⟨hTI, h1, h2, hl1, hl2, .inl ⟨hz, hTO⟩⟩
  have up : ∀ (h : Heap) (f : Obj → Obj), (∀ b o, b ≠ s.heap.objs.size → s.heap.get? b = some o → h.get? b = some o) → ∀ b o, b ≠ s.heap.objs.size → s.heap.get? b = some o → (h.update s.heap.objs.size f).get? b = some o := fun h f q b o hb e =>
    (Heap.get?_update_other _ _ (Ne.symm hb)).trans (q b o hb e)
  have k1 : ∀ b o, b ≠ s.heap.objs.size → s.heap.get? b = some o → (s.heap.push { cls := .type "list", data := .seq #[] }).get? b = some o := fun b o _ e => Heap.get?_push_of_some _ e
  have k2 := up _ (Obj.mapSeq (fun _ => (#[] : Array Value))) k1
  have zty : ∀ {h : Heap}, (∀ b o, b ≠ s.heap.objs.size → s.heap.get? b = some o → h.get? b = some o) → ({ s with heap := h } : Shared).TypeIs (.ref z) "zip" := fun {h} q => ⟨_, q z _ (nS z (by simp)) hz, rfl⟩
  refine wpAny_bind (wpAny_typeOf (T := "zip") (zty k2) ?_)
  have e1 : Builtin.List.listSameRef (.ref s.heap.objs.size) (.ref z) = false := by
    have q := (nS z (by simp)).symm
    simp [Builtin.List.listSameRef, q]
  have e2 : (Value.type "zip" == Value.type "list") = false := by decide
  have e3 : (Value.type "zip" == Value.type "tuple") = false := by decide
  simp only [e1, e2, e3, Bool.or_false, Bool.false_eq_true, if_false]
  refine wpAny_bind (wpAny_pyIter_zip (s := { s with heap := _ }) (k2 z _ (nS z (by simp)) hz) ?_)
  refine wpAny_bind (wpAny_holding ?_)
  unfold Builtin.List.listLengthHint
  refine wpAny_bind (wpAny_specialOf (zty k2) zip_no_len ?_)
  show wpAny _ A.in1.in1 (specialOf (Value.ref z) (Str.ofString "__length_hint__") >>= _) _ _ _
  refine wpAny_bind (wpAny_specialOf (zty k2) zip_no_hint (wpAny_pure ?_))
  show wpAny _ A.in1.in1 (rule "list.extend.makes-room" >>= fun _ => Builtin.List.listTouch (.ref s.heap.objs.size) >>= fun _ => again (.builtin "list.extend.loop" ⟨[.ref s.heap.objs.size, .ref z, .none], []⟩)) _ _ _
  refine wpAny_bind (wpAny_rule (wpAny_bind ?_))
  show wpAny _ A.in1.in1 (updateSeq s.heap.objs.size (·.push .none) >>= fun _ => updateSeq s.heap.objs.size (·.pop)) _ _ _
  refine wpAny_bind (wpAny_updateSeq hS2 rfl ?_)
  have hS3 := Heap.get?_update_self (Obj.mapSeq (·.push Value.none)) hS2 rfl
  refine wpAny_updateSeq (hz := by seq_fits) hS3 rfl ?_
  have hS4 := Heap.get?_update_self (Obj.mapSeq (·.pop)) hS3 rfl
  have k4 := up _ (Obj.mapSeq (·.pop)) (up _ (Obj.mapSeq (·.push Value.none)) k2)
  refine wpAny_pure ⟨plainId_quiet PySem.F.plain_extend_loop _, ?_⟩
  have big : s.heap.objs.size + 1 ≤ ((((s.heap.push { cls := .type "list", data := .seq #[] }).update s.heap.objs.size (Obj.mapSeq (fun _ => (#[] : Array Value)))).update s.heap.objs.size (Obj.mapSeq (·.push Value.none))).update s.heap.objs.size (Obj.mapSeq (·.pop))).objs.size := Heap.lt_size hS4
  refine zlp (s := s) (h₁ := s.heap) (lo := s.heap.objs.size + 1) (A := A.in1) hh D nS (fun c hc => ?_) hn (fun h' acc c as q1 q2 q3 q4 q5 => ?_) _ 0 _ _ #[] [] rfl (Nat.zero_le _) (st0.keep nS k4) (fun b o hb q => k4 b o (fun e => hb (by rw [e]; exact List.mem_cons_self)) q) hS4 rfl rfl ⟨List.Pairwise.nil, (fun _ h => nomatch h), (fun j a h => by simp at h)⟩ big
  · rcases List.mem_cons.mp hc with e | hc
    · rw [e]; exact Nat.lt_succ_self _
    · exact Nat.lt_succ_of_lt (t7 c (by simp at hc ⊢; rcases hc with e | e | e | e <;> simp [e]))
  · exact ⟨rfl, hQ h' acc c as (fun b o hb q => q1 b o (fun m => by
      rcases List.mem_cons.mp m with e | m
      · exact Nat.lt_irrefl _ (by have := lt q; rw [e] at this; exact this)
      · exact hb m) q) q2 q3 q4 q5⟩
end
/-- pairs laid at their places -/
def layP : Hp → List Addr → List (V × V) → Hp
  | H, a :: as, p :: ps => layP (upd H a (.tup [p.1, p.2])) as ps
  | H, _, _ => H
theorem layP_off {b : Addr} : ∀ (as : List Addr) (ps : List (V × V)) (H : Hp), b ∉ as → layP H as ps b = H b
  | [], _, _, _ => rfl
  | _ :: _, [], _, _ => rfl
  | a :: as, p :: ps, H, h => by
    rw [List.mem_cons, not_or] at h
    show layP (upd H a _) as ps b = H b
    rw [layP_off as ps _ h.2, upd_ne h.1]
theorem layP_at : ∀ (as : List Addr) (ps : List (V × V)) (H : Hp) (j : Nat) (a : Addr), as.length = ps.length → as.Nodup → as[j]? = some a → ∃ p, ps[j]? = some p ∧ layP H as ps a = some (.tup [p.1, p.2])
  | [], _, _, j, a, _, _, h => by simp at h
  | _ :: _, [], _, _, _, h, _, _ => by cases h
  | b :: as, p :: ps, H, 0, a, hl, hn, h => by
    have e : b = a := Option.some.inj h
    subst e
    refine ⟨p, rfl, ?_⟩
    show layP (upd H b _) as ps b = _
    rw [layP_off as ps _ (List.nodup_cons.mp hn).1, upd_same]
  | b :: as, p :: ps, H, j + 1, a, hl, hn, h => layP_at as ps (upd H b (.tup [p.1, p.2])) j a (Nat.succ.inj hl) (List.nodup_cons.mp hn).2 h
theorem vals_ofRefs : ∀ as : List Addr, Vals (as.map V.ref) (as.map Value.ref)
  | [] => .nil
  | _ :: as => .cons rfl (vals_ofRefs as)
section
variable {X : Cx} {pins : List (Addr × Obj)} {σ : L2.St} {H : Hp} {s : Shared}
theorem lzip_laid {h' : Heap} {tk S lo c : Nat} {acc xs ys : Array Value} {as : List Addr} {vs ws : List V} (I : Inv X pins σ H s) (k : ∀ b o, s.heap.get? b = some o → h'.get? b = some o) (r1 : Vals vs xs.toList) (r2 : Vals ws ys.toList) (hS : h'.get? S = some (lsObj acc c))
    (h1 : s.heap.objs.size ≤ S) (h2 : S < lo) (hl : as.length = min xs.size ys.size) (hn : as.length ≤ sizeLine) (g : ZMd xs ys lo h' as) (hacc : acc.toList = as.map Value.ref) :
    as.Nodup ∧ (∀ a ∈ as, H a = none) ∧ S ∉ as ∧ H S = none ∧ as.length = (vs.zip ws).length ∧ Inv X pins σ (upd (layP H as (vs.zip ws)) S (.lst (as.map V.ref))) { s with heap := h', toks := tk } := by
  have nd : as.Nodup := g.rise.imp fun q => Nat.ne_of_lt q
  have hSn : S ∉ as := fun m => absurd (g.above S m) (Nat.not_le.mpr h2)
  have fr : ∀ b, s.heap.objs.size ≤ b → H b = none := fun b q => I.hok.fresh q
  have new : ∀ a ∈ as, H a = none := fun a m => fr a (Nat.le_trans h1 (Nat.le_trans (Nat.le_of_lt h2) (g.above a m)))
  have len : as.length = (vs.zip ws).length := by
    rw [List.length_zip, r1.length, r2.length, Array.length_toList, Array.length_toList]
    exact hl
  have off : ∀ b, b ∉ as → b ≠ S → upd (layP H as (vs.zip ws)) S (.lst (as.map V.ref)) b = H b := fun b q1 q2 => by rw [upd_ne q2, layP_off as _ _ q1]
  have kp : ∀ b u, H b = some u → upd (layP H as (vs.zip ws)) S (.lst (as.map V.ref)) b = some u := fun b u e => by
    rw [off b (fun m => by rw [new b m] at e; cases e) (fun q => by rw [q, fr S h1] at e; cases e)]
    exact e
  refine ⟨nd, new, hSn, fr S h1, len, I.call' (ch := []) rfl ⟨fun b o q _ _ _ => k b o q, fun b o q _ _ _ => ⟨o.slots, k b o q⟩, fun b o q n _ => ?_, fun b o q _ => ⟨o, k b o q⟩, fun b _ q => kp b _ q, fun b o u q => kp b _ q, fun b ps q => ⟨#[], by rw [kp b _ q]; simp⟩⟩ (fun b u q => ?_) I.bare fun b z => by simp at z⟩
  · have lt := Heap.lt_size q
    rw [off b (fun m => absurd (g.above b m) (Nat.not_le.mpr (Nat.lt_trans (Nat.lt_of_lt_of_le lt h1) h2))) (Nat.ne_of_lt (Nat.lt_of_lt_of_le lt h1))]
    exact n
  · by_cases hbS : b = S
    · subst hbS
      rw [upd_same] at q
      cases q
      refine ⟨by rw [List.length_map]; exact hn, acc.toList, c, by rw [hacc]; exact vals_ofRefs as, ?_⟩
      rw [Array.toArray_toList]
      exact hS
    · rw [upd_ne hbS] at q
      by_cases hb : b ∈ as
      · obtain ⟨j, hj⟩ := List.mem_iff_getElem?.mp hb
        obtain ⟨x, y, e1, e2, e3⟩ := g.at_ j b hj
        obtain ⟨p, e4, e5⟩ := layP_at as (vs.zip ws) H j b len nd hj
        rw [e5] at q
        cases q
        rw [List.getElem?_zip_eq_some] at e4
        obtain ⟨u1, f1, g1⟩ := r1.get e4.1
        obtain ⟨u2, f2, g2⟩ := r2.get e4.2
        rw [Array.getElem?_toList, e1] at f1
        rw [Array.getElem?_toList, e2] at f2
        cases f1
        cases f2
        exact ⟨by show 2 ≤ sizeLine; decide, [x, y], .cons g1 (.cons g2 .nil), ⟨_, e3, rfl, _, rfl⟩⟩
      · rw [layP_off as _ _ hb] at q
        exact (I.hok b u q).stay (fun d v _ y => k d v y) (fun d y => kp d _ y) fun d xs y => kp d _ y
def rLZip (K : PySem.W.Frag) : List V → Hp → VK → Prop := fun vs H Q => ∃ (a b : Addr) (xs ys : List V), vs = [V.ref a, V.ref b] ∧ SqL K H a xs ∧ SqL K H b ys ∧
  ∀ (as : List Addr) (S : Addr), as.Nodup → (∀ t ∈ as, H t = none) → S ∉ as → H S = none → as.length = (xs.zip ys).length → Q (.ref S) (upd (layP H as (xs.zip ys)) S (.lst (as.map V.ref)))
theorem pe_lzipD {a b : Expr} {t : TA} {p p2 q pos : Pos} (hc : X.calm = true) (hm : X.mg "list" = none) (hm2 : X.mg "zip" = none) (ha : PA X [a, b] t) (hg : Gl X "list") (hg2 : Gl X "zip")
    (hs : starEach [.Call (.Name "zip" p2) [a, b] [] q] X.env = (false, eval (.Call (.Name "zip" p2) [a, b] [] q) X.env) :: starEach [] X.env) (hs2 : starEach [a, b] X.env = (false, eval a X.env) :: starEach [b] X.env) (hpl : (backTo q (starEach [b] X.env)).any (·.1) = false) :
    PE X (.Call (.Name "list" p) [.Call (.Name "zip" p2) [a, b] [] q] [] pos) (tCB (rLZip X.K) t) := by
  refine ⟨fun pins s σ H Q I h => ?_⟩
  refine Call_ (ld_blt I hg hm PyProof.Rows.boot_list (PyProof.Rows.callWith_type1 (args_cons ?_ hs) hs rfl))
  refine Call_ (ld_blt I hg2 hm2 PyProof.Rows.boot_zip (PyProof.Rows.callWith_type1 (thn (ha.run q pins s σ H _ I h) fun us s1 ⟨vs, H1, I1, rv, x, y, xs, ys, ev, hx, hy, q1⟩ => ?_) hs2 hpl))
  subst ev
  obtain ⟨u1, u2, rfl, ru1, ru2⟩ : ∃ u1 u2, us = [u1, u2] ∧ RelV (V.ref x) u1 ∧ RelV (V.ref y) u2 := by
    cases rv with
    | cons r t =>
      cases t with
      | cons q t =>
        cases t
        exact ⟨_, _, rfl, r, q⟩
  cases ru1
  cases ru2
  obtain ⟨its, rv1, p1, z1⟩ := I1.list hx
  obtain ⟨its2, rv2, p2, z2⟩ := I1.list hy
  refine call_zip_2 p1.isList p2.isList fun h' hz hTI hTO h1 h2 hsz hk => args_nil ?_
  have D := PySem.W.ktu_apart s1.heap.objs.size x y p1.lt p2.lt
  have e1 : its.toArray.size = its.length := List.size_toArray
  have e2 : its2.toArray.size = its2.length := List.size_toArray
  have l1 := rv1.length
  have l2 := rv2.length
  refine zcall (s := { s1 with heap := h' }) (I1.ok.hd hc) D hz hTI ⟨_, _, hTO⟩ h1 h2 (p1.isList.at fun o e => hk _ o e) (p2.isList.at fun o e => hk _ o e) (by omega) fun h2 acc c as k2 hS hl g hacc => ?_
  dsimp only at k2 hS g ⊢
  have k3 : ∀ b o, s1.heap.get? b = some o → h2.get? b = some o := fun b o e => k2 b o (fun m => by
    have lt := Heap.lt_size e
    simp only [List.mem_cons, List.not_mem_nil, or_false] at m
    rcases m with m | m | m | m <;> rw [m] at lt
    · exact absurd lt (Nat.not_lt.mpr (Nat.le_add_right _ _))
    · exact absurd lt (Nat.not_lt.mpr (Nat.le_add_right _ _))
    · exact Nat.lt_irrefl _ lt
    · exact absurd lt (Nat.not_lt.mpr (Nat.le_add_right _ _))) (hk b o e)
  obtain ⟨f1, f2, f3, f4, f5, f6⟩ := lzip_laid (tk := s1.toks) I1 k3 (by rw [List.toList_toArray]; exact rv1) (by rw [List.toList_toArray]; exact rv2) hS (by omega) (Nat.lt_succ_self _) hl (by omega) g hacc
  exact ⟨V.ref h'.objs.size, _, f6, rfl, q1 as _ f1 f2 f3 f4 f5⟩
end
end LB

set_option Elab.async false
set_option linter.all false
set_option autoImplicit false
set_option maxRecDepth 100000
set_option maxHeartbeats 3200000
/-! sorted of a set of a list of ints, of a dict's keys. -/
namespace LB
open PySem PySem.Spec PyProof.Rows L2
abbrev noSet (w : World) : Obj := { cls := .type "set", dict := none, data := .set #[] 0 (.fresh 0 0 (!w.params.followText "set-order")) }
section
variable {P : Program} {w : World} {A : Around} {E : Value → Shared → Prop} {s : Shared}
theorem set_of_lst {l : Addr} {its : Array Value} (ns : List Int) {Q : Value → Shared → Prop} (hh : A.handled = none) (hl : s.heap.IsList l its) (hit : IntsAre its.toList ns) (hb : ns.length + 1 < scanBound)
    (h : ∀ (h' : Heap) (tk c : Nat), SetR w h' s.heap.objs.size (fun j => decide (j ∈ ns)) c → c ≤ ns.length → (∀ b o, s.heap.get? b = some o → h'.get? b = some o) → Q (.ref s.heap.objs.size) { s with heap := h', toks := tk }) : wpAny (model P w) A (PySem.call (.type "set") [.ref l]) Q E s := by
  have sz : its.size = ns.length := by
    rw [← IntsAre.length hit, Array.length_toList]
  obtain ⟨c, tl, mro⟩ := PySem.F.called_set.mro
  have made := PySem.F.called_set.made
  have sub := PySem.F.called_set.sub
  refine wpAny_call (codeAny_of_tree ?_)
  show wpAny _ _ (callAny (Value.type "set") _) _ _ _
  refine wpAny_pure ⟨Code.quiet_builtin _ (by decide +kernel), codeAny_builtin PySem.F.entry_type_call ?_⟩
  rw [Around.under_plain (weight_type_call_type "set" [.ref l] []) rfl]
  have g1 := PySem.F.called_set.notType
  have g2 := PySem.F.called_set.canCreate
  have gct := PySem.F.typeCall_set_1 (.ref l)
  repeat (any_goals (first | assumption | wp_step))
  refine codeAny_mono (code_set_led1 (.ref l) (E := E) (Q₁ := fun ob t => ob = .ref s.heap.objs.size ∧ t = { s with heap := s.heap.push (noSet w) }) ⟨rfl, rfl⟩) fun r t hr => ?_
  cases r with
  | error e => exact hr
  | ok fl =>
    cases fl with
    | ret ob =>
      obtain ⟨rfl, rfl⟩ := hr
      have hS : (s.heap.push (noSet w)).get? s.heap.objs.size = some (noSet w) := Heap.get?_push_size _ rfl
      have hT : Shared.TypeIs { s with heap := s.heap.push (noSet w) } (.ref s.heap.objs.size) "set" := ⟨_, hS, rfl⟩
      have li := PySem.F.called_set.init.lookup
      have bi := PySem.F.called_set.init.bind (.ref s.heap.objs.size)
      repeat (any_goals (first | assumption | wp_step))
      refine codeAny_mono (codeAny_call_builtin (R := wants (fun r t => r = .none ∧ ∃ h' tk c, t = { s with heap := h', toks := tk } ∧ SetR w h' s.heap.objs.size (fun j => decide (j ∈ ns)) c ∧ c ≤ ns.length ∧ (∀ b o, s.heap.get? b = some o → h'.get? b = some o)) E) PySem.F.called_set.init.plain PySem.F.entry_set_init (check_set_init_1 hT ?_)) fun r2 t2 hr2 => ?_
      · obtain ⟨ol, eol, cl, nl, dl⟩ := hl
        obtain ⟨ocls, odict, odata, oslots⟩ := ol
        simp only at cl dl
        subst cl
        subst dl
        have eol' : (s.heap.push (noSet w)).get? l = some { cls := .type "list", dict := odict, data := .seq its nl, slots := oslots } := Heap.get?_push_of_some _ eol
        have u1 := PySem.F.sub_list_set
        have u2 := PySem.F.sub_list_frozenset
        have u3 : (Value.type "list" == Value.type "dict") = false := by decide
        have hl1 : (s.heap.push (noSet w)).IsList l its := ⟨_, eol', rfl, nl, rfl⟩
        unfold Builtin.«set.__init__» noKeywords Builtin.Frozenset.updateFrom
        generalize hPI : pyIter = PI
        wp_walk
        subst hPI
        refine wpAny_pyIter_list hl1 (wpAny_bind (wpAny_runValue ?_))
        have lS : l < s.heap.objs.size := Heap.lt_size eol
        have h3 : A.in1.in1.in1.handled = none := by simp [hh]
        have zS : (s.heap.push (noSet w)).objs.size = s.heap.objs.size + 1 := Heap.size_push ..
        have nI : l ≠ (s.heap.push (noSet w)).objs.size := by
          rw [zS]
          exact Nat.ne_of_lt (Nat.lt_succ_of_lt lS)
        have nF : s.heap.objs.size ∉ [(s.heap.push (noSet w)).objs.size, l] := by
          rw [zS]
          intro m
          rcases List.mem_cons.mp m with e | m
          · exact Nat.ne_of_lt (Nat.lt_succ_self _) e
          · exact Nat.ne_of_gt lS (List.mem_singleton.mp m)
        have val : ∀ (i : Nat) (v : Value), its[i]? = some v → ∃ k t, ns[i]? = some k ∧ v = .int k t := fun i v hv => by
          have hi : i < ns.length := by
            rw [← sz]
            exact (Array.getElem?_eq_some_iff.mp hv).1
          obtain ⟨t, e⟩ := PyProof.Rows.IntsAre.int_at hit i v (by rw [Array.getElem?_toList]; exact hv)
          refine ⟨ns[i], t, List.getElem?_eq_getElem hi, ?_⟩
          rw [e, List.getD_eq_getElem?_getD, List.getElem?_eq_getElem hi] <;> rfl
        refine set_update_ints ((Walks.list h3 _ l nI its).toS) s.heap.objs.size nF ns sz hb val (its.size - 0) 0 _ (by omega) (Nat.zero_le _) ⟨⟨_, Heap.get?_push_size _ rfl, rfl, rfl⟩, (hl1.push _)⟩ ?h0 ?h1
        case h0 =>
          have eg : ((s.heap.push (noSet w)).push { cls := .type "list_iterator", data := .fields #[.ref l, .int 0 0] }).get? s.heap.objs.size = some (noSet w) := Heap.get?_push_of_some _ hS
          exact ⟨0, Nat.le_refl 0, setR_new_at eg⟩
        case h1 =>
          intro t c2 hm hc2 hS2
          obtain ⟨h', g', d', tk', os'⟩ := t
          have eg : g' = s.gens := hm.gens
          have ed : d' = s.drawn := hm.drawn
          have eo : os' = s.os := hm.os
          subst eg
          subst ed
          subst eo
          show wpAny _ _ _ _ _ _
          refine wpAny_pure ?_
          show wpAny _ _ (ret Value.none) _ _ _
          rw [sz] at hc2
          refine wpAny_pure ⟨rfl, h', tk', c2, rfl, hS2, hc2, fun b o e => ?_⟩
          have b0 : b < s.heap.objs.size := Heap.lt_size e
          refine hm.heap b o (fun m => ?_) (Heap.get?_push_of_some _ (Heap.get?_push_of_some _ e))
          rcases List.mem_cons.mp m with q | m
          · exact Nat.ne_of_lt b0 q
          · have q := List.mem_singleton.mp m
            rw [zS] at q
            exact Nat.ne_of_lt (Nat.lt_succ_of_lt b0) q
      · cases r2 with
        | error e => exact hr2
        | ok fl2 =>
          cases fl2 with
          | ret r =>
            obtain ⟨rfl, h', tk, c2, rfl, q1, q2, q3⟩ := hr2
            repeat (any_goals (first | assumption | wp_step))
            exact h _ _ _ q1 q2 q3
          | _ => exact hr2.elim
    | _ => exact hr.elim
theorem sorted_setN {a : Addr} {S : Int → Bool} {n : Nat} {Q : Value → Shared → Prop} (R : SetR w s.heap a S n) (hh : A.handled = none) (hz : n ≤ sizeLine)
    (hQ : ∀ t p (out : List Value) (c : Nat) (ks : List Int), (∀ b o, s.heap.get? b = some o → t.heap.get? b = some o) → t.gens = s.gens → t.os = s.os → s.heap.objs.size ≤ p → t.heap.get? p = some (seqObj "list" out.toArray c) → IntsAre out ks → ks.Pairwise (· ≤ ·) → ks.Nodup → (∀ k, k ∈ ks ↔ S k = true) → ks.length = n → Q (.ref p) t) :
    wpAny (model P w) A (PySem.call (.builtin "sorted") [.ref a]) Q E s := by
  obtain ⟨o, es, ep, t, ho, hex, hd, g, nd, hm, hb, hf, hn, hr, hl⟩ := R
  refine Calls.call_function_entry kind_sorted plain_sorted entry_sorted (args_sorted1 _) ?_
  unfold Builtin.«sorted»
  refine wpAny_bind (m := checkCount "sorted" 1 1 _) (wpAny_pure (wpAny_bind (collect_set (A := A.in1) hh ⟨o, ho, hex.1, hd⟩ hf hb hr hl fun s1 vs k1 hz1 g1 o1 pm => ?_)))
  have vl : vs.length = n := by
    rw [pm.length_eq, List.length_map, Array.length_toList]
    exact hn
  have hI : IntsAre vs (vs.map Builtin.Re.reRawOf) := L2.ints_of vs fun v hv => by
    obtain ⟨e, he, q⟩ := List.mem_map.mp (pm.mem_iff.mp hv)
    obtain ⟨k, tk, e1, _⟩ := g e he
    exact ⟨k, tk, by rw [← q]; exact e1⟩
  have pk : (vs.map Builtin.Re.reRawOf).Perm (es.toList.map L2.keyOf) := by
    have q := pm.map Builtin.Re.reRawOf
    rw [List.map_map] at q
    exact q
  refine wpAny_bind (wpAny_newList ?_ (by rw [vl]; exact hz))
  have eL : (s1.heap.push (seqObj "list" vs.toArray 0)).get? s1.heap.objs.size = some (seqObj "list" vs.toArray 0) := Heap.get?_push_size _ rfl
  refine wpAny_bind (wpAny_holding (wpAny_call_entry slot_list_sort ⟨_, eL, rfl⟩ entry_list_sort (SrtO.list_sort_ord SrtO.swo_int eL (by rw [vl]; exact hz) (fun h2 => SrtO.ints_sortable hI h2) fun out a1 a2 => ⟨_, rfl, ?_⟩) (args_list_sort _)))
  obtain ⟨j1, j2, j3⟩ := SrtO.ints_out hI a1 a2
  obtain ⟨c, hc⟩ := sortedHeap_at (vs := vs) (out := out.toArray) eL
  have pn : (out.map SrtO.iv).Perm (es.toList.map L2.keyOf) := j2.trans pk
  refine wpAny_pure ⟨_, rfl, hQ _ s1.heap.objs.size out c _ (fun b u e => ?_) g1 o1 hz1 hc j1 j3 (pn.nodup_iff.mpr nd) (fun k => by rw [pn.mem_iff, ← hm k]) ?_⟩
  · have lt := Heap.lt_size (k1 b u e)
    show (sortedHeap (s1.heap.push (seqObj "list" vs.toArray 0)) s1.heap.objs.size vs out.toArray).get? b = some u
    rw [sortedHeap_old (Nat.ne_of_lt lt) (by rw [size_push']; exact Nat.lt_succ_of_lt lt)]
    exact Heap.get?_push_of_some _ (k1 b u e)
  · rw [pn.length_eq, List.length_map, Array.length_toList]
    exact hn
end
end LB

set_option Elab.async false
set_option linter.all false
set_option autoImplicit false
set_option maxRecDepth 100000
set_option maxHeartbeats 2000000
/-! The rules: list(zip(a, b)), sorted(d), sorted(set(xs)). -/
namespace LB
open PySem PySem.Spec PyProof.Rows L2
def gLZip : ON := fun ds m => match ds with
  | [d, e] => (lstOf m d).bind fun xs => (lstOf m e).map fun ys => .lst ((xs.zip ys).map fun p => .tup [p.1, p.2])
  | _ => none
def intKs : List (KeyS × D) → Option (List Int)
  | [] => some []
  | (.inl i, _) :: r => (intKs r).map (i :: ·)
  | _ :: _ => none
def gSortedK : ON := fun ds m => match ds with
  | [d] => (dctOf m d).bind fun kvs => (intKs kvs).map fun ns => .lst ((isort ns).map .int)
  | _ => none
def gSortedS : O1 := fun d m => (lstOf m d).bind fun xs => (intsOf xs).bind fun ns => if ns.length < 4000 then some (.lst ((isort (ddup ns)).map .int)) else none
section
variable {P : Pm} {A : Nat → Addr} {m : Mem}
theorem SR.layP {K : PySem.W.Frag} (hK : K = P.K) {F : Hp} : ∀ {ps : List (V × V)} {qs : List (D × D)} (as : List Addr) {B H : Hp}, Paired (fun (p : V × V) (q : D × D) => Rep K B A m.n p.1 q.1 ∧ Rep K B A m.n p.2 q.2) ps qs → as.length = ps.length → as.Nodup → (∀ a ∈ as, H a = none) → SR P F B A m H →
    ∃ B', Ex B B' ∧ SR P F B' A m (LB.layP H as ps) ∧ Reps K B' A m.n (as.map V.ref) (qs.map fun q => .tup [q.1, q.2])
  | _, _, [], B, H, .nil, _, _, _, s => ⟨B, Ex.refl B, s, .nil⟩
  | _, _, [], B, H, .cons _ _, hl, _, _, _ => by cases hl
  | _, _, _ :: _, B, H, .nil, hl, _, _, _ => by cases hl
  | p :: ps, q :: qs, a :: as, B, H, .cons r t, hl, hn, hf, s => by
    subst hK
    have h0 : H a = none := hf a List.mem_cons_self
    have e1 : Ex B (upd B a (.tup [p.1, p.2])) := s.frozenEx h0
    have s1 : SR P F (upd B a (.tup [p.1, p.2])) A m (upd H a (.tup [p.1, p.2])) := s.frozen h0
    have n1 := List.nodup_cons.mp hn
    have t1 : Paired (fun (p : V × V) (q : D × D) => Rep P.K (upd B a (.tup [p.1, p.2])) A m.n p.1 q.1 ∧ Rep P.K (upd B a (.tup [p.1, p.2])) A m.n p.2 q.2) ps qs ∨ True := .inr trivial
    have t2 := L2.Paired.mapP (G := fun (x : V × V) (y : D × D) => Rep P.K (upd B a (.tup [p.1, p.2])) A m.n x.1 y.1 ∧ Rep P.K (upd B a (.tup [p.1, p.2])) A m.n x.2 y.2) t fun _ _ z => ⟨z.1.mono (Le.base e1), z.2.mono (Le.base e1)⟩
    obtain ⟨B', e2, s2, rs⟩ := SR.layP rfl as t2 (Nat.succ.inj hl) n1.2 (fun b hb => by
      rw [upd_ne (fun z => n1.1 (by rw [← z]; exact hb))]
      exact hf b (List.mem_cons_of_mem _ hb)) s1
    refine ⟨B', e1.trans e2, s2, .cons (Rep.mono (Le.base e2) ?_) rs⟩
    exact .tup (SqT.of upd_same) (.cons (r.1.mono (Le.base e1)) (.cons (r.2.mono (Le.base e1)) .nil))
theorem reps_zip {K : PySem.W.Frag} {B : Hp} {n : Nat} : ∀ {xs ys : List V} {ds es : List D}, Reps K B A n xs ds → Reps K B A n ys es → Paired (fun (p : V × V) (q : D × D) => Rep K B A n p.1 q.1 ∧ Rep K B A n p.2 q.2) (xs.zip ys) (ds.zip es)
  | _, _, _, _, .nil, _ => .nil
  | _, _, _, _, .cons _ _, .nil => .nil
  | _, _, _, _, .cons r t, .cons r2 t2 => .cons ⟨r, r2⟩ (reps_zip t t2)
end
section
variable {X : Cx} {P : Pm} {E : XK}
theorem lzip_imp (hK : X.K = P.K) {fas : SA} {σ : L2.St} {H : Hp} {Q : VK} (h : tX P E (opNM gLZip fas) σ H Q) : tCB (rLZip X.K) (tXA P E fas) σ H Q := by
  obtain ⟨F, B, A, ρ, m, s, e, h⟩ := h
  refine tXA_go s e (wp_bind h) fun ds m1 B1 A1 H1 vs h1 l1 s1 rs => ?_
  obtain ⟨z, hz, h2⟩ := lift_wp (wp_bind h1)
  unfold gLZip at hz
  split at hz
  · rename_i d e'
    cases hd : lstOf m1 d with
    | none => rw [hd] at hz; cases hz
    | some xs =>
      cases he : lstOf m1 e' with
      | none => rw [hd, he] at hz; cases hz
      | some ys =>
        rw [hd, he] at hz
        cases hz
        obtain ⟨v1, v2, rfl, r1, r2⟩ : ∃ v1 v2, vs = [v1, v2] ∧ Rep P.K B1 A1 m1.n v1 d ∧ Rep P.K B1 A1 m1.n v2 e' := by
          cases rs with
          | cons r t =>
            cases t with
            | cons r' t =>
              cases t
              exact ⟨_, _, rfl, r, r'⟩
        obtain ⟨a, ws, rfl, ha, rw1⟩ := lst_of s1 r1 hd
        obtain ⟨b, us, rfl, hb, rw2⟩ := lst_of s1 r2 he
        rw [hK]
        refine ⟨a, b, ws, us, rfl, SqL.of ha, SqL.of hb, fun as S q1 q2 q3 q4 q5 => ?_⟩
        obtain ⟨B', e2, s2, rs2⟩ := SR.layP (P := P) rfl as (reps_zip rw1 rw2) q5 q1 q2 s1
        exact alloc_lst (l1.trans (Le.base e2)) s2 rs2 h2 (by rw [layP_off as _ _ q3]; exact q4)
  · cases hz
theorem xe_lzip {a b : Expr} {fa : SA} {p p2 q pos : Pos} (hc : X.calm = true) (hK : X.K = P.K) (hm : X.mg "list" = none) (hm2 : X.mg "zip" = none) (ha : PA X [a, b] (tXA P E fa)) (hg : Gl X "list" := by rfl) (hg2 : Gl X "zip" := by rfl)
    (hs : starEach [.Call (.Name "zip" p2) [a, b] [] q] X.env = (false, eval (.Call (.Name "zip" p2) [a, b] [] q) X.env) :: starEach [] X.env := by rfl) (hs2 : starEach [a, b] X.env = (false, eval a X.env) :: starEach [b] X.env := by rfl) (hpl : (backTo q (starEach [b] X.env)).any (·.1) = false := by rfl) :
    PE X (.Call (.Name "list" p) [.Call (.Name "zip" p2) [a, b] [] q] [] pos) (tX P E (opNM gLZip fa)) :=
  pe_imp (pe_lzipD hc hm hm2 ha hg hg2 hs hs2 hpl) fun _ _ _ h => lzip_imp hK h
/-- sorted(d), d a dict whose keys are ints -/
def rSortedK : List V → Hp → VK → Prop := fun xs H Q => ∃ (a : Addr) (kvs : List (Key × V)) (ks : List Int), xs = [.ref a] ∧ Rd H a (.dK kvs) ∧ kvs.map (·.1) = ks.map Sum.inl ∧
  ∀ (ys : List Int) (p : Addr), ys.Perm ks → ys.Pairwise (· ≤ ·) → H p = none → Q (.ref p) (upd H p (.lst (ys.map V.int)))
theorem cr_sortedK (hcalm : X.calm = true) : CallR X (.builtin "sorted") rSortedK := by
  intro pins s σ H xs us Q I r q
  obtain ⟨a, kvs, ks, ex, hd, hks, q⟩ := q
  subst ex
  obtain ⟨u, eu, rx⟩ := vals1 r
  subst eu
  cases rx
  obtain ⟨z, lo, vs, rel, dd⟩ := dk_rd I.hok hd
  obtain ⟨ep, at1⟩ := dd.dictAt
  have keys : vs.map (·.1) = ks.map Sum.inl := rel.keys.symm.trans hks
  have len : vs.length = ks.length := by
    have e := congrArg List.length keys
    rw [List.length_map, List.length_map] at e
    exact e
  have lkv : kvs.length = vs.length := Paired.length rel
  refine Calls.call_function_entry PyProof.Rows.kind_sorted PyProof.Rows.plain_sorted PyProof.Rows.entry_sorted (PyProof.Rows.args_sorted1 _) ?_
  unfold Builtin.«sorted»
  refine wpAny_bind (m := checkCount "sorted" 1 1 _) (wpAny_pure (wpAny_bind (PySem.W.kdu_collect (A := X.A.in1) (PySem.W.kdl_dict (knd := mixKind X.prog X.w) (kvs := vs) (ep := ep) lo) (I.ok.hd hcalm) at1 (by omega) fun h' tk acc hk hacc => ?_)))
  have la : acc.toList.length = ks.length := by rw [Array.length_toList, hacc.1, len]
  have hI : IntsAre acc.toList ks := ints_each la fun j v e => by
    obtain ⟨k, x, e1, e2⟩ := hacc.2 j v (by rw [← Array.getElem?_toList]; exact e)
    have e3 : (vs.map (·.1))[j]? = some k := by
      rw [List.getElem?_map, e1]
      rfl
    rw [keys, List.getElem?_map] at e3
    cases e4 : ks[j]? with
    | none => rw [e4] at e3; cases e3
    | some y =>
      rw [e4] at e3
      cases e3
      rcases keyIs_shape (show keyIs (Sum.inl y) v = true from e2) with ⟨i, t, ek, ev⟩ | ⟨w, t, ek, ev⟩
      · cases ek
        exact ⟨y, t, rfl, ev⟩
      · cases ek
  have I1 : Inv X pins σ H { s with heap := h', toks := tk } := I.kept hk
  refine wpAny_bind (wpAny_newList ?_ (by rw [la]; omega))
  have eL : (h'.push (seqObj "list" acc.toList.toArray 0)).get? h'.objs.size = some (seqObj "list" acc.toList.toArray 0) := Heap.get?_push_size _ rfl
  show wpAny _ _ _ _ _ { s with heap := h'.push (seqObj "list" acc.toList.toArray 0), toks := tk }
  refine wpAny_bind (wpAny_holding (wpAny_call_entry PyProof.Rows.slot_list_sort ⟨_, eL, rfl⟩ PyProof.Rows.entry_list_sort
    (SrtO.list_sort_ord (s := { s with heap := h'.push (seqObj "list" acc.toList.toArray 0), toks := tk }) SrtO.swo_int eL (by rw [la]; omega) (fun h2 => SrtO.ints_sortable hI h2) fun out a1 a2 => ⟨_, rfl, ?_⟩) (PyProof.Rows.args_list_sort _)))
  obtain ⟨j1, j2, j3⟩ := SrtO.ints_out hI a1 a2
  obtain ⟨c, hc⟩ := PyProof.Rows.sortedHeap_at (vs := acc.toList) (out := out.toArray) eL
  have lz : ((out.map SrtO.iv).map V.int).length ≤ sizeLine := by
    rw [List.length_map, j2.length_eq]
    omega
  refine wpAny_pure ⟨_, rfl, .ref h'.objs.size, upd H h'.objs.size (.lst ((out.map SrtO.iv).map V.int)), I1.laid (t' := tk) (fun b u e => ?_) (Nat.le_refl _) (show ObjOk X.prog X.w _ _ _ (.lst ((out.map SrtO.iv).map V.int)) from ⟨lz, out, c, vals_of_ints j1, hc⟩), rfl, q _ _ j2 j3 (I1.hok.fresh (Nat.le_refl _))⟩
  have lt : b < h'.objs.size := Heap.lt_size e
  rw [PyProof.Rows.sortedHeap_old (Nat.ne_of_lt lt) (by rw [size_push']; exact Nat.lt_succ_of_lt lt)]
  exact Heap.get?_push_of_some _ e
theorem intKs_of {K : PySem.W.Frag} {B : Hp} {A : Nat → Addr} {n : Nat} : ∀ {kvs : List (Key × V)} {kds : List (KeyS × D)} {ks : List Int}, Paired (fun (p : Key × V) (q : KeyS × D) => p.1 = q.1 ∧ Rep K B A n p.2 q.2) kvs kds → intKs kds = some ks → kvs.map (·.1) = ks.map Sum.inl
  | _, _, _, .nil, h => by
    cases h
    rfl
  | p :: _, (.inl i, d) :: kds, ks, .cons r t, h => by
    have h' : (intKs kds).map (i :: ·) = some ks := h
    cases hr : intKs kds with
    | none => rw [hr] at h'; cases h'
    | some ns =>
      rw [hr] at h'
      cases h'
      have e1 : p.1 = Sum.inl i := r.1
      rw [List.map_cons, List.map_cons, intKs_of t hr, e1]
  | _, (.inr _, _) :: _, _, .cons _ _, h => by cases h
theorem opN_sortedK : OpN P gSortedK rSortedK := by
  intro F B A m H vs ds z Q s rs hz k
  unfold gSortedK at hz
  split at hz
  · rename_i d
    obtain ⟨v, rfl, r⟩ := rs.one
    cases hs : dctOf m d with
    | none => rw [hs] at hz; cases hz
    | some kds =>
      rw [hs] at hz
      cases hi : intKs kds with
      | none => simp only [Option.bind_some, hi] at hz; cases hz
      | some ns =>
        simp only [Option.bind_some, hi, Option.map_some, Option.some.injEq] at hz
        subst hz
        obtain ⟨j, kvs, _, _, _, ev, hH, pr⟩ := dct_of s r hs
        refine ⟨A j, kvs, ns, by rw [ev], .inl hH, intKs_of pr hi, fun ys p hp1 hp2 hp => ?_⟩
        have e := sorted_uniq (hp1.trans (isort_perm ns).symm) hp2 (isort_sorted ns)
        subst e
        exact k _ _ _ (s.frozenEx hp) (s.frozen hp) (.lst upd_same (reps_ints _))
  · cases hz
def tSetS (K : PySem.W.Frag) (ta : TE) : TE := fun σ H Q => ta σ H fun x H1 => ∃ (l : Addr) (ns : List Int), x = V.ref l ∧ SqL K H1 l (ns.map V.int) ∧ ns.length < 4000 ∧
  ∀ (ks : List Int) (p : Addr), ks.Pairwise (· ≤ ·) → ks.Nodup → (∀ k, k ∈ ks ↔ k ∈ ns) → H1 p = none → Q (.ref p) (upd H1 p (.lst (ks.map V.int)))
theorem pe_setS {a : Expr} {ta : TE} {p p2 q pos : Pos} (hc : X.calm = true) (hg : Gl X "sorted") (hm : X.mg "sorted" = none) (hv : bootBuiltins "sorted" = some (.builtin "sorted")) (hg2 : Gl X "set") (hm2 : X.mg "set" = none) (ha : PE X a ta)
    (hs : starEach [a] X.env = (false, eval a X.env) :: starEach [] X.env := by rfl) : PE X (.Call (.Name "sorted" p) [.Call (.Name "set" p2) [a] [] q] [] pos) (tSetS X.K ta) := by
  refine ⟨fun pins s σ H Q I h => ?_⟩
  refine Call_ (ld_blt I hg hm hv (callWith_builtin1 (args_cons ?_ rfl) rfl rfl))
  refine Call_ (ld_blt I hg2 hm2 PyProof.Rows.boot_set (callWith_type1 (args_cons (thn (ha.run pins s σ H _ I h) fun v s1 ⟨x, H1, I1, r1, q1⟩ => args_nil ?_) hs) hs rfl))
  obtain ⟨l, ns, rfl, hq, h1, q1⟩ := q1
  cases r1
  obtain ⟨us, r, pl, hz⟩ := I1.list hq
  have lu : us.length = ns.length := by rw [← r.length, List.length_map]
  refine set_of_lst ns (I1.ok.hd hc) pl.isList (by simpa using r.ints) (by unfold scanBound; omega) fun h' tk c R hcn hk => args_nil ?_
  have I2 : Inv X pins σ H1 { s1 with heap := h', toks := tk } := I1.kept hk
  refine sorted_setN (s := { s1 with heap := h', toks := tk }) R (I1.ok.hd hc) (by have := sizeLine_eq; omega) fun t p out cc ks k1 gg go hp hat hI hle hnd hmem hlen => ?_
  obtain ⟨th, tg, td, tt, to⟩ := t
  have hlz : (ks.map V.int).length ≤ sizeLine := by
    rw [List.length_map, hlen]
    have := sizeLine_eq
    omega
  have new : ObjOk X.prog X.w (upd H1 p (.lst (ks.map V.int))) th p (.lst (ks.map V.int)) := ⟨hlz, out, cc, vals_of_ints hI, hat⟩
  have J := I2.call (g' := tg) (t' := tt) (d' := td) (ch := []) (Un.laid k1 hp (I2.hok.fresh hp)) (I2.hok.laid k1 hp new) (by have gg' : tg = s1.gens := gg; rw [gg']; exact I2.bare) fun _ z => nomatch z
  have eo : to = s1.os := go
  subst eo
  exact ⟨.ref p, _, J, rfl, q1 ks p hle hnd (fun k => by rw [hmem k]; simp) (I2.hok.fresh hp)⟩
theorem ddup_ok (ns : List Int) : (ddup ns).Nodup ∧ ∀ k, k ∈ ddup ns ↔ k ∈ ns := by
  have key : ∀ (ns acc : List Int), acc.Nodup → (ns.foldl (fun acc i => if acc.any (· == i) then acc else acc ++ [i]) acc).Nodup ∧ ∀ k, k ∈ ns.foldl (fun acc i => if acc.any (· == i) then acc else acc ++ [i]) acc ↔ k ∈ acc ∨ k ∈ ns := by
    intro ns
    induction ns with
    | nil => exact fun acc h => ⟨h, fun k => by simp⟩
    | cons i r ih =>
      intro acc h
      rw [List.foldl_cons]
      by_cases c : acc.any (· == i) = true
      · rw [if_pos c]
        have hi : i ∈ acc := by
          obtain ⟨y, hy, e⟩ := List.any_eq_true.mp c
          have e2 : y = i := by simpa using e
          rw [← e2]
          exact hy
        refine ⟨(ih acc h).1, fun k => ?_⟩
        rw [(ih acc h).2 k, List.mem_cons]
        constructor
        · rintro (q | q)
          · exact .inl q
          · exact .inr (.inr q)
        · rintro (q | q | q)
          · exact .inl q
          · rw [q]
            exact .inl hi
          · exact .inr q
      · rw [if_neg c]
        have hi : i ∉ acc := fun q => c (List.any_eq_true.mpr ⟨i, q, by simp⟩)
        have hn : (acc ++ [i]).Nodup := by
          rw [List.nodup_append]
          refine ⟨h, by simp, fun a ha b hb => ?_⟩
          rw [List.mem_singleton.mp hb]
          exact fun e => hi (by rw [← e]; exact ha)
        refine ⟨(ih _ hn).1, fun k => ?_⟩
        rw [(ih _ hn).2 k, List.mem_append, List.mem_singleton, List.mem_cons, or_assoc]
  exact ⟨(key ns [] List.nodup_nil).1, fun k => by rw [show ddup ns = ns.foldl _ [] from rfl, (key ns [] List.nodup_nil).2 k]; simp⟩
theorem xe_setS {a : Expr} {fa : SE} {p p2 q pos : Pos} (hc : X.calm = true) (hK : X.K = P.K) (hm : X.mg "sorted" = none) (hv : bootBuiltins "sorted" = some (.builtin "sorted")) (hm2 : X.mg "set" = none) (ha : PE X a (tX P E fa)) (hg : Gl X "sorted" := by rfl) (hg2 : Gl X "set" := by rfl)
    (hs : starEach [a] X.env = (false, eval a X.env) :: starEach [] X.env := by rfl) : PE X (.Call (.Name "sorted" p) [.Call (.Name "set" p2) [a] [] q] [] pos) (tX P E (op1 gSortedS fa)) := by
  refine pe_imp (pe_setS hc hg hm hv hg2 hm2 ha hs) fun σ H Q h => ?_
  refine op1_imp (r := fun x H1 Q => ∃ (l : Addr) (ns : List Int), x = V.ref l ∧ SqL X.K H1 l (ns.map V.int) ∧ ns.length < 4000 ∧ ∀ (ks : List Int) (p : Addr), ks.Pairwise (· ≤ ·) → ks.Nodup → (∀ k, k ∈ ks ↔ k ∈ ns) → H1 p = none → Q (.ref p) (upd H1 p (.lst (ks.map V.int)))) ?_ h
  intro F B A m H x dx z Q s rx hz k
  unfold gSortedS at hz
  cases hs : lstOf m dx with
  | none => rw [hs] at hz; cases hz
  | some ys =>
    rw [hs] at hz
    cases hi : intsOf ys with
    | none => simp only [Option.bind_some, hi] at hz; cases hz
    | some ns =>
      simp only [Option.bind_some, hi] at hz
      by_cases c : ns.length < 4000
      · rw [if_pos c] at hz
        cases hz
        obtain ⟨a, ws, rfl, ha, rw⟩ := lst_of s rx hs
        have e := ints_of rw hi
        subst e
        refine ⟨a, ns, rfl, by rw [hK]; exact SqL.of ha, c, fun ks p h1 h2 h3 h4 => ?_⟩
        obtain ⟨d1, d2⟩ := ddup_ok ns
        have pm : ks.Perm (isort (ddup ns)) := ((List.perm_ext_iff_of_nodup h2 d1).mpr fun k => by rw [h3 k, d2 k]).trans (isort_perm _).symm
        have e := sorted_uniq pm h1 (isort_sorted _)
        subst e
        exact k _ _ _ (s.frozenEx h4) (s.frozen h4) (.lst upd_same (reps_ints _))
      · rw [if_neg c] at hz
        cases hz
end
end LB

set_option Elab.async false
set_option linter.all false
set_option autoImplicit false
set_option maxRecDepth 100000
set_option maxHeartbeats 2000000
/-! Texts: split, join, str(i), int(z), walks over texts. -/
namespace LB
open PySem PySem.Spec PyProof.Rows L2
theorem Ctx.str {fa : List He.Fa} {fn : List He.DefD} {ts : List He.Tab} {ex : PySem.W.Frag → Bool} {w : World} {K : PySem.W.Frag} {mg : Str → Option Value} (c : Ctx fa fn ts ex w K mg) (i : Nat) {x z : Str} (h : fa[i]? = some (.str x z) := by rfl) : ∃ t, mg x = some (.str z t) :=
  let ⟨_, X, G, S⟩ := c.at_
  He.str_ok X G (S.t.d.fact i h)
/-- a comprehension within another one that takes no name of it -/
theorem blkOk_in {N : List Str} {sc scope : Scope} {own : List (Str × Nat)} (h : blkC N { kind := .function, names := [], isGenerator := false, isCoroutine := false } scope own = true) : BlkOk N sc scope own :=
  let ⟨a, b, c, d, e⟩ := blkOk_by h
  ⟨a, b, c, fun y hy q => absurd (d y hy q) (by simp), e⟩
def strsOf : List D → Option (List Str)
  | [] => some []
  | .str z :: r => (strsOf r).map (z :: ·)
  | _ :: _ => none
def gSplit : O2 := fun x y _ => match x, y with
  | .str a, .str b => if (b.length == 0) = false ∧ a.length + 2 ≤ sizeLine then some (.lst ((Txt.split a b).map .str)) else none
  | _, _ => none
def gJoin : O2 := fun x y m => match x with
  | .str a => (lstOf m y).bind fun ds => (strsOf ds).bind fun ys => if (ys.map (·.length)).sum + ys.length * a.length ≤ 16777216 then some (.str (Txt.join a ys)) else none
  | _ => none
def gStr : ON := fun ds _ => match ds with
  | [.int i] => if i.natAbs.log2 < 1920 then some (.str (toString i)) else none
  | _ => none
def gIntS : ON := fun ds _ => match ds with
  | [.str a] => if a.length ≤ 640 then (PySem.intText? a).map .int else none
  | _ => none
def gNotInS : O2 := fun x y _ => match x, y with
  | .str a, .str b => (match a.cps.toList with
    | [c] => some (.bl (!decide (c ∈ b.cps.toList)))
    | _ => none)
  | _, _ => none
def wkStr (z : Str) : Wk := fun i _ => some ((strOf z)[i]?)
def itStr (a : SE) : SI := fun ρ => M.bind (a ρ) fun d m => match d with
  | .str z => .ok (wkStr z, (strOf z).length) m
  | _ => .bad
theorem strs_rep {K : PySem.W.Frag} {B : Hp} {A : Nat → Addr} {n : Nat} : ∀ ys : List Str, Reps K B A n (ys.map V.str) (ys.map D.str)
  | [] => .nil
  | y :: r => .cons (.str y) (strs_rep r)
theorem strs_of {K : PySem.W.Frag} {B : Hp} {A : Nat → Addr} {n : Nat} : ∀ {vs : List V} {ds : List D} {ys : List Str}, Reps K B A n vs ds → strsOf ds = some ys → vs = ys.map V.str
  | _, _, _, .nil, h => by
    cases h
    rfl
  | _, .str z :: ds, ys, .cons r t, h => by
    have h' : (strsOf ds).map (z :: ·) = some ys := h
    cases hr : strsOf ds with
    | none => rw [hr] at h'; cases h'
    | some zs =>
      rw [hr] at h'
      cases h'
      cases r
      rw [strs_of t hr]
      rfl
  | _, .non :: _, _, .cons _ _, h => by cases h
  | _, .bl _ :: _, _, .cons _ _, h => by cases h
  | _, .int _ :: _, _, .cons _ _, h => by cases h
  | _, .tup _ :: _, _, .cons _ _, h => by cases h
  | _, .lst _ :: _, _, .cons _ _, h => by cases h
  | _, .loc _ :: _, _, .cons _ _, h => by cases h
  | _, .ref _ :: _, _, .cons _ _, h => by cases h
  | _, .scr _ :: _, _, .cons _ _, h => by cases h
section
variable {X : Cx} {P : Pm} {E : XK} {pos apos : Pos} {fo fe : SE} {o ee : Expr}
theorem op2_split : Op2 P gSplit fun x y H Q => ∃ a b, x = V.str a ∧ [y] = [V.str b] ∧ (b.length == 0) = false ∧ a.length + 2 ≤ sizeLine ∧ rNewStrs (Txt.split a b) H Q := by
  intro F B A m H x y dx dy z Q s rx ry hz k
  unfold gSplit at hz
  split at hz
  · rename_i a b
    by_cases c : (b.length == 0) = false ∧ a.length + 2 ≤ sizeLine
    · rw [if_pos c] at hz
      cases hz
      cases rx
      cases ry
      exact ⟨a, b, rfl, rfl, c.1, c.2, fun p hp => k _ _ _ (s.frozenEx hp) (s.frozen hp) (.lst upd_same (strs_rep _))⟩
    · rw [if_neg c] at hz
      cases hz
  · cases hz
theorem op2_join : Op2 P gJoin fun x y H Q => ∃ a p, ∃ ys : List Str, x = V.str a ∧ [y] = [V.ref p] ∧ (SqL P.K H p (ys.map V.str) ∨ SqT P.K H p (ys.map V.str)) ∧ (ys.map (·.length)).sum + ys.length * a.length ≤ 16777216 ∧ Q (.str (Txt.join a ys)) H := by
  intro F B A m H x y dx dy z Q s rx ry hz k
  unfold gJoin at hz
  split at hz
  · rename_i a
    cases hs : lstOf m dy with
    | none => rw [hs] at hz; cases hz
    | some ds =>
      rw [hs] at hz
      cases hi : strsOf ds with
      | none => simp only [Option.bind_some, hi] at hz; cases hz
      | some ys =>
        simp only [Option.bind_some, hi] at hz
        by_cases c : (ys.map (·.length)).sum + ys.length * a.length ≤ 16777216
        · rw [if_pos c] at hz
          cases hz
          cases rx
          obtain ⟨p, ws, rfl, hp, rw⟩ := lst_of s ry hs
          have e := strs_of rw hi
          subst e
          exact ⟨a, p, ys, rfl, rfl, .inl (SqL.of hp), c, k B H _ (Ex.refl B) s (.str _)⟩
        · rw [if_neg c] at hz
          cases hz
  · cases hz
theorem xe_split (hK : X.K = P.K) (ho : PE X o (tX P E fo)) (he : PE X ee (tX P E fe))
    (hbase : attributeBase o "split" X.env (eval o X.env) = eval o X.env := by rfl)
    (hfew : ((backTo pos (starEach (ee :: []) X.env)).all (fun x => !x.1) && (backToKw pos (keywordEach [] X.env)).all (fun x => x.1.isSome) && decide ((ee :: []).length + ([] : List Keyword).length + (if ([] : List Keyword).isEmpty then 0 else 1) < 30)) = true := by rfl)
    (hline : (apos.endLine == pos.line) = true := by rfl) (hs : starEach (ee :: []) X.env = (false, eval ee X.env) :: starEach [] X.env := by rfl) (hplain : (backTo pos (starEach [] X.env)).any (·.1) = false := by rfl) :
    PE X (.Call (.Attribute o "split" apos) [ee] [] pos) (tX P E (mt1E isStr gSplit fo fe)) :=
  xe_mt1 PySem.F.plainAttrs_str PySem.F.slot_str_split PySem.F.type_str_split mt_split chk_str op2_split hK ho he hbase hfew hline hs hplain
theorem xe_join (hK : X.K = P.K) (ho : PE X o (tX P E fo)) (he : PE X ee (tX P E fe))
    (hbase : attributeBase o "join" X.env (eval o X.env) = eval o X.env := by rfl)
    (hfew : ((backTo pos (starEach (ee :: []) X.env)).all (fun x => !x.1) && (backToKw pos (keywordEach [] X.env)).all (fun x => x.1.isSome) && decide ((ee :: []).length + ([] : List Keyword).length + (if ([] : List Keyword).isEmpty then 0 else 1) < 30)) = true := by rfl)
    (hline : (apos.endLine == pos.line) = true := by rfl) (hs : starEach (ee :: []) X.env = (false, eval ee X.env) :: starEach [] X.env := by rfl) (hplain : (backTo pos (starEach [] X.env)).any (·.1) = false := by rfl) :
    PE X (.Call (.Attribute o "join" apos) [ee] [] pos) (tX P E (mt1E isStr gJoin fo fe)) :=
  xe_mt1 PySem.F.plainAttrs_str PySem.F.slot_str_join PySem.F.type_str_join mt_join chk_str (by rw [hK]; exact op2_join) hK ho he hbase hfew hline hs hplain
theorem opN_str : OpN P gStr fun xs H Q => ∃ i, xs = [V.int i] ∧ i.natAbs.log2 < 1920 ∧ Q (.str (toString i)) H := by
  intro F B A m H vs ds z Q s rs hz k
  unfold gStr at hz
  split at hz
  · rename_i i
    obtain ⟨v, rfl, r⟩ := rs.one
    by_cases c : i.natAbs.log2 < 1920
    · rw [if_pos c] at hz
      cases hz
      cases r
      exact ⟨i, rfl, c, k B H _ (Ex.refl B) s (.str _)⟩
    · rw [if_neg c] at hz
      cases hz
  · cases hz
theorem opN_intS : OpN P gIntS fun xs H Q => ∃ a n, xs = [V.str a] ∧ PySem.intText? a = some n ∧ a.length ≤ 640 ∧ Q (.int n) H := by
  intro F B A m H vs ds z Q s rs hz k
  unfold gIntS at hz
  split at hz
  · rename_i a
    obtain ⟨v, rfl, r⟩ := rs.one
    by_cases c : a.length ≤ 640
    · rw [if_pos c] at hz
      cases hn : PySem.intText? a with
      | none => rw [hn] at hz; cases hz
      | some n =>
        rw [hn] at hz
        cases hz
        cases r
        exact ⟨a, n, rfl, hn, c, k B H _ (Ex.refl B) s (.int _)⟩
    · rw [if_neg c] at hz
      cases hz
  · cases hz
theorem jok_str {F B : Hp} {A : Nat → Addr} {n : Nat} {z : Str} : JOk P F B A n (Its z) (wkStr z) := by
  intro i F' B' A' m' H' _ l s
  have e : (strOf z)[i]? = (z.cps[i]?).map fun c => D.str ⟨#[c]⟩ := by
    unfold strOf
    rw [List.getElem?_map, Array.getElem?_toList]
  refine ⟨fun h => ?_, fun x h => ?_⟩
  · have h2 : (strOf z)[i]? = none := Option.some.inj h
    rw [e] at h2
    cases hc : z.cps[i]? with
    | some c => rw [hc] at h2; cases h2
    | none => exact Array.getElem?_eq_none_iff.mp hc
  · have h2 : (strOf z)[i]? = some x := Option.some.inj h
    rw [e] at h2
    cases hc : z.cps[i]? with
    | none => rw [hc] at h2; cases h2
    | some c =>
      rw [hc] at h2
      cases h2
      refine ⟨(Array.getElem?_eq_some_iff.mp hc).1, fun y H2 hy => ?_⟩
      obtain ⟨e1, c2, hc2, e2⟩ := hy
      rw [hc] at hc2
      cases hc2
      subst e1
      subst e2
      exact ⟨B', Ex.refl B', s, .str _⟩
theorem xi_str {tg l : Expr} {f : SE} (hl : PE X l (tX P E f)) : PI X tg l (tXI P E (itStr f)) := by
  refine pi_imp (pi_str hl) fun σ H R ⟨F, B, A, ρ, m, s, e, h⟩ => ?_
  refine tX_go s e (wp_bind h) fun d m1 B1 A1 H1 x h1 l1 s1 r => ?_
  split at h1
  · cases r
    exact ⟨_, rfl, h1 B1 A1 H1 _ l1 s1 jok_str⟩
  · exact h1.elim
theorem op2_notInS : Op2 P gNotInS rNotInS := by
  intro F B A m H x y dx dy z Q s rx ry hz k
  unfold gNotInS at hz
  split at hz
  · rename_i a b
    split at hz
    · rename_i c hc
      cases hz
      cases rx
      cases ry
      refine ⟨c, b, ?_, rfl, k B H _ (Ex.refl B) s (.bl _)⟩
      obtain ⟨l⟩ := a
      obtain ⟨l⟩ := l
      have e : l = [c] := hc
      subst e
      rfl
    · cases hz
  · cases hz
theorem xe_gstr {x : Str} {p : Pos} {z : Str} (h : ∃ t, X.mg x = some (.str z t)) (hg : Gl X x := by rfl) (hd : (x == ("__debug__" : Str)) = false := by decide) : PE X (.Name x p) (tX P E (cn (.str z))) := by
  obtain ⟨t, ht⟩ := h
  exact xe_glob (v := .str z) hg ht ⟨t, rfl⟩ (fun _ _ _ => .str z) hd
end
end LB

set_option Elab.async false
set_option linter.all false
set_option autoImplicit false
set_option maxRecDepth 100000
set_option maxHeartbeats 0
/-! Pure: how loops, comprehensions, calls are reckoned with. -/
namespace LB
open PySem
theorem Mem.put_new (m : Mem) (o u : MO) : (m.new o).put m.n u = m.new u := by
  unfold Mem.put Mem.new
  congr 1
  funext j
  by_cases h : j = m.n
  · simp only [h, if_pos]
  · simp only [h, if_false]
theorem Mem.new_at (m : Mem) (o : MO) : (m.new o).get m.n = some o := by
  unfold Mem.new
  exact if_pos rfl
theorem Mem.new_lt (m : Mem) (o : MO) : m.n < (m.new o).n := Nat.lt_succ_self _
structure Keep (m m2 : Mem) : Prop where
  n : m.n ≤ m2.n
  at_ : ∀ k, k < m.n → m2.get k = m.get k
theorem Keep.refl (m : Mem) : Keep m m := ⟨Nat.le_refl _, fun _ _ => rfl⟩
theorem Keep.trans {a b c : Mem} (x : Keep a b) (y : Keep b c) : Keep a c := ⟨Nat.le_trans x.n y.n, fun k h => (y.at_ k (Nat.lt_of_lt_of_le h x.n)).trans (x.at_ k h)⟩
theorem Keep.new (m : Mem) (o : MO) : Keep m (m.new o) := ⟨Nat.le_succ _, fun k h => by
  unfold Mem.new
  exact if_neg (Nat.ne_of_lt h)⟩
theorem Keep.kill {m : Mem} {o : MO} : Keep m ((m.new o).kill m.n) := ⟨Nat.le_succ _, fun k h => by
  have e := Nat.ne_of_lt h
  show (if k = m.n then none else (m.new o).get k) = m.get k
  rw [if_neg e]
  exact (Keep.new m o).at_ k h⟩
/-! ### mirrors -/
open Classical in
noncomputable def spec {α : Type} (enc : α → List D) (f : α → D) : Fn := fun ds m => if h : ∃ a, enc a = ds then .ok (f h.choose) m else .bad
theorem spec_at {α : Type} {enc : α → List D} {f : α → D} (hi : ∀ a b, enc a = enc b → a = b) (a : α) (m : Mem) : spec enc f (enc a) m = .ok (f a) m := by
  have h : ∃ b, enc b = enc a := ⟨a, rfl⟩
  unfold spec
  rw [dif_pos h, hi _ _ h.choose_spec]
theorem LeR.keep {d d2 : D} {m m2 : Mem} (hd : d2 = d) (k : Keep m m2) (hb : d.blw m.n = true) : LeR m (.ok d m) (.ok d2 m2) := by
  subst hd
  exact .ok _ _ _ ⟨Nat.le_refl _, k.n, fun j hj => .inr ⟨(k.at_ j hj).symm, .inl ⟨hj, rfl⟩⟩⟩ hb
theorem spec_le {α : Type} {enc : α → List D} {f : α → D} {g : Fn} (h : ∀ a m, ∃ m2, g (enc a) m = .ok (f a) m2 ∧ Keep m m2) (hb : ∀ a n, (f a).blw n = true) (ds : List D) (m : Mem) : LeR m (spec enc f ds m) (g ds m) := by
  unfold spec
  by_cases c : ∃ a, enc a = ds
  · rw [dif_pos c]
    obtain ⟨m2, e, k⟩ := h c.choose m
    rw [c.choose_spec] at e
    rw [e]
    exact .keep rfl k (hb _ _)
  · rw [dif_neg c]
    exact .bad _
/-! ### one behind the other -/
theorem bind_ok {α β : Type} {a : M α} {f : α → M β} {m m1 : Mem} {x : α} (h : a m = .ok x m1) : M.bind a f m = f x m1 := by
  unfold M.bind
  rw [h]
theorem seq_ok {a b : SS} {ρ ρ1 : Ev} {m m1 : Mem} (h : a ρ m = .ok (.nx, ρ1) m1) : sSeq a b ρ m = b ρ1 m1 := bind_ok h
theorem seq_rt {a b : SS} {ρ ρ1 : Ev} {m m1 : Mem} {d : D} (h : a ρ m = .ok (.rt d, ρ1) m1) : sSeq a b ρ m = .ok (.rt d, ρ1) m1 := bind_ok h
theorem run_rt {n : Nat} {f : SS} {ds : List D} {m m1 : Mem} {ρ1 : Ev} {d : D} (h : f (start n ds) m = .ok (.rt d, ρ1) m1) : run n f ds m = .ok d m1 := bind_ok h
theorem run_nx {n : Nat} {f : SS} {ds : List D} {m m1 : Mem} {ρ1 : Ev} (h : f (start n ds) m = .ok (.nx, ρ1) m1) : run n f ds m = .ok .non m1 := bind_ok h
theorem asg_ok {a : SE} {g : SG} {ρ ρ1 : Ev} {m m1 : Mem} {d : D} (h : a ρ m = .ok d m1) (hg : g d ρ = some ρ1) : sAsg a g ρ m = .ok (.nx, ρ1) m1 := by
  unfold sAsg
  rw [bind_ok h]
  simp only [hg]
  rfl
theorem ret_ok {a : SE} {ρ : Ev} {m m1 : Mem} {d : D} (h : a ρ m = .ok d m1) : sRet a ρ m = .ok (.rt d, ρ) m1 := bind_ok h
theorem if_ok {t : SB} {a b : SS} {ρ : Ev} {m m1 : Mem} {c : Bool} (h : t ρ m = .ok c m1) : sIf t a b ρ m = (if c = true then a ρ else b ρ) m1 := bind_ok h
theorem if_yes {t : SB} {a b : SS} {ρ : Ev} {m m1 : Mem} (h : t ρ m = .ok true m1) : sIf t a b ρ m = a ρ m1 := by
  rw [if_ok h]
  exact congrFun (if_pos rfl) m1
theorem if_no {t : SB} {a b : SS} {ρ : Ev} {m m1 : Mem} (h : t ρ m = .ok false m1) : sIf t a b ρ m = b ρ m1 := by
  rw [if_ok h]
  exact congrFun (if_neg Bool.false_ne_true) m1
theorem vr_ok {i : Nat} {ρ : Ev} {d : D} {m : Mem} (h : ρ[i]? = some (some d)) : vr i ρ m = .ok d m := by
  unfold vr
  rw [h]
theorem op2_ok {g : O2} {a b : SE} {ρ : Ev} {m m1 m2 : Mem} {x y d : D} (ha : a ρ m = .ok x m1) (hb : b ρ m1 = .ok y m2) (hg : g x y m2 = some d) : op2 g a b ρ m = .ok d m2 := by
  unfold op2
  rw [bind_ok ha, bind_ok hb, hg]
  rfl
theorem op1_ok {g : O1} {a : SE} {ρ : Ev} {m m1 : Mem} {x d : D} (ha : a ρ m = .ok x m1) (hg : g x m1 = some d) : op1 g a ρ m = .ok d m1 := by
  unfold op1
  rw [bind_ok ha, hg]
  rfl
theorem argC_ok {a : SE} {r : SA} {ρ : Ev} {m m1 m2 : Mem} {x : D} {xs : List D} (ha : a ρ m = .ok x m1) (hr : r ρ m1 = .ok xs m2) : argC a r ρ m = .ok (x :: xs) m2 := by
  unfold argC
  rw [bind_ok ha, bind_ok hr]
  rfl
theorem argN_ok {ρ : Ev} {m : Mem} : argN ρ m = .ok [] m := rfl
theorem arg1_ok {a : SE} {ρ : Ev} {m m1 : Mem} {x : D} (ha : a ρ m = .ok x m1) : argC a argN ρ m = .ok [x] m1 := argC_ok ha rfl
theorem arg2_ok {a b : SE} {ρ : Ev} {m m1 m2 : Mem} {x y : D} (ha : a ρ m = .ok x m1) (hb : b ρ m1 = .ok y m2) : argC a (argC b argN) ρ m = .ok [x, y] m2 := argC_ok ha (arg1_ok hb)
theorem arg3_ok {a b c : SE} {ρ : Ev} {m m1 m2 m3 : Mem} {x y z : D} (ha : a ρ m = .ok x m1) (hb : b ρ m1 = .ok y m2) (hc : c ρ m2 = .ok z m3) : argC a (argC b (argC c argN)) ρ m = .ok [x, y, z] m3 := argC_ok ha (arg2_ok hb hc)
theorem opN_ok {g : ON} {a : SA} {ρ : Ev} {m m1 : Mem} {xs : List D} {d : D} (ha : a ρ m = .ok xs m1) (hg : g xs m1 = some d) : opN g a ρ m = .ok d m1 := by
  unfold opN
  rw [bind_ok ha, hg]
  rfl
theorem callN_ok {np : Nat} {f : Fn} {a : SA} {ρ : Ev} {m m1 : Mem} {xs : List D} (ha : a ρ m = .ok xs m1) (hl : xs.length = np) : callN np f a ρ m = f xs m1 := by
  unfold callN
  rw [bind_ok ha]
  exact if_pos hl
theorem tpl_ok {a : SA} {ρ : Ev} {m m1 : Mem} {xs : List D} (ha : a ρ m = .ok xs m1) (hl : xs.length ≤ 1000) : tpl a ρ m = .ok (.tup xs) m1 := by
  unfold tpl capE
  rw [bind_ok ha]
  simp only [hl, if_true]
  rfl
theorem lsl_ok {a : SA} {ρ : Ev} {m m1 : Mem} {xs : List D} (ha : a ρ m = .ok xs m1) (hl : xs.length ≤ 1000) : lsl a ρ m = .ok (.lst xs) m1 := by
  unfold lsl capE
  rw [bind_ok ha]
  simp only [hl, if_true]
  rfl
theorem lsm_ok {a : SA} {ρ : Ev} {m m1 : Mem} {xs : List D} (ha : a ρ m = .ok xs m1) (hl : xs.length ≤ 1000) : lsm a ρ m = .ok (.loc m1.n) (m1.new (.lst xs)) := by
  unfold lsm capE
  rw [bind_ok ha]
  simp only [hl, if_true]
  rfl
theorem tV_ok {a : SE} {ρ : Ev} {m m1 : Mem} {b : Bool} (h : a ρ m = .ok (.bl b) m1) : tV a ρ m = .ok b m1 := by
  unfold tV
  rw [bind_ok h]
  rfl
theorem tAnd_ok {a b : SB} {ρ : Ev} {m m1 m2 : Mem} {x y : Bool} (ha : a ρ m = .ok x m1) (hb : x = true → b ρ m1 = .ok y m2) (h2 : x = false → m2 = m1) : tAnd a b ρ m = .ok (x && y) m2 := by
  unfold tAnd
  rw [bind_ok ha]
  cases x with
  | true => exact hb rfl
  | false =>
    cases h2 rfl
    rfl
theorem tAnd_ok1 {a b : SB} {ρ : Ev} {m : Mem} {x y : Bool} (ha : a ρ m = .ok x m) (hb : x = true → b ρ m = .ok y m) : tAnd a b ρ m = .ok (x && y) m := tAnd_ok ha hb fun _ => rfl
theorem tOr_ok1 {a b : SB} {ρ : Ev} {m : Mem} {x y : Bool} (ha : a ρ m = .ok x m) (hb : x = false → b ρ m = .ok y m) : tOr a b ρ m = .ok (x || y) m := by
  unfold tOr
  rw [bind_ok ha]
  cases x with
  | false => exact hb rfl
  | true => rfl
theorem tNot_ok {a : SB} {ρ : Ev} {m m1 : Mem} {x : Bool} (ha : a ρ m = .ok x m1) : LB.tNot a ρ m = .ok (!x) m1 := by
  unfold LB.tNot
  rw [bind_ok ha]
  rfl
theorem ifE_ok {t : SB} {a b : SE} {ρ : Ev} {m m1 : Mem} {c : Bool} (h : t ρ m = .ok c m1) : ifE t a b ρ m = (if c = true then a ρ else b ρ) m1 := bind_ok h
theorem lstOf_new (m : Mem) (L : List D) : lstOf (m.new (.lst L)) (.loc m.n) = some L := by
  show (if m.n < m.n + 1 then (match (m.new (.lst L)).get m.n with
    | some (.lst xs) => some xs
    | _ => none) else none) = some L
  rw [if_pos (Nat.lt_succ_self _), Mem.new_at]
/-- xs.append(e), where the list is the newest cell -/
theorem app_new {l e : SE} {ρ : Ev} {m : Mem} {L : List D} {d : D} (hl : l ρ (m.new (.lst L)) = .ok (.loc m.n) (m.new (.lst L))) (he : e ρ (m.new (.lst L)) = .ok d (m.new (.lst L))) (hL : L.length < sizeLine) : appE l e ρ (m.new (.lst L)) = .ok .non (m.new (.lst (L ++ [d]))) := by
  unfold appE
  rw [bind_ok hl]
  have h1 : chkL (.loc m.n) (m.new (.lst L)) = .ok () (m.new (.lst L)) := by
    unfold chkL
    rw [lstOf_new]
    rfl
  rw [bind_ok h1, bind_ok he]
  have h2 : updL (.loc m.n) (fun xs => if xs.length < sizeLine then some (xs ++ [d]) else none) (m.new (.lst L)) = .ok () (m.new (.lst (L ++ [d]))) := by
    show (if m.n < m.n + 1 then (match (m.new (.lst L)).get m.n with
      | some (.lst xs) => match (if xs.length < sizeLine then some (xs ++ [d]) else none) with
        | some ys => (Rs.ok () ((m.new (.lst L)).put m.n (.lst ys)) : Rs Unit)
        | none => Rs.bad
      | _ => Rs.bad) else Rs.bad) = _
    rw [if_pos (Nat.lt_succ_self _), Mem.new_at]
    simp only [hL, if_true]
    rw [Mem.put_new]
  rw [bind_ok h2]
  rfl
theorem app_if {c : SB} {l e : SE} {ρ : Ev} {m : Mem} {L : List D} {b : Bool} {d : D} (hc : c ρ (m.new (.lst L)) = .ok b (m.new (.lst L))) (hl : l ρ (m.new (.lst L)) = .ok (.loc m.n) (m.new (.lst L))) (he : b = true → e ρ (m.new (.lst L)) = .ok d (m.new (.lst L))) (hL : L.length < sizeLine) :
    sIf c (sExp (appE l e)) sNext ρ (m.new (.lst L)) = .ok (.nx, ρ) (m.new (.lst (L ++ if b = true then [d] else []))) := by
  rw [if_ok hc]
  cases b with
  | true =>
    simp only [if_true]
    unfold sExp
    rw [bind_ok (app_new hl (he rfl) hL)]
    rfl
  | false =>
    simp only [Bool.false_eq_true, if_false, List.append_nil]
    rfl
/-! ### loops -/
/-- what a run tells, kept from being reckoned out -/
structure WP {α : Type} (r : Rs α) (q : α → Mem → Prop) (e : Er → Mem → Prop) : Prop where
  h : r.wp q e
theorem WP.ok {α : Type} {x : α} {m : Mem} {q : α → Mem → Prop} {e : Er → Mem → Prop} (h : q x m) : WP (.ok x m) q e := ⟨h⟩
theorem WP.mono {α : Type} {r : Rs α} {q q' : α → Mem → Prop} {e : Er → Mem → Prop} (h : WP r q e) (hq : ∀ x m, q x m → q' x m) : WP r q' e := ⟨Rs.wp_mono h.h hq fun _ _ z => z⟩
def afterB (I : Ev → Mem → Prop) (q : Fl × Ev → Mem → Prop) : Fl × Ev → Mem → Prop := fun r m => match r with
  | (.nx, ρ) => I ρ m
  | (.ct, ρ) => I ρ m
  | (.bk, ρ) => q (.nx, ρ) m
  | (.rt d, ρ) => q (.rt d, ρ) m
theorem WP.bind {α β : Type} {a : M α} {f : α → M β} {m : Mem} {q : β → Mem → Prop} {e : Er → Mem → Prop} (h : WP (a m) (fun x m1 => WP (f x m1) q e) e) : WP (M.bind a f m) q e := by
  obtain ⟨h⟩ := h
  refine ⟨?_⟩
  unfold M.bind
  cases ha : a m with
  | bad => rw [ha] at h; exact h
  | ok x m1 => rw [ha] at h; exact h.h
  | ex x m1 => rw [ha] at h; exact h
theorem forG_wp {w : Wk} {g : SG} {body : SS} {xs : List D} {I : Nat → Ev → Mem → Prop} {q : Fl × Ev → Mem → Prop} {e : Er → Mem → Prop} (hw : ∀ i ρ m, I i ρ m → w i m = some (xs[i]?))
    (hs : ∀ i x ρ m, xs[i]? = some x → I i ρ m → ∃ ρ1, g x ρ = some ρ1 ∧ WP (body ρ1 m) (afterB (I (i + 1)) q) e) (hq : ∀ ρ m, I xs.length ρ m → q (.nx, ρ) m) : ∀ fuel i ρ m, xs.length ≤ fuel + i → i ≤ xs.length → I i ρ m → WP (forG w g body fuel i ρ m) q e := by
  intro fuel
  induction fuel with
  | zero =>
    intro i ρ m h1 h2 h
    have hi : i = xs.length := by omega
    unfold forG
    rw [hw i ρ m h, hi, List.getElem?_eq_none (Nat.le_refl _)]
    exact .ok (hq ρ m (hi ▸ h))
  | succ fuel ih =>
    intro i ρ m h1 h2 h
    unfold forG
    rw [hw i ρ m h]
    by_cases hi : i = xs.length
    · rw [hi, List.getElem?_eq_none (Nat.le_refl _)]
      exact .ok (hq ρ m (hi ▸ h))
    · have hlt : i < xs.length := by omega
      obtain ⟨ρ1, hg, hb⟩ := hs i (xs[i]) ρ m (List.getElem?_eq_getElem hlt) h
      rw [List.getElem?_eq_getElem hlt]
      simp only [hg]
      refine .bind (hb.mono fun r m1 z => ?_)
      obtain ⟨fl, ρ2⟩ := r
      cases fl with
      | nx => exact ih (i + 1) ρ2 m1 (by omega) (by omega) z
      | ct => exact ih (i + 1) ρ2 m1 (by omega) (by omega) z
      | bk => exact .ok z
      | rt d => exact .ok z
theorem wkRng_eq (lo : Int) (n : Nat) (i : Nat) (m : Mem) : wkRng lo n i m = some (((List.range n).map fun j => D.int (lo + (j : Nat)))[i]?) := by
  unfold wkRng
  congr 1
  rw [List.getElem?_map]
  by_cases h : i < n
  · rw [if_pos h, List.getElem?_range h]
    rfl
  · rw [if_neg h, List.getElem?_eq_none (by rw [List.length_range]; omega)]
    rfl
/-- for i in range(n) -/
theorem for_rng {it : SI} {g : SG} {body : SS} {ρ : Ev} {m m0 : Mem} {lo : Int} {n : Nat} {I : Nat → Ev → Mem → Prop} {q : Fl × Ev → Mem → Prop} {e : Er → Mem → Prop} (hit : it ρ m0 = .ok (wkRng lo n, n) m) (h0 : I 0 ρ m)
    (hs : ∀ i ρ m, i < n → I i ρ m → ∃ ρ1, g (.int (lo + (i : Nat))) ρ = some ρ1 ∧ WP (body ρ1 m) (afterB (I (i + 1)) q) e) (hq : ∀ ρ m, I n ρ m → q (.nx, ρ) m) : WP (sFor it g body ρ m0) q e := by
  unfold sFor
  rw [bind_ok hit]
  refine forG_wp (xs := (List.range n).map fun j => D.int (lo + (j : Nat))) (I := I) (fun i ρ m _ => wkRng_eq lo n i m) (fun i x ρ m hx hI => ?_) (fun ρ m h => hq ρ m (by rw [List.length_map, List.length_range] at h; exact h)) n 0 ρ m (by rw [List.length_map, List.length_range]; omega) (Nat.zero_le _) h0
  rw [List.getElem?_map] at hx
  by_cases h : i < n
  · rw [List.getElem?_range h] at hx
    cases hx
    exact hs i ρ m h hI
  · rw [List.getElem?_eq_none (by rw [List.length_range]; omega)] at hx
    cases hx
/-- for x in xs, a thing that stays -/
theorem for_seq {it : SI} {g : SG} {body : SS} {ρ : Ev} {m m0 : Mem} {w : Wk} {xs : List D} {I : Nat → Ev → Mem → Prop} {q : Fl × Ev → Mem → Prop} {e : Er → Mem → Prop} (hit : it ρ m0 = .ok (w, xs.length) m) (hw : ∀ i ρ m, I i ρ m → w i m = some (xs[i]?)) (h0 : I 0 ρ m)
    (hs : ∀ i x ρ m, xs[i]? = some x → I i ρ m → ∃ ρ1, g x ρ = some ρ1 ∧ WP (body ρ1 m) (afterB (I (i + 1)) q) e) (hq : ∀ ρ m, I xs.length ρ m → q (.nx, ρ) m) : WP (sFor it g body ρ m0) q e := by
  unfold sFor
  rw [bind_ok hit]
  exact forG_wp hw hs hq _ 0 ρ m (Nat.le_refl _) (Nat.zero_le _) h0
theorem ok_of_wp {α : Type} {r : Rs α} {x : α} {m : Mem} (h : WP r (fun d m1 => d = x ∧ m1 = m) fun _ _ => False) : r = .ok x m := by
  obtain ⟨h⟩ := h
  cases r with
  | bad => exact h.elim
  | ok d m1 =>
    obtain ⟨rfl, rfl⟩ := h
    rfl
  | ex _ _ => exact h.elim
theorem WP.eq {α : Type} {r : Rs α} {x : α} {m : Mem} {q : α → Mem → Prop} {e : Er → Mem → Prop} (h : r = .ok x m) (hq : q x m) : WP r q e := by
  rw [h]
  exact .ok hq
theorem WP.any {α : Type} {r : Rs α} {q q' : α → Mem → Prop} {e : Er → Mem → Prop} (h : WP r q fun _ _ => False) (hq : ∀ x m, q x m → q' x m) : WP r q' e := ⟨Rs.wp_mono h.h hq fun _ _ z => z.elim⟩
theorem WP.out {α : Type} {r : Rs α} {q : α → Mem → Prop} (h : WP r q fun _ _ => False) : ∃ x m, r = .ok x m ∧ q x m := by
  obtain ⟨h⟩ := h
  cases r with
  | bad => exact h.elim
  | ok d m1 => exact ⟨d, m1, rfl, h⟩
  | ex _ _ => exact h.elim
def seqQ (b : SS) (q : Fl × Ev → Mem → Prop) (e : Er → Mem → Prop) : Fl × Ev → Mem → Prop := fun r m => match r with
  | (.nx, ρ) => WP (b ρ m) q e
  | r => q r m
theorem seq_wp {a b : SS} {ρ : Ev} {m : Mem} {q : Fl × Ev → Mem → Prop} {e : Er → Mem → Prop} (h : WP (a ρ m) (seqQ b q e) e) : WP (sSeq a b ρ m) q e := by
  unfold sSeq
  refine .bind (h.mono fun r m1 z => ?_)
  obtain ⟨fl, ρ1⟩ := r
  cases fl with
  | nx => exact z
  | bk => exact .ok z
  | ct => exact .ok z
  | rt d => exact .ok z
def runQ (q : D → Mem → Prop) : Fl × Ev → Mem → Prop := fun r m => match r with
  | (.rt d, _) => q d m
  | (.nx, _) => q .non m
  | _ => False
theorem run_wp {n : Nat} {f : SS} {ds : List D} {m : Mem} {q : D → Mem → Prop} {e : Er → Mem → Prop} (h : WP (f (start n ds) m) (runQ q) e) : WP (run n f ds m) q e := by
  unfold run
  refine .bind (h.mono fun r m1 z => ?_)
  obtain ⟨fl, ρ1⟩ := r
  cases fl with
  | nx => exact .ok z
  | rt d => exact .ok z
  | bk => exact z.elim
  | ct => exact z.elim
theorem seq_then {a b : SS} {ρ ρ1 : Ev} {m m1 : Mem} {q : Fl × Ev → Mem → Prop} {e : Er → Mem → Prop} (h : a ρ m = .ok (.nx, ρ1) m1) (hb : WP (b ρ1 m1) q e) : WP (sSeq a b ρ m) q e := by
  rw [seq_ok h]
  exact hb
/-! ### comprehensions -/
theorem noex_ok {α : Type} {a : M α} {m m1 : Mem} {x : α} (h : a m = .ok x m1) : noex a m = .ok x m1 := by
  unfold noex
  rw [h]
/-- one that changes nothing -/
theorem compG_pure {w : Wk} {g : SG} {t : SB} {e : SE} {ρ0 : Ev} {m : Mem} {xs : List D} (p : D → Bool) (f : D → D) (hw : ∀ i, i ≤ xs.length → w i m = some (xs[i]?))
    (hs : ∀ x, x ∈ xs → ∃ ρ1, g x ρ0 = some ρ1 ∧ t ρ1 m = .ok (p x) m ∧ (p x = true → e ρ1 m = .ok (f x) m)) : ∀ fuel i acc, xs.length ≤ fuel + i → i ≤ xs.length → acc.length + xs.length ≤ sizeLine + i → compG w g t e ρ0 fuel i acc m = .ok (acc ++ ((xs.drop i).filter p).map f) m := by
  intro fuel
  induction fuel with
  | zero =>
    intro i acc h1 h2 _
    have hi : i = xs.length := by omega
    unfold compG
    rw [hw i h2, hi, List.getElem?_eq_none (Nat.le_refl _), List.drop_length]
    simp
  | succ fuel ih =>
    intro i acc h1 h2 h3
    unfold compG
    rw [hw i h2]
    by_cases hi : i = xs.length
    · rw [hi, List.getElem?_eq_none (Nat.le_refl _), List.drop_length]
      simp
    · have hlt : i < xs.length := by omega
      obtain ⟨ρ1, hg, ht, he⟩ := hs (xs[i]) (List.getElem_mem hlt)
      rw [List.getElem?_eq_getElem hlt, List.drop_eq_getElem_cons hlt]
      simp only [hg]
      rw [bind_ok (noex_ok ht)]
      cases hp : p xs[i] with
      | true =>
        simp only [if_true]
        have hc : acc.length < sizeLine := by omega
        rw [bind_ok (noex_ok (he hp))]
        simp only [hc, if_true]
        rw [ih (i + 1) _ (by omega) (by omega) (by rw [List.length_append, List.length_singleton]; omega), List.filter_cons_of_pos hp]
        simp
      | false =>
        simp only [Bool.false_eq_true, if_false]
        rw [ih (i + 1) _ (by omega) (by omega) (by omega), List.filter_cons_of_neg (by rw [hp]; exact Bool.false_ne_true)]
theorem comp_pure {it : SI} {g : SG} {t : SB} {e : SE} {own : List Nat} {ρ : Ev} {m : Mem} {w : Wk} {xs : List D} (p : D → Bool) (f : D → D) (hit : it ρ m = .ok (w, xs.length) m) (hw : ∀ i, i ≤ xs.length → w i m = some (xs[i]?))
    (hs : ∀ x, x ∈ xs → ∃ ρ1, g x (wipeE ρ own) = some ρ1 ∧ t ρ1 m = .ok (p x) m ∧ (p x = true → e ρ1 m = .ok (f x) m)) (hl : xs.length ≤ sizeLine) : comp it g t e own ρ m = .ok (.lst ((xs.filter p).map f)) m := by
  unfold comp compL
  have h1 : (M.bind (it ρ) fun w => compG w.1 g t e (wipeE ρ own) w.2 0 []) m = .ok ((xs.filter p).map f) m := by
    rw [bind_ok hit]
    have z := compG_pure p f hw hs xs.length 0 [] (Nat.le_refl _) (Nat.zero_le _) (by simpa using hl)
    rw [z]
    rfl
  rw [bind_ok h1]
  rfl
/-- one whose items are drawn -/
theorem compG_wp {w : Wk} {g : SG} {e : SE} {ρ0 : Ev} {xs : List D} {I : Nat → List D → Mem → Prop} (hw : ∀ i acc m, I i acc m → w i m = some (xs[i]?))
    (hs : ∀ i x acc m, xs[i]? = some x → I i acc m → ∃ ρ1, g x ρ0 = some ρ1 ∧ WP (e ρ1 m) (fun y m1 => acc.length < sizeLine ∧ I (i + 1) (acc ++ [y]) m1) fun _ _ => False) {E : Er → Mem → Prop} : ∀ fuel i acc m, xs.length ≤ fuel + i → i ≤ xs.length → I i acc m → WP (compG w g LB.tYes e ρ0 fuel i acc m) (I xs.length) E := by
  intro fuel
  induction fuel with
  | zero =>
    intro i acc m h1 h2 h
    have hi : i = xs.length := by omega
    unfold compG
    rw [hw i acc m h, hi, List.getElem?_eq_none (Nat.le_refl _)]
    exact .ok (hi ▸ h)
  | succ fuel ih =>
    intro i acc m h1 h2 h
    unfold compG
    rw [hw i acc m h]
    by_cases hi : i = xs.length
    · rw [hi, List.getElem?_eq_none (Nat.le_refl _)]
      exact .ok (hi ▸ h)
    · have hlt : i < xs.length := by omega
      obtain ⟨ρ1, hg, he⟩ := hs i (xs[i]) acc m (List.getElem?_eq_getElem hlt) h
      rw [List.getElem?_eq_getElem hlt]
      simp only [hg]
      have ht : LB.tYes ρ1 m = .ok true m := rfl
      rw [bind_ok (noex_ok ht)]
      simp only [if_true]
      obtain ⟨y, m1, hr, hc, hI⟩ := he.out
      rw [bind_ok (noex_ok hr), if_pos hc]
      exact ih (i + 1) _ m1 (by omega) (by omega) hI
theorem compL_wp {it : SI} {g : SG} {e : SE} {own : List Nat} {ρ : Ev} {m m0 : Mem} {w : Wk} {xs : List D} {I : Nat → List D → Mem → Prop} {E : Er → Mem → Prop} (hit : it ρ m0 = .ok (w, xs.length) m) (hw : ∀ i acc m, I i acc m → w i m = some (xs[i]?)) (h0 : I 0 [] m)
    (hs : ∀ i x acc m, xs[i]? = some x → I i acc m → ∃ ρ1, g x (wipeE ρ own) = some ρ1 ∧ WP (e ρ1 m) (fun y m1 => acc.length < sizeLine ∧ I (i + 1) (acc ++ [y]) m1) fun _ _ => False) : WP (compL it g LB.tYes e own ρ m0) (I xs.length) E := by
  unfold compL
  rw [bind_ok hit]
  exact compG_wp hw hs _ 0 [] m (Nat.le_refl _) (Nat.zero_le _) h0
theorem dctOf_new (m : Mem) (kvs : List (KeyS × D)) : dctOf (m.new (.dct kvs)) (.loc m.n) = some kvs := by
  show (if m.n < m.n + 1 then (match (m.new (.dct kvs)).get m.n with
    | some (.dct kvs) => some kvs
    | _ => none) else none) = some kvs
  rw [if_pos (Nat.lt_succ_self _), Mem.new_at]
theorem dsp_ok {ps : List (SE × SE)} {ρ : Ev} {m m1 : Mem} {xs : List (D × D)} {kvs : List (KeyS × D)} (hp : prE ps ρ m = .ok xs m1) (hk : keysOf xs = some kvs) (hl : kvs.length ≤ 15) : dspE ps ρ m = .ok (.loc m1.n) (m1.new (.dct (mergeD [] kvs))) := by
  unfold dspE
  rw [bind_ok hp]
  unfold dspK
  rw [hk]
  exact if_pos hl
theorem dget2_dsp {ps : List (SE × SE)} {k x : SE} {ρ : Ev} {m m1 : Mem} {xs : List (D × D)} {kvs : List (KeyS × D)} {kd xd : D} {key : KeyS} (hp : prE ps ρ m = .ok xs m1) (hk : keysOf xs = some kvs) (hl : kvs.length ≤ 15) (hkk : k ρ (m1.new (.dct (mergeD [] kvs))) = .ok kd (m1.new (.dct (mergeD [] kvs)))) (hkey : keyOf kd = some key)
    (hx : x ρ (m1.new (.dct (mergeD [] kvs))) = .ok xd (m1.new (.dct (mergeD [] kvs)))) : dget2 (dspE ps) k x ρ m = .ok ((valK (mergeD [] kvs) key).getD xd) (m1.new (.dct (mergeD [] kvs))) := by
  unfold dget2
  rw [bind_ok (dsp_ok hp hk hl)]
  have h1 : (fun m => if isDct m (.loc m1.n) = true then Rs.ok () m else .bad) (m1.new (.dct (mergeD [] kvs))) = .ok () (m1.new (.dct (mergeD [] kvs))) := by
    refine if_pos ?_
    unfold isDct
    rw [dctOf_new]
    rfl
  rw [bind_ok h1, bind_ok hkk, bind_ok hx, dctOf_new, hkey]
  rfl
theorem par_ok {i j : Nat} {a b : SE} {ρ : Ev} {m m1 m2 : Mem} {x y : D} (ha : a ρ m = .ok x m1) (hb : b ρ m1 = .ok y m2) : sPar i j a b ρ m = .ok (.nx, (ρ.set i (some x)).set j (some y)) m2 := by
  unfold sPar
  rw [bind_ok ha, bind_ok hb]
  rfl
theorem gIx_tup {xs : List D} {i : Nat} {d : D} (h : xs[i]? = some d) (m : Mem) : gIx (.tup xs) (.int i) m = some d := by
  have hi : i < xs.length := by
    by_cases c : i < xs.length
    · exact c
    · rw [List.getElem?_eq_none (by omega)] at h
      cases h
  show (ixD xs.length (i : Int)).bind (fun j => xs[j]?) = some d
  unfold ixD
  rw [if_pos (Int.natCast_nonneg i), if_pos (by omega)]
  exact h
theorem len_tup {a : SE} {ρ : Ev} {m m1 : Mem} {xs : List D} (ha : a ρ m = .ok (.tup xs) m1) : opN gLen (argC a argN) ρ m = .ok (.int xs.length) m1 := opN_ok (arg1_ok ha) rfl
theorem small62_nat {n : Nat} (h : n < 4611686018427387904) : small62 n = true := by
  unfold small62
  rw [decide_eq_true (by omega), decide_eq_true (by omega)]
  rfl
theorem flatMap_le {α : Type} (f : Nat → List α) (c : Nat) (h : ∀ a, (f a).length ≤ c) : ∀ n : Nat, ((List.range n).flatMap f).length ≤ n * c
  | 0 => by simp
  | n + 1 => by
    rw [List.range_succ, List.flatMap_append, List.length_append]
    have h1 := flatMap_le f c h n
    have h2 := h n
    simp only [List.flatMap_cons, List.flatMap_nil, List.append_nil]
    rw [Nat.succ_mul]
    omega
theorem flatMap_succ {α : Type} (f : Nat → List α) (n : Nat) : (List.range (n + 1)).flatMap f = (List.range n).flatMap f ++ f n := by
  rw [List.range_succ, List.flatMap_append]
  simp
theorem exp_ok {a : SE} {ρ : Ev} {m m1 : Mem} {d : D} (h : a ρ m = .ok d m1) : sExp a ρ m = .ok (.nx, ρ) m1 := bind_ok h
theorem chn_ok {g g' : O2} {a b c : SE} {ρ : Ev} {m m1 m2 m3 : Mem} {x y z : D} {k : Bool} {d : D} (ha : a ρ m = .ok x m1) (hb : b ρ m1 = .ok y m2) (hg : g x y m2 = some (.bl k)) (hc : k = true → c ρ m2 = .ok z m3 ∧ g' y z m3 = some d) (hd : k = false → d = .bl false ∧ m3 = m2) : chn g g' a b c ρ m = .ok d m3 := by
  unfold chn
  rw [bind_ok ha, bind_ok hb]
  have h1 : (fun m => lift (g x y m) m) m2 = .ok (.bl k) m2 := by
    show lift (g x y m2) m2 = _
    rw [hg]
    rfl
  rw [bind_ok (a := fun m => lift (g x y m) m) h1]
  have h2 : asB (.bl k) m2 = .ok k m2 := rfl
  rw [bind_ok h2]
  cases k with
  | true =>
    obtain ⟨e1, e2⟩ := hc rfl
    simp only [if_true]
    rw [bind_ok e1, e2]
    rfl
  | false =>
    obtain ⟨e1, e2⟩ := hd rfl
    subst e1 e2
    rfl
theorem slc_ok {a : SE} {lo hi : SO} {ρ : Ev} {m m1 m2 m3 : Mem} {x d : D} {l h : Option Int} (ha : a ρ m = .ok x m1) (hl : lo ρ m1 = .ok l m2) (hh : hi ρ m2 = .ok h m3) (hg : gSl x l h m3 = some d) : slc a lo hi ρ m = .ok d m3 := by
  unfold slc
  rw [bind_ok ha, bind_ok hl, bind_ok hh, hg]
  rfl
theorem cut_front {α : Type} (xs : List α) : cutD xs none (some (-1)) = xs.take (xs.length - 1) := by
  show (xs.drop 0).take ((-1 + (xs.length : Int)).toNat - 0) = _
  rw [List.drop_zero]
  congr 1
  omega
theorem cut_behind {α : Type} (xs : List α) (k : Nat) (h : k ≤ xs.length) : cutD xs (some (k : Int)) none = xs.drop k := by
  unfold cutD sIxD
  simp only
  rw [if_neg (by omega)]
  have e : min ((k : Int)).toNat xs.length = k := by omega
  rw [e]
  exact List.take_of_length_le (by rw [List.length_drop]; omega)
theorem it1_ok {a : SA} {ρ : Ev} {m m1 : Mem} {hi : Int} (h : a ρ m = .ok [.int hi] m1) (hb : small62 hi = true) : itRng1 a ρ m = .ok (wkRng 0 hi.toNat, hi.toNat) m1 := by
  unfold itRng1
  rw [bind_ok h]
  simp only [hb, if_true]
theorem it2_ok {a : SA} {ρ : Ev} {m m1 : Mem} {lo hi : Int} (h : a ρ m = .ok [.int lo, .int hi] m1) (hb : small62 lo = true) (hc : small62 hi = true) : itRng2 a ρ m = .ok (wkRng lo (hi - lo).toNat, (hi - lo).toNat) m1 := by
  unfold itRng2
  rw [bind_ok h]
  simp only [hb, hc, if_true, and_self]
theorem wkSeq_const {m : Mem} {d : D} {xs : List D} (h : sqOf m d = some xs) (i : Nat) : wkSeq d i m = some (xs[i]?) := by
  unfold wkSeq
  rw [h]
  rfl
theorem itZp_ok {a b : SE} {ρ : Ev} {m m1 m2 : Mem} {d e : D} {xs ys : List D} (ha : a ρ m = .ok d m1) (hb : b ρ m1 = .ok e m2) (hx : wlkOf m2 d = some xs) (hy : wlkOf m2 e = some ys) : itZp a b ρ m = .ok (wkZp d e, (List.zipWith (fun x y => D.tup [x, y]) xs ys).length) m2 := by
  unfold itZp
  rw [bind_ok ha, bind_ok hb]
  simp only [hx, hy, List.length_zipWith]
theorem wkZp_eq {m : Mem} {d e : D} {xs ys : List D} (hx : wlkOf m d = some xs) (hy : wlkOf m e = some ys) (i : Nat) (hi : i ≤ (List.zipWith (fun x y => D.tup [x, y]) xs ys).length) : wkZp d e i m = some ((List.zipWith (fun x y => D.tup [x, y]) xs ys)[i]?) := by
  unfold wkZp
  rw [hx, hy]
  show upTo (min xs.length ys.length) i ((xs[i]?).bind fun x => (ys[i]?).map fun y => .tup [x, y]) = _
  rw [List.length_zipWith] at hi
  unfold upTo
  by_cases h : i < min xs.length ys.length
  · rw [if_pos h]
    have h1 : i < xs.length := by omega
    have h2 : i < ys.length := by omega
    rw [List.getElem?_zipWith, List.getElem?_eq_getElem h1, List.getElem?_eq_getElem h2]
    rfl
  · have h2 : i = min xs.length ys.length := by omega
    rw [if_neg h, if_pos h2, List.getElem?_eq_none (by rw [List.length_zipWith]; omega)]
/-! ### ints side by side -/
theorem flat_ints (xs : List Int) : (xs.map D.int).all D.isFlat = true := by
  induction xs with
  | nil => rfl
  | cons i r ih => exact ih
theorem inD_ints (g : Int) (xs : List Int) : inD (.int g) (xs.map D.int) = xs.contains g := by
  unfold inD
  rw [List.any_map]
  induction xs with
  | nil => rfl
  | cons i r ih =>
    rw [List.any_cons, List.contains_cons, ih]
    congr 1
    show (i == g) = (g == i)
    exact Bool.eq_iff_iff.mpr (by rw [beq_iff_eq, beq_iff_eq]; exact ⟨Eq.symm, Eq.symm⟩)
theorem inOf_ints (g : Int) (xs : List Int) : inOf (.int g) (xs.map D.int) = some (xs.contains g) := by
  unfold inOf
  rw [if_pos ⟨rfl, flat_ints xs⟩, inD_ints]
theorem plains_ints (xs : List Int) : plains (xs.map D.int) = true := by
  induction xs with
  | nil => rfl
  | cons i r ih => exact ih
theorem deps_ints (xs : List Int) : deps (xs.map D.int) = 0 := by
  induction xs with
  | nil => rfl
  | cons i r ih =>
    show max 0 (deps (r.map D.int)) = 0
    rw [ih]
    rfl
theorem intsOf_map (xs : List Int) : intsOf (xs.map D.int) = some xs := by
  induction xs with
  | nil => rfl
  | cons i r ih =>
    show (intsOf (r.map D.int)).map (i :: ·) = _
    rw [ih]
    rfl
theorem blws_ints (n : Nat) (xs : List Int) : blws n (xs.map D.int) = true := by
  induction xs with
  | nil => rfl
  | cons i r ih => exact ih
/-- a list of ints against [] -/
theorem eqDeep_nil {m : Mem} {d : D} {xs : List Int} (h : lstOf m d = some (xs.map D.int)) : eqDeep m d (.lst []) = some xs.isEmpty := by
  have e1 : res m d = .lst (xs.map D.int) := by
    unfold res
    rw [h]
  have e2 : res m (.lst []) = .lst [] := rfl
  unfold eqDeep
  rw [e1, e2]
  have p : (D.lst (xs.map D.int)).plain = true := plains_ints xs
  have q : (D.lst (xs.map D.int)).dep ≤ 60 := by
    show deps (xs.map D.int) + 1 ≤ 60
    rw [deps_ints]
    decide
  rw [if_pos ⟨p, rfl, q, by decide⟩]
  cases xs <;> rfl
theorem eqOf_nil {m : Mem} {d : D} {xs : List Int} (h : lstOf m d = some (xs.map D.int)) : eqOf m d (.lst []) = some xs.isEmpty := by
  cases d <;> first
    | (cases h; done)
    | exact eqDeep_nil h
theorem eq_nils (m : Mem) : eqOf m (.lst []) (.lst []) = some true := eqOf_nil (xs := []) rfl
theorem itSeq_ok {a : SE} {ρ : Ev} {m m1 : Mem} {d : D} {xs : List D} (h : a ρ m = .ok d m1) (hs : sqOf m1 d = some xs) : itSeq a ρ m = .ok (wkSeq d, xs.length) m1 := by
  unfold itSeq
  rw [bind_ok h]
  simp only [hs]
end LB

set_option Elab.async false
set_option linter.all false
set_option autoImplicit false
set_option maxRecDepth 100000
set_option maxHeartbeats 1000000
/-! Pure: a run reckoned step by step, by rewriting at the head. -/
namespace LB
open PySem
section
variable {α β γ : Type}
def K (a : M α) (m : Mem) (k : α → Mem → Rs β) : Rs β := match a m with
  | .bad => .bad
  | .ok x m1 => k x m1
  | .ex e m1 => .ex e m1
theorem K_start (a : M α) (m : Mem) : a m = K a m Rs.ok := by unfold K; cases a m <;> rfl
theorem K_ok {a : M α} {m m1 : Mem} {x : α} (h : a m = .ok x m1) (k : α → Mem → Rs β) : K a m k = k x m1 := by unfold K; rw [h]
theorem K_bad {a : M α} {m : Mem} (h : a m = .bad) (k : α → Mem → Rs β) : K a m k = .bad := by unfold K; rw [h]
theorem K_bind (a : M α) (f : α → M β) (m : Mem) (k : β → Mem → Rs γ) : K (M.bind a f) m k = K a m fun x m1 => K (f x) m1 k := by
  unfold K M.bind
  cases a m <;> rfl
/-- what may fail -/
def KO (o : Option α) (m : Mem) (k : α → Mem → Rs β) : Rs β := match o with
  | some d => k d m
  | none => .bad
theorem KO_some (d : α) (m : Mem) (k : α → Mem → Rs β) : KO (some d) m k = k d m := rfl
theorem KO_of {o : Option α} {d : α} (h : o = some d) (m : Mem) (k : α → Mem → Rs β) : KO o m k = k d m := by rw [h]; rfl
theorem K_lift (o : Option α) (m : Mem) (k : α → Mem → Rs β) : K (lift o) m k = KO o m k := by cases o <;> rfl
/-! names -/
def kVr (ρ : Ev) (i : Nat) (m : Mem) (k : D → Mem → Rs β) : Rs β := match ρ[i]? with
  | some (some d) => k d m
  | _ => .bad
theorem K_vr (i : Nat) (ρ : Ev) (m : Mem) (k : D → Mem → Rs β) : K (vr i ρ) m k = kVr ρ i m k := by
  unfold K vr kVr
  split <;> rename_i h <;> split at h <;> simp_all
theorem kVr_0 (d : D) (ρ : Ev) (m : Mem) (k : D → Mem → Rs β) : kVr (some d :: ρ) 0 m k = k d m := rfl
theorem kVr_s (x : Option D) (ρ : Ev) (i : Nat) (m : Mem) (k : D → Mem → Rs β) : kVr (x :: ρ) (i + 1) m k = kVr ρ i m k := by
  unfold kVr
  rw [List.getElem?_cons_succ]
theorem K_cn (d : D) (ρ : Ev) (m : Mem) (k : D → Mem → Rs β) : K (cn d ρ) m k = k d m := rfl
theorem K_pure (x : α) (m : Mem) (k : α → Mem → Rs β) : K (M.pure x) m k = k x m := rfl
/-! operations -/
def K2 (g : O2) (x y : D) (m : Mem) (k : D → Mem → Rs β) : Rs β := KO (g x y m) m k
def kOp2b (g : O2) (x : D) (k : D → Mem → Rs β) : D → Mem → Rs β := fun y m => K2 g x y m k
def kOp2a (g : O2) (b : SE) (ρ : Ev) (k : D → Mem → Rs β) : D → Mem → Rs β := fun x m => K (b ρ) m (kOp2b g x k)
theorem K_op2 (g : O2) (a b : SE) (ρ : Ev) (m : Mem) (k : D → Mem → Rs β) : K (op2 g a b ρ) m k = K (a ρ) m (kOp2a g b ρ k) := by
  unfold op2
  rw [K_bind]
  congr 1
  funext x m1
  rw [K_bind]
  unfold kOp2a
  congr 1
  funext y m2
  exact K_lift _ _ _
theorem kOp2a_at (g : O2) (b : SE) (ρ : Ev) (k : D → Mem → Rs β) (x : D) (m : Mem) : kOp2a g b ρ k x m = K (b ρ) m (kOp2b g x k) := rfl
theorem kOp2b_at (g : O2) (x : D) (k : D → Mem → Rs β) (y : D) (m : Mem) : kOp2b g x k y m = K2 g x y m k := rfl
def K1 (g : O1) (x : D) (m : Mem) (k : D → Mem → Rs β) : Rs β := KO (g x m) m k
def kOp1 (g : O1) (k : D → Mem → Rs β) : D → Mem → Rs β := fun x m => K1 g x m k
theorem K_op1 (g : O1) (a : SE) (ρ : Ev) (m : Mem) (k : D → Mem → Rs β) : K (op1 g a ρ) m k = K (a ρ) m (kOp1 g k) := by
  unfold op1
  rw [K_bind]
  congr 1
  funext x m1
  exact K_lift _ _ _
theorem kOp1_at (g : O1) (k : D → Mem → Rs β) (x : D) (m : Mem) : kOp1 g k x m = K1 g x m k := rfl
/-! arguments -/
def kArg1 (r : SA) (ρ : Ev) (k : List D → Mem → Rs β) : D → Mem → Rs β := fun x m => K (r ρ) m fun xs m1 => k (x :: xs) m1
def kArg2 (x : D) (k : List D → Mem → Rs β) : List D → Mem → Rs β := fun xs m => k (x :: xs) m
theorem K_argN (ρ : Ev) (m : Mem) (k : List D → Mem → Rs β) : K (argN ρ) m k = k [] m := rfl
theorem K_argC (a : SE) (r : SA) (ρ : Ev) (m : Mem) (k : List D → Mem → Rs β) : K (argC a r ρ) m k = K (a ρ) m (kArg1 r ρ k) := by
  unfold argC
  rw [K_bind]
  congr 1
  funext x m1
  rw [K_bind]
  rfl
theorem kArg1_at (r : SA) (ρ : Ev) (k : List D → Mem → Rs β) (x : D) (m : Mem) : kArg1 r ρ k x m = K (r ρ) m (kArg2 x k) := rfl
theorem kArg2_at (x : D) (k : List D → Mem → Rs β) (xs : List D) (m : Mem) : kArg2 x k xs m = k (x :: xs) m := rfl
def KN (g : ON) (xs : List D) (m : Mem) (k : D → Mem → Rs β) : Rs β := KO (g xs m) m k
def kOpN (g : ON) (k : D → Mem → Rs β) : List D → Mem → Rs β := fun xs m => KN g xs m k
theorem K_opN (g : ON) (a : SA) (ρ : Ev) (m : Mem) (k : D → Mem → Rs β) : K (opN g a ρ) m k = K (a ρ) m (kOpN g k) := by
  unfold opN
  rw [K_bind]
  congr 1
  funext x m1
  exact K_lift _ _ _
theorem kOpN_at (g : ON) (k : D → Mem → Rs β) (xs : List D) (m : Mem) : kOpN g k xs m = KN g xs m k := rfl
/-! calls: the arguments' count is looked at by rfl -/
def KF (f : Fn) (ds : List D) (m : Mem) (k : D → Mem → Rs β) : Rs β := K (f ds) m k
def kCall (np : Nat) (f : Fn) (k : D → Mem → Rs β) : List D → Mem → Rs β := fun ds m => if ds.length = np then KF f ds m k else .bad
theorem K_call (np : Nat) (f : Fn) (a : SA) (ρ : Ev) (m : Mem) (k : D → Mem → Rs β) : K (callN np f a ρ) m k = K (a ρ) m (kCall np f k) := by
  unfold callN
  rw [K_bind]
  congr 1
  funext x m1
  unfold kCall KF K
  by_cases h : x.length = np
  · simp only [h, if_true]
  · simp only [h, if_false]
theorem kCall_1 (f : Fn) (k : D → Mem → Rs β) (a : D) (m : Mem) : kCall 1 f k [a] m = KF f [a] m k := rfl
theorem kCall_2 (f : Fn) (k : D → Mem → Rs β) (a b : D) (m : Mem) : kCall 2 f k [a, b] m = KF f [a, b] m k := rfl
theorem kCall_3 (f : Fn) (k : D → Mem → Rs β) (a b c : D) (m : Mem) : kCall 3 f k [a, b, c] m = KF f [a, b, c] m k := rfl
theorem kCall_4 (f : Fn) (k : D → Mem → Rs β) (a b c d : D) (m : Mem) : kCall 4 f k [a, b, c, d] m = KF f [a, b, c, d] m k := rfl
theorem kCall_5 (f : Fn) (k : D → Mem → Rs β) (a b c d e : D) (m : Mem) : kCall 5 f k [a, b, c, d, e] m = KF f [a, b, c, d, e] m k := rfl
theorem KF_ok {f : Fn} {ds : List D} {m m1 : Mem} {d : D} (h : f ds m = .ok d m1) (k : D → Mem → Rs β) : KF f ds m k = k d m1 := K_ok h k
/-! displays -/
def kTpl (k : D → Mem → Rs β) : List D → Mem → Rs β := fun xs m => if xs.length ≤ 1000 then k (.tup xs) m else .bad
theorem K_tpl (a : SA) (ρ : Ev) (m : Mem) (k : D → Mem → Rs β) : K (tpl a ρ) m k = K (a ρ) m (kTpl k) := by
  unfold tpl capE
  rw [K_bind]
  congr 1
  funext x m1
  unfold kTpl K
  by_cases h : x.length ≤ 1000
  · simp only [h, if_true]; rfl
  · simp only [h, if_false]
def kLsl (k : D → Mem → Rs β) : List D → Mem → Rs β := fun xs m => if xs.length ≤ 1000 then k (.lst xs) m else .bad
theorem K_lsl (a : SA) (ρ : Ev) (m : Mem) (k : D → Mem → Rs β) : K (lsl a ρ) m k = K (a ρ) m (kLsl k) := by
  unfold lsl capE
  rw [K_bind]
  congr 1
  funext x m1
  unfold kLsl K
  by_cases h : x.length ≤ 1000
  · simp only [h, if_true]; rfl
  · simp only [h, if_false]
def kLsm (k : D → Mem → Rs β) : List D → Mem → Rs β := fun xs m => if xs.length ≤ 1000 then k (.loc m.n) (m.new (.lst xs)) else .bad
theorem K_lsm (a : SA) (ρ : Ev) (m : Mem) (k : D → Mem → Rs β) : K (lsm a ρ) m k = K (a ρ) m (kLsm k) := by
  unfold lsm capE
  rw [K_bind]
  congr 1
  funext x m1
  unfold kLsm K
  by_cases h : x.length ≤ 1000
  · simp only [h, if_true]; rfl
  · simp only [h, if_false]
theorem K_dctE (ρ : Ev) (m : Mem) (k : D → Mem → Rs β) : K (dctE ρ) m k = k (.loc m.n) (m.new (.dct [])) := rfl
/-- short displays: the count at once -/
theorem kTpl_at (k : D → Mem → Rs β) (xs : List D) (m : Mem) (h : (Nat.ble xs.length 1000) = true) : kTpl k xs m = k (.tup xs) m := if_pos (Nat.le_of_ble_eq_true h)
theorem kTpl_0 (k : D → Mem → Rs β) (m : Mem) : kTpl k [] m = k (.tup []) m := rfl
theorem kTpl_1 (k : D → Mem → Rs β) (a : D) (m : Mem) : kTpl k [a] m = k (.tup [a]) m := rfl
theorem kTpl_2 (k : D → Mem → Rs β) (a b : D) (m : Mem) : kTpl k [a, b] m = k (.tup [a, b]) m := rfl
theorem kTpl_3 (k : D → Mem → Rs β) (a b c : D) (m : Mem) : kTpl k [a, b, c] m = k (.tup [a, b, c]) m := rfl
theorem kTpl_4 (k : D → Mem → Rs β) (a b c d : D) (m : Mem) : kTpl k [a, b, c, d] m = k (.tup [a, b, c, d]) m := rfl
theorem kTpl_5 (k : D → Mem → Rs β) (a b c d e : D) (m : Mem) : kTpl k [a, b, c, d, e] m = k (.tup [a, b, c, d, e]) m := rfl
theorem kLsl_at (k : D → Mem → Rs β) (xs : List D) (m : Mem) (h : (Nat.ble xs.length 1000) = true) : kLsl k xs m = k (.lst xs) m := if_pos (Nat.le_of_ble_eq_true h)
theorem kLsl_0 (k : D → Mem → Rs β) (m : Mem) : kLsl k [] m = k (.lst []) m := rfl
theorem kLsl_1 (k : D → Mem → Rs β) (a : D) (m : Mem) : kLsl k [a] m = k (.lst [a]) m := rfl
theorem kLsl_2 (k : D → Mem → Rs β) (a b : D) (m : Mem) : kLsl k [a, b] m = k (.lst [a, b]) m := rfl
theorem kLsl_3 (k : D → Mem → Rs β) (a b c : D) (m : Mem) : kLsl k [a, b, c] m = k (.lst [a, b, c]) m := rfl
theorem kLsl_4 (k : D → Mem → Rs β) (a b c d : D) (m : Mem) : kLsl k [a, b, c, d] m = k (.lst [a, b, c, d]) m := rfl
theorem kLsm_0 (k : D → Mem → Rs β) (m : Mem) : kLsm k [] m = k (.loc m.n) (m.new (.lst [])) := rfl
theorem kLsm_at (k : D → Mem → Rs β) (xs : List D) (m : Mem) (h : (Nat.ble xs.length 1000) = true) : kLsm k xs m = k (.loc m.n) (m.new (.lst xs)) := if_pos (Nat.le_of_ble_eq_true h)
/-! tests -/
def kTV (k : Bool → Mem → Rs β) : D → Mem → Rs β := fun x m => match x with
  | .bl b => k b m
  | _ => .bad
theorem K_tV (a : SE) (ρ : Ev) (m : Mem) (k : Bool → Mem → Rs β) : K (tV a ρ) m k = K (a ρ) m (kTV k) := by
  unfold tV
  rw [K_bind]
  congr 1
  funext x m1
  cases x <;> rfl
theorem kTV_at (k : Bool → Mem → Rs β) (b : Bool) (m : Mem) : kTV k (.bl b) m = k b m := rfl
def kCnd (p q : Mem → Rs β) : Bool → Mem → Rs β := fun c m => if c = true then p m else q m
def kTAnd (b : SB) (ρ : Ev) (k : Bool → Mem → Rs β) : Bool → Mem → Rs β := fun c m => if c = true then K (b ρ) m k else k false m
theorem K_tAnd (a b : SB) (ρ : Ev) (m : Mem) (k : Bool → Mem → Rs β) : K (tAnd a b ρ) m k = K (a ρ) m (kTAnd b ρ k) := by
  unfold tAnd
  rw [K_bind]
  congr 1
  funext x m1
  cases x <;> rfl
theorem kTAnd_t (b : SB) (ρ : Ev) (k : Bool → Mem → Rs β) (m : Mem) : kTAnd b ρ k true m = K (b ρ) m k := rfl
theorem kTAnd_f (b : SB) (ρ : Ev) (k : Bool → Mem → Rs β) (m : Mem) : kTAnd b ρ k false m = k false m := rfl
def kTOr (b : SB) (ρ : Ev) (k : Bool → Mem → Rs β) : Bool → Mem → Rs β := fun c m => if c = true then k true m else K (b ρ) m k
theorem K_tOr (a b : SB) (ρ : Ev) (m : Mem) (k : Bool → Mem → Rs β) : K (tOr a b ρ) m k = K (a ρ) m (kTOr b ρ k) := by
  unfold tOr
  rw [K_bind]
  congr 1
  funext x m1
  cases x <;> rfl
theorem kTOr_t (b : SB) (ρ : Ev) (k : Bool → Mem → Rs β) (m : Mem) : kTOr b ρ k true m = k true m := rfl
theorem kTOr_f (b : SB) (ρ : Ev) (k : Bool → Mem → Rs β) (m : Mem) : kTOr b ρ k false m = K (b ρ) m k := rfl
def kTNot (k : Bool → Mem → Rs β) : Bool → Mem → Rs β := fun c m => k (!c) m
theorem K_tNot (a : SB) (ρ : Ev) (m : Mem) (k : Bool → Mem → Rs β) : K (LB.tNot a ρ) m k = K (a ρ) m (kTNot k) := by
  unfold LB.tNot
  rw [K_bind]
  rfl
theorem kTNot_t (k : Bool → Mem → Rs β) (m : Mem) : kTNot k true m = k false m := rfl
theorem kTNot_f (k : Bool → Mem → Rs β) (m : Mem) : kTNot k false m = k true m := rfl
theorem kTNot_at (k : Bool → Mem → Rs β) (c : Bool) (m : Mem) : kTNot k c m = k (!c) m := rfl
theorem K_tYes (ρ : Ev) (m : Mem) (k : Bool → Mem → Rs β) : K (tYes ρ) m k = k true m := rfl
def kVAnd (b : SE) (ρ : Ev) (k : D → Mem → Rs β) : D → Mem → Rs β := fun x m => match x with
  | .bl c => if c = true then K (b ρ) m k else k (.bl false) m
  | _ => .bad
theorem K_vAnd (a b : SE) (ρ : Ev) (m : Mem) (k : D → Mem → Rs β) : K (vAnd a b ρ) m k = K (a ρ) m (kVAnd b ρ k) := by
  unfold vAnd
  rw [K_bind]
  congr 1
  funext x m1
  rw [K_bind]
  cases x <;> try rfl
  rename_i c
  cases c <;> rfl
theorem kVAnd_t (b : SE) (ρ : Ev) (k : D → Mem → Rs β) (m : Mem) : kVAnd b ρ k (.bl true) m = K (b ρ) m k := rfl
theorem kVAnd_f (b : SE) (ρ : Ev) (k : D → Mem → Rs β) (m : Mem) : kVAnd b ρ k (.bl false) m = k (.bl false) m := rfl
def kVOr (b : SE) (ρ : Ev) (k : D → Mem → Rs β) : D → Mem → Rs β := fun x m => match x with
  | .bl c => if c = true then k (.bl true) m else K (b ρ) m k
  | _ => .bad
theorem K_vOr (a b : SE) (ρ : Ev) (m : Mem) (k : D → Mem → Rs β) : K (vOr a b ρ) m k = K (a ρ) m (kVOr b ρ k) := by
  unfold vOr
  rw [K_bind]
  congr 1
  funext x m1
  rw [K_bind]
  cases x <;> try rfl
  rename_i c
  cases c <;> rfl
theorem kVOr_t (b : SE) (ρ : Ev) (k : D → Mem → Rs β) (m : Mem) : kVOr b ρ k (.bl true) m = k (.bl true) m := rfl
theorem kVOr_f (b : SE) (ρ : Ev) (k : D → Mem → Rs β) (m : Mem) : kVOr b ρ k (.bl false) m = K (b ρ) m k := rfl
def kVNot (k : D → Mem → Rs β) : D → Mem → Rs β := fun x m => match x with
  | .bl c => k (.bl (!c)) m
  | _ => .bad
theorem K_vNot (a : SE) (ρ : Ev) (m : Mem) (k : D → Mem → Rs β) : K (vNot a ρ) m k = K (a ρ) m (kVNot k) := by
  unfold vNot
  rw [K_bind]
  congr 1
  funext x m1
  rw [K_bind]
  cases x <;> rfl
theorem kVNot_at (k : D → Mem → Rs β) (c : Bool) (m : Mem) : kVNot k (.bl c) m = k (.bl (!c)) m := rfl
def kIfE (a b : SE) (ρ : Ev) (k : D → Mem → Rs β) : Bool → Mem → Rs β := fun c m => if c = true then K (a ρ) m k else K (b ρ) m k
theorem K_ifE (t : SB) (a b : SE) (ρ : Ev) (m : Mem) (k : D → Mem → Rs β) : K (ifE t a b ρ) m k = K (t ρ) m (kIfE a b ρ k) := by
  unfold ifE
  rw [K_bind]
  congr 1
  funext x m1
  cases x <;> rfl
theorem kIfE_t (a b : SE) (ρ : Ev) (k : D → Mem → Rs β) (m : Mem) : kIfE a b ρ k true m = K (a ρ) m k := rfl
theorem kIfE_f (a b : SE) (ρ : Ev) (k : D → Mem → Rs β) (m : Mem) : kIfE a b ρ k false m = K (b ρ) m k := rfl
def kChn2 (g' : O2) (c : SE) (ρ : Ev) (y : D) (k : D → Mem → Rs β) : D → Mem → Rs β := fun x m => match x with
  | .bl t => if t = true then K (c ρ) m (kOp2b g' y k) else k (.bl false) m
  | _ => .bad
def kChn1 (g g' : O2) (c : SE) (ρ : Ev) (x : D) (k : D → Mem → Rs β) : D → Mem → Rs β := fun y m => K2 g x y m (kChn2 g' c ρ y k)
def kChn0 (g g' : O2) (b c : SE) (ρ : Ev) (k : D → Mem → Rs β) : D → Mem → Rs β := fun x m => K (b ρ) m (kChn1 g g' c ρ x k)
theorem K_chn (g g' : O2) (a b c : SE) (ρ : Ev) (m : Mem) (k : D → Mem → Rs β) : K (chn g g' a b c ρ) m k = K (a ρ) m (kChn0 g g' b c ρ k) := by
  unfold chn
  rw [K_bind]
  congr 1
  funext x m1
  rw [K_bind]
  unfold kChn0
  congr 1
  funext y m2
  rw [K_bind]
  unfold kChn1 K2
  rw [show (fun m => lift (g x y m) m) = (fun m => (lift (g x y m) : M D) m) from rfl]
  cases h : g x y m2 with
  | none => unfold K lift; simp only [h]; rfl
  | some d =>
    rw [K_ok (x := d) (m1 := m2) (by show lift (g x y m2) m2 = _; rw [h]; rfl), K_bind]
    cases d <;> try rfl
    rename_i t
    cases t
    · rfl
    · show K (M.bind (c ρ) fun z => fun m => lift (g' y z m) m) m2 k = K (c ρ) m2 (kOp2b g' y k)
      rw [K_bind]
      congr 1
      funext z m3
      exact K_lift _ _ _
theorem kChn0_at (g g' : O2) (b c : SE) (ρ : Ev) (k : D → Mem → Rs β) (x : D) (m : Mem) : kChn0 g g' b c ρ k x m = K (b ρ) m (kChn1 g g' c ρ x k) := rfl
theorem kChn1_at (g g' : O2) (c : SE) (ρ : Ev) (x : D) (k : D → Mem → Rs β) (y : D) (m : Mem) : kChn1 g g' c ρ x k y m = K2 g x y m (kChn2 g' c ρ y k) := rfl
theorem kChn2_t (g' : O2) (c : SE) (ρ : Ev) (y : D) (k : D → Mem → Rs β) (m : Mem) : kChn2 g' c ρ y k (.bl true) m = K (c ρ) m (kOp2b g' y k) := rfl
theorem kChn2_f (g' : O2) (c : SE) (ρ : Ev) (y : D) (k : D → Mem → Rs β) (m : Mem) : kChn2 g' c ρ y k (.bl false) m = k (.bl false) m := rfl
/-! slices -/
def kSoS (k : Option Int → Mem → Rs β) : D → Mem → Rs β := fun d m => match d with
  | .int i => k (some i) m
  | _ => .bad
theorem K_soN (ρ : Ev) (m : Mem) (k : Option Int → Mem → Rs β) : K (soN ρ) m k = k none m := rfl
theorem K_soS (a : SE) (ρ : Ev) (m : Mem) (k : Option Int → Mem → Rs β) : K (soS a ρ) m k = K (a ρ) m (kSoS k) := by
  unfold soS
  rw [K_bind]
  congr 1
  funext x m1
  cases x <;> rfl
theorem kSoS_at (k : Option Int → Mem → Rs β) (i : Int) (m : Mem) : kSoS k (.int i) m = k (some i) m := rfl
def KSl (x : D) (l h : Option Int) (m : Mem) (k : D → Mem → Rs β) : Rs β := KO (gSl x l h m) m k
def kSlc2 (x : D) (l : Option Int) (k : D → Mem → Rs β) : Option Int → Mem → Rs β := fun h m => KSl x l h m k
def kSlc1 (x : D) (hi : SO) (ρ : Ev) (k : D → Mem → Rs β) : Option Int → Mem → Rs β := fun l m => K (hi ρ) m (kSlc2 x l k)
def kSlc0 (lo hi : SO) (ρ : Ev) (k : D → Mem → Rs β) : D → Mem → Rs β := fun x m => K (lo ρ) m (kSlc1 x hi ρ k)
theorem K_slc (a : SE) (lo hi : SO) (ρ : Ev) (m : Mem) (k : D → Mem → Rs β) : K (slc a lo hi ρ) m k = K (a ρ) m (kSlc0 lo hi ρ k) := by
  unfold slc
  rw [K_bind]
  congr 1
  funext x m1
  rw [K_bind]
  unfold kSlc0
  congr 1
  funext l m2
  rw [K_bind]
  unfold kSlc1
  congr 1
  funext h m3
  exact K_lift _ _ _
theorem kSlc0_at (lo hi : SO) (ρ : Ev) (k : D → Mem → Rs β) (x : D) (m : Mem) : kSlc0 lo hi ρ k x m = K (lo ρ) m (kSlc1 x hi ρ k) := rfl
theorem kSlc1_at (x : D) (hi : SO) (ρ : Ev) (k : D → Mem → Rs β) (l : Option Int) (m : Mem) : kSlc1 x hi ρ k l m = K (hi ρ) m (kSlc2 x l k) := rfl
theorem kSlc2_at (x : D) (l : Option Int) (k : D → Mem → Rs β) (h : Option Int) (m : Mem) : kSlc2 x l k h m = KSl x l h m k := rfl
theorem KSl_tup (xs : List D) (l h : Option Int) (m : Mem) (k : D → Mem → Rs β) : KSl (.tup xs) l h m k = k (.tup (cutD xs l h)) m := rfl
theorem KSl_lst (xs : List D) (l h : Option Int) (m : Mem) (k : D → Mem → Rs β) : KSl (.lst xs) l h m k = k (.lst (cutD xs l h)) m := rfl
/-! statements -/
abbrev KS (β : Type) := Fl × Ev → Mem → Rs β
theorem K_sNext (ρ : Ev) (m : Mem) (k : KS β) : K (sNext ρ) m k = k (.nx, ρ) m := rfl
def kSeq (b : SS) (k : KS β) : KS β := fun r m => match r with
  | (.nx, ρ1) => K (b ρ1) m k
  | r => k r m
theorem K_sSeq (a b : SS) (ρ : Ev) (m : Mem) (k : KS β) : K (sSeq a b ρ) m k = K (a ρ) m (kSeq b k) := by
  unfold sSeq
  rw [K_bind]
  congr 1
  funext x m1
  obtain ⟨fl, ρ1⟩ := x
  cases fl <;> rfl
theorem kSeq_nx (b : SS) (k : KS β) (ρ : Ev) (m : Mem) : kSeq b k (.nx, ρ) m = K (b ρ) m k := rfl
theorem kSeq_rt (b : SS) (k : KS β) (d : D) (ρ : Ev) (m : Mem) : kSeq b k (.rt d, ρ) m = k (.rt d, ρ) m := rfl
def kRet (ρ : Ev) (k : KS β) : D → Mem → Rs β := fun d m => k (.rt d, ρ) m
theorem K_sRet (a : SE) (ρ : Ev) (m : Mem) (k : KS β) : K (sRet a ρ) m k = K (a ρ) m (kRet ρ k) := by
  unfold sRet
  rw [K_bind]
  rfl
theorem kRet_at (ρ : Ev) (k : KS β) (d : D) (m : Mem) : kRet ρ k d m = k (.rt d, ρ) m := rfl
theorem K_sRetN (ρ : Ev) (m : Mem) (k : KS β) : K (sRetN ρ) m k = k (.rt .non, ρ) m := rfl
def kExp (ρ : Ev) (k : KS β) : D → Mem → Rs β := fun _ m => k (.nx, ρ) m
theorem K_sExp (a : SE) (ρ : Ev) (m : Mem) (k : KS β) : K (sExp a ρ) m k = K (a ρ) m (kExp ρ k) := by
  unfold sExp
  rw [K_bind]
  rfl
theorem kExp_at (ρ : Ev) (k : KS β) (d : D) (m : Mem) : kExp ρ k d m = k (.nx, ρ) m := rfl
def kIf (a b : SS) (ρ : Ev) (k : KS β) : Bool → Mem → Rs β := fun c m => if c = true then K (a ρ) m k else K (b ρ) m k
theorem K_sIf (t : SB) (a b : SS) (ρ : Ev) (m : Mem) (k : KS β) : K (sIf t a b ρ) m k = K (t ρ) m (kIf a b ρ k) := by
  unfold sIf
  rw [K_bind]
  congr 1
  funext x m1
  cases x <;> rfl
theorem kIf_t (a b : SS) (ρ : Ev) (k : KS β) (m : Mem) : kIf a b ρ k true m = K (a ρ) m k := rfl
theorem kIf_f (a b : SS) (ρ : Ev) (k : KS β) (m : Mem) : kIf a b ρ k false m = K (b ρ) m k := rfl
/-! assignments -/
def kUn (acc ρ : Ev) (m : Mem) (k : KS β) : Rs β := k (.nx, acc.reverse ++ ρ) m
def kSet (acc ρ : Ev) (i : Nat) (d : D) (m : Mem) (k : KS β) : Rs β := k (.nx, acc.reverse ++ ρ.set i (some d)) m
theorem kSet_0 (acc ρ : Ev) (x : Option D) (d : D) (m : Mem) (k : KS β) : kSet acc (x :: ρ) 0 d m k = kUn acc (some d :: ρ) m k := rfl
theorem kSet_s (acc ρ : Ev) (x : Option D) (i : Nat) (d : D) (m : Mem) (k : KS β) : kSet acc (x :: ρ) (i + 1) d m k = kSet (x :: acc) ρ i d m k := by
  unfold kSet
  rw [List.set_cons_succ, List.reverse_cons, List.append_assoc]
  rfl
theorem kUn_c (x : Option D) (acc ρ : Ev) (m : Mem) (k : KS β) : kUn (x :: acc) ρ m k = kUn acc (x :: ρ) m k := by
  unfold kUn
  rw [List.reverse_cons, List.append_assoc]
  rfl
theorem kUn_n (ρ : Ev) (m : Mem) (k : KS β) : kUn [] ρ m k = k (.nx, ρ) m := rfl
def kAsg (g : SG) (ρ : Ev) (k : KS β) : D → Mem → Rs β := fun d m => match g d ρ with
  | some ρ1 => k (.nx, ρ1) m
  | none => .bad
theorem K_sAsg (a : SE) (g : SG) (ρ : Ev) (m : Mem) (k : KS β) : K (sAsg a g ρ) m k = K (a ρ) m (kAsg g ρ k) := by
  unfold sAsg
  rw [K_bind]
  congr 1
  funext x m1
  unfold kAsg
  cases h : g x ρ with
  | none => rfl
  | some r => rfl
theorem kAsg_nm (i : Nat) (ρ : Ev) (k : KS β) (d : D) (m : Mem) : kAsg (gNm i) ρ k d m = kSet [] ρ i d m k := rfl
/-- several names -/
def kNms (is : List Nat) (ds : List D) (ρ : Ev) (m : Mem) (k : KS β) : Rs β := match gNms is ds ρ with
  | some ρ1 => k (.nx, ρ1) m
  | none => .bad
def kNmsC (is : List Nat) (ds : List D) (k : KS β) : KS β := fun r m => kNms is ds r.2 m k
theorem kAsg_tp (is : List Nat) (ρ : Ev) (k : KS β) (ds : List D) (m : Mem) : kAsg (gTp is) ρ k (.tup ds) m = kNms is ds ρ m k := rfl
theorem kNms_c (i : Nat) (is : List Nat) (d : D) (ds : List D) (ρ : Ev) (m : Mem) (k : KS β) : kNms (i :: is) (d :: ds) ρ m k = kSet [] ρ i d m (kNmsC is ds k) := rfl
theorem kNmsC_at (is : List Nat) (ds : List D) (k : KS β) (ρ : Ev) (m : Mem) : kNmsC is ds k (.nx, ρ) m = kNms is ds ρ m k := rfl
theorem kNms_n (ρ : Ev) (m : Mem) (k : KS β) : kNms [] [] ρ m k = k (.nx, ρ) m := rfl
def kPar2 (i j : Nat) (x : D) (ρ : Ev) (k : KS β) : D → Mem → Rs β := fun y m => kNms [i, j] [x, y] ρ m k
def kPar1 (i j : Nat) (b : SE) (ρ : Ev) (k : KS β) : D → Mem → Rs β := fun x m => K (b ρ) m (kPar2 i j x ρ k)
theorem K_sPar (i j : Nat) (a b : SE) (ρ : Ev) (m : Mem) (k : KS β) : K (sPar i j a b ρ) m k = K (a ρ) m (kPar1 i j b ρ k) := by
  unfold sPar
  rw [K_bind]
  congr 1
  funext x m1
  rw [K_bind]
  rfl
theorem kPar1_at (i j : Nat) (b : SE) (ρ : Ev) (k : KS β) (x : D) (m : Mem) : kPar1 i j b ρ k x m = K (b ρ) m (kPar2 i j x ρ k) := rfl
theorem kPar2_at (i j : Nat) (x : D) (ρ : Ev) (k : KS β) (y : D) (m : Mem) : kPar2 i j x ρ k y m = kNms [i, j] [x, y] ρ m k := rfl
/-! a def's run -/
def kRun (k : D → Mem → Rs β) : KS β := fun r m => match r with
  | (.rt d, _) => k d m
  | (.nx, _) => k .non m
  | _ => .bad
theorem K_run (n : Nat) (f : SS) (ds : List D) (m : Mem) (k : D → Mem → Rs β) : K (run n f ds) m k = K (f (start n ds)) m (kRun k) := by
  unfold run
  rw [K_bind]
  congr 1
  funext x m1
  obtain ⟨fl, ρ1⟩ := x
  cases fl <;> rfl
theorem kRun_rt (k : D → Mem → Rs β) (d : D) (ρ : Ev) (m : Mem) : kRun k (.rt d, ρ) m = k d m := rfl
theorem kRun_nx (k : D → Mem → Rs β) (ρ : Ev) (m : Mem) : kRun k (.nx, ρ) m = k .non m := rfl
theorem start0 (n : Nat) (ds : List D) : start n ds = ds.map some ++ List.replicate (n - ds.length) none := rfl
end
end LB

set_option Elab.async false
set_option linter.all false
set_option autoImplicit false
set_option maxRecDepth 100000
set_option maxHeartbeats 1000000
/-! Pure: operations, the store, at the head. -/
namespace LB
open PySem
section
variable {α β γ : Type}
/-! numbers -/
theorem K2_add_i (i j : Int) (m : Mem) (k : D → Mem → Rs β) : K2 gAdd (.int i) (.int j) m k = k (.int (i + j)) m := rfl
theorem K2_sub_i (i j : Int) (m : Mem) (k : D → Mem → Rs β) : K2 gSub (.int i) (.int j) m k = k (.int (i - j)) m := rfl
theorem K2_mul_i (i j : Int) (m : Mem) (k : D → Mem → Rs β) (h : (small64 i || small64 j) = true) : K2 gMul (.int i) (.int j) m k = k (.int (i * j)) m := by
  refine KO_of ?_ m k
  exact if_pos h
theorem K2_mod_i (i j : Int) (m : Mem) (k : D → Mem → Rs β) (h : 0 < j) : K2 gMod (.int i) (.int j) m k = k (.int (i % j)) m := by
  refine KO_of ?_ m k
  show (if decide (j ≠ 0) = true then some (D.int (i.fmod j)) else none) = _
  rw [if_pos (decide_eq_true (by omega)), Int.fmod_eq_emod_of_nonneg _ (by omega)]
theorem K2_fdiv_i (i j : Int) (m : Mem) (k : D → Mem → Rs β) (h : 0 < j) (h2 : j < 1073741824) : K2 gFdiv (.int i) (.int j) m k = k (.int (i / j)) m := by
  refine KO_of ?_ m k
  show (if (decide (j ≠ 0) && decide (j.natAbs < 1073741824)) = true then some (D.int (i.fdiv j)) else none) = _
  have h3 : j.natAbs < 1073741824 := by omega
  rw [if_pos (by rw [decide_eq_true (by omega), decide_eq_true h3]; rfl), Int.fdiv_eq_ediv_of_nonneg _ (by omega)]
theorem K2_lt_i (i j : Int) (m : Mem) (k : D → Mem → Rs β) : K2 gLt (.int i) (.int j) m k = k (.bl (decide (i < j))) m := rfl
theorem K2_le_i (i j : Int) (m : Mem) (k : D → Mem → Rs β) : K2 gLe (.int i) (.int j) m k = k (.bl (decide (i ≤ j))) m := rfl
theorem K2_gt_i (i j : Int) (m : Mem) (k : D → Mem → Rs β) : K2 gGt (.int i) (.int j) m k = k (.bl (decide (j < i))) m := rfl
theorem K2_ge_i (i j : Int) (m : Mem) (k : D → Mem → Rs β) : K2 gGe (.int i) (.int j) m k = k (.bl (decide (j ≤ i))) m := rfl
theorem K2_eq_i (i j : Int) (m : Mem) (k : D → Mem → Rs β) : K2 gEq (.int i) (.int j) m k = k (.bl (decide (i = j))) m := rfl
theorem K2_ne_i (i j : Int) (m : Mem) (k : D → Mem → Rs β) : K2 gNe (.int i) (.int j) m k = k (.bl (!decide (i = j))) m := rfl
theorem K2_eq_st (i : Str) (m : Mem) (k : D → Mem → Rs β) : K2 gEq (.str i) (.str i) m k = k (.bl true) m := KO_of (by show some (D.bl (decide (i = i))) = _; rw [decide_eq_true rfl]) m k
theorem K2_eq_sf (i j : Str) (m : Mem) (k : D → Mem → Rs β) (h : decide (i = j) = false) : K2 gEq (.str i) (.str j) m k = k (.bl false) m := KO_of (by show some (D.bl (decide (i = j))) = _; rw [h]) m k
theorem K2_ne_st (i : Str) (m : Mem) (k : D → Mem → Rs β) : K2 gNe (.str i) (.str i) m k = k (.bl false) m := KO_of (by show some (D.bl (!decide (i = i))) = _; rw [decide_eq_true rfl]; rfl) m k
theorem K2_ne_sf (i j : Str) (m : Mem) (k : D → Mem → Rs β) (h : decide (i = j) = false) : K2 gNe (.str i) (.str j) m k = k (.bl true) m := KO_of (by show some (D.bl (!decide (i = j))) = _; rw [h]; rfl) m k
theorem K2_eq_s (i j : Str) (m : Mem) (k : D → Mem → Rs β) : K2 gEq (.str i) (.str j) m k = k (.bl (decide (i = j))) m := rfl
theorem K2_ne_s (i j : Str) (m : Mem) (k : D → Mem → Rs β) : K2 gNe (.str i) (.str j) m k = k (.bl (!decide (i = j))) m := rfl
theorem K2_eq_b (i j : Bool) (m : Mem) (k : D → Mem → Rs β) : K2 gEq (.bl i) (.bl j) m k = k (.bl (decide (i = j))) m := rfl
theorem K2_add_t (xs ys : List D) (m : Mem) (k : D → Mem → Rs β) (h : xs.length + ys.length ≤ sizeLine) : K2 gAdd (.tup xs) (.tup ys) m k = k (.tup (xs ++ ys)) m := KO_of (if_pos h) m k
theorem K2_add_l (xs ys : List D) (m : Mem) (k : D → Mem → Rs β) (h : xs.length + ys.length ≤ sizeLine) : K2 gAdd (.lst xs) (.lst ys) m k = k (.lst (xs ++ ys)) m := KO_of (if_pos h) m k
theorem K1_neg_i (i : Int) (m : Mem) (k : D → Mem → Rs β) : K1 gNeg (.int i) m k = k (.int (-i)) m := rfl
theorem K2_isN_n (m : Mem) (k : D → Mem → Rs β) : K2 gIsN .non .non m k = k (.bl true) m := rfl
theorem K2_isN_i (i : Int) (m : Mem) (k : D → Mem → Rs β) : K2 gIsN (.int i) .non m k = k (.bl false) m := rfl
theorem K2_isN_s (i : Str) (m : Mem) (k : D → Mem → Rs β) : K2 gIsN (.str i) .non m k = k (.bl false) m := rfl
theorem K2_isN_t (i : List D) (m : Mem) (k : D → Mem → Rs β) : K2 gIsN (.tup i) .non m k = k (.bl false) m := rfl
theorem K2_isN_l (i : List D) (m : Mem) (k : D → Mem → Rs β) : K2 gIsN (.lst i) .non m k = k (.bl false) m := rfl
theorem K2_isN_c (i : Nat) (m : Mem) (k : D → Mem → Rs β) : K2 gIsN (.loc i) .non m k = k (.bl false) m := rfl
theorem K2_notN_n (m : Mem) (k : D → Mem → Rs β) : K2 gNotN .non .non m k = k (.bl false) m := rfl
theorem K2_notN_i (i : Int) (m : Mem) (k : D → Mem → Rs β) : K2 gNotN (.int i) .non m k = k (.bl true) m := rfl
theorem K2_notN_s (i : Str) (m : Mem) (k : D → Mem → Rs β) : K2 gNotN (.str i) .non m k = k (.bl true) m := rfl
theorem K2_notN_t (i : List D) (m : Mem) (k : D → Mem → Rs β) : K2 gNotN (.tup i) .non m k = k (.bl true) m := rfl
theorem K2_notN_l (i : List D) (m : Mem) (k : D → Mem → Rs β) : K2 gNotN (.lst i) .non m k = k (.bl true) m := rfl
theorem K2_notN_c (i : Nat) (m : Mem) (k : D → Mem → Rs β) : K2 gNotN (.loc i) .non m k = k (.bl true) m := rfl
/-! places in tuples and lists -/
def KIx (xs : List D) (i : Int) (m : Mem) (k : D → Mem → Rs β) : Rs β := KO (atD xs i) m k
theorem K2_ix_t (xs : List D) (i : Int) (m : Mem) (k : D → Mem → Rs β) : K2 gIx (.tup xs) (.int i) m k = KIx xs i m k := rfl
theorem K2_ix_l (xs : List D) (i : Int) (m : Mem) (k : D → Mem → Rs β) : K2 gIx (.lst xs) (.int i) m k = KIx xs i m k := rfl
theorem KIx_0 (x : D) (r : List D) (m : Mem) (k : D → Mem → Rs β) : KIx (x :: r) 0 m k = k x m := by
  refine KO_of ?_ m k
  show (ixD (r.length + 1) 0).bind (fun j => (x :: r)[j]?) = _
  unfold ixD
  rw [if_pos (Int.le_refl 0), if_pos (by omega)]
  rfl
theorem KIx_1 (x y : D) (r : List D) (m : Mem) (k : D → Mem → Rs β) : KIx (x :: y :: r) 1 m k = k y m := by
  refine KO_of ?_ m k
  show (ixD (r.length + 1 + 1) 1).bind (fun j => (x :: y :: r)[j]?) = _
  unfold ixD
  rw [if_pos (by decide), if_pos (by omega)]
  rfl
theorem KIx_2 (x y z : D) (r : List D) (m : Mem) (k : D → Mem → Rs β) : KIx (x :: y :: z :: r) 2 m k = k z m := by
  refine KO_of ?_ m k
  show (ixD (r.length + 1 + 1 + 1) 2).bind (fun j => (x :: y :: z :: r)[j]?) = _
  unfold ixD
  rw [if_pos (by decide), if_pos (by omega)]
  rfl
theorem KIx_3 (x y z u : D) (r : List D) (m : Mem) (k : D → Mem → Rs β) : KIx (x :: y :: z :: u :: r) 3 m k = k u m := by
  refine KO_of ?_ m k
  show (ixD (r.length + 1 + 1 + 1 + 1) 3).bind (fun j => (x :: y :: z :: u :: r)[j]?) = _
  unfold ixD
  rw [if_pos (by decide), if_pos (by omega)]
  rfl
theorem KIx_4 (x y z u v : D) (r : List D) (m : Mem) (k : D → Mem → Rs β) : KIx (x :: y :: z :: u :: v :: r) 4 m k = k v m := by
  refine KO_of ?_ m k
  show (ixD (r.length + 1 + 1 + 1 + 1 + 1) 4).bind (fun j => (x :: y :: z :: u :: v :: r)[j]?) = _
  unfold ixD
  rw [if_pos (by decide), if_pos (by omega)]
  rfl
theorem atD_neg1 {α : Type} (xs : List α) : atD xs (-1) = xs.getLast? := by
  unfold atD ixD
  rw [if_neg (by decide)]
  cases xs with
  | nil => rfl
  | cons x r =>
    rw [if_pos (by simp only [List.length_cons]; omega)]
    show (x :: r)[(-1 + ((x :: r).length : Int)).toNat]? = _
    rw [List.getLast?_eq_getElem?]
    congr 1
    omega
theorem KIx_m1a (x : D) (m : Mem) (k : D → Mem → Rs β) : KIx [x] (-1) m k = k x m := rfl
theorem KIx_m1b (x y : D) (m : Mem) (k : D → Mem → Rs β) : KIx [x, y] (-1) m k = k y m := rfl
theorem KIx_m1c (x y z : D) (m : Mem) (k : D → Mem → Rs β) : KIx [x, y, z] (-1) m k = k z m := rfl
theorem KIx_m1d (x y z u : D) (m : Mem) (k : D → Mem → Rs β) : KIx [x, y, z, u] (-1) m k = k u m := rfl
theorem atD_nat {α : Type} (xs : List α) (i : Nat) : atD xs (i : Int) = xs[i]? := by
  unfold atD ixD
  rw [if_pos (Int.natCast_nonneg i)]
  by_cases h : i < xs.length
  · rw [if_pos (by omega)]
    rfl
  · rw [if_neg (by omega), List.getElem?_eq_none (by omega)]
    rfl
theorem KIx_of {xs : List D} {i : Nat} {d : D} (h : xs[i]? = some d) (m : Mem) (k : D → Mem → Rs β) : KIx xs (i : Int) m k = k d m := KO_of (by rw [atD_nat]; exact h) m k
theorem KIx_ofI {xs : List D} {i : Int} {d : D} (h0 : 0 ≤ i) (h : xs[i.toNat]? = some d) (m : Mem) (k : D → Mem → Rs β) : KIx xs i m k = k d m := by
  have e : i = (i.toNat : Int) := by omega
  rw [e]
  exact KIx_of h m k
/-! built-ins -/
theorem KN_len_t (xs : List D) (m : Mem) (k : D → Mem → Rs β) : KN gLen [.tup xs] m k = k (.int xs.length) m := rfl
theorem KN_len_l (xs : List D) (m : Mem) (k : D → Mem → Rs β) : KN gLen [.lst xs] m k = k (.int xs.length) m := rfl
theorem KN_max2 (i j : Int) (m : Mem) (k : D → Mem → Rs β) : KN gMax2 [.int i, .int j] m k = k (.int (max i j)) m := by
  refine KO_of ?_ m k
  show some (D.int (if j > i then j else i)) = _
  congr 2
  rw [Int.max_def]
  split <;> split <;> omega
theorem KN_min2 (i j : Int) (m : Mem) (k : D → Mem → Rs β) : KN gMin2 [.int i, .int j] m k = k (.int (min i j)) m := by
  refine KO_of ?_ m k
  show some (D.int (if j < i then j else i)) = _
  congr 2
  rw [Int.min_def]
  split <;> split <;> omega
theorem KN_int_i (i : Int) (m : Mem) (k : D → Mem → Rs β) : KN gInt [.int i] m k = k (.int i) m := rfl
theorem KN_int_t (m : Mem) (k : D → Mem → Rs β) : KN gInt [.bl true] m k = k (.int 1) m := rfl
theorem KN_int_f (m : Mem) (k : D → Mem → Rs β) : KN gInt [.bl false] m k = k (.int 0) m := rfl
theorem KN_int_b (b : Bool) (m : Mem) (k : D → Mem → Rs β) : KN gInt [.bl b] m k = k (.int (if b = true then 1 else 0)) m := rfl
theorem KN_tuple_l (xs : List D) (m : Mem) (k : D → Mem → Rs β) : KN gTuple [.lst xs] m k = k (.tup xs) m := rfl
theorem KN_tuple_t (xs : List D) (m : Mem) (k : D → Mem → Rs β) : KN gTuple [.tup xs] m k = k (.tup xs) m := rfl
theorem KN_list_l (xs : List D) (m : Mem) (k : D → Mem → Rs β) : KN gList [.lst xs] m k = k (.lst xs) m := rfl
theorem KN_list_t (xs : List D) (m : Mem) (k : D → Mem → Rs β) : KN gList [.tup xs] m k = k (.lst xs) m := rfl
theorem KN_maxl (ns : List Int) (m : Mem) (k : D → Mem → Rs β) : KN gMax [.lst (ns.map D.int)] m k = KO ((maxL ns).map D.int) m k := by
  unfold KN
  congr 1
  show (intsOf (ns.map D.int)).bind (fun ns => (maxL ns).map D.int) = _
  rw [intsOf_map]
  rfl
theorem KN_suml (ns : List Int) (m : Mem) (k : D → Mem → Rs β) : KN gSum [.lst (ns.map D.int)] m k = k (.int ns.sum) m := by
  refine KO_of ?_ m k
  show (intsOf (ns.map D.int)).map (fun ns => D.int ns.sum) = _
  rw [intsOf_map]
  rfl
theorem K1_isi_n (T : String) (m : Mem) (k : D → Mem → Rs β) : K1 (gIsi T) .non m k = k (.bl false) m := rfl
theorem K1_isi_b (T : String) (b : Bool) (m : Mem) (k : D → Mem → Rs β) : K1 (gIsi T) (.bl b) m k = k (.bl (T == "bool" || T == "int")) m := rfl
theorem K1_isi_i (T : String) (i : Int) (m : Mem) (k : D → Mem → Rs β) : K1 (gIsi T) (.int i) m k = k (.bl (T == "int")) m := rfl
theorem K1_isi_s (T : String) (i : Str) (m : Mem) (k : D → Mem → Rs β) : K1 (gIsi T) (.str i) m k = k (.bl (T == "str")) m := rfl
theorem K1_isi_t (T : String) (i : List D) (m : Mem) (k : D → Mem → Rs β) : K1 (gIsi T) (.tup i) m k = k (.bl (T == "tuple")) m := rfl
theorem K1_isi_l (T : String) (i : List D) (m : Mem) (k : D → Mem → Rs β) : K1 (gIsi T) (.lst i) m k = k (.bl (T == "list")) m := rfl
/-! the store -/
theorem Mem.put_n (m : Mem) (c : Nat) (o : MO) : (m.put c o).n = m.n := rfl
theorem Mem.new_n (m : Mem) (o : MO) : (m.new o).n = m.n + 1 := rfl
theorem Mem.kill_n (m : Mem) (c : Nat) : (m.kill c).n = m.n := rfl
/-- what stands at c in mm, m going on -/
def KG (c : Nat) (mm : Mem) (m : Mem) (k : MO → Mem → Rs β) : Rs β := if c < m.n then KO (mm.get c) m k else .bad
theorem KG_of {c : Nat} {mm : Mem} {o : MO} (h : mm.get c = some o) (m : Mem) (k : MO → Mem → Rs β) (hn : c < m.n) : KG c mm m k = k o m := by
  unfold KG
  rw [if_pos hn, h]
  rfl
theorem KG_put_eq (c : Nat) (mm : Mem) (o : MO) (m : Mem) (k : MO → Mem → Rs β) (hn : c < m.n) : KG c (mm.put c o) m k = k o m := KG_of (if_pos rfl) m k hn
theorem KG_put_ne (c j : Nat) (mm : Mem) (o : MO) (m : Mem) (k : MO → Mem → Rs β) (h : c ≠ j) : KG c (mm.put j o) m k = KG c mm m k := by
  unfold KG
  rw [show (mm.put j o).get c = mm.get c from if_neg h]
theorem KG_new_eq (mm : Mem) (o : MO) (m : Mem) (k : MO → Mem → Rs β) (hn : mm.n < m.n) : KG mm.n (mm.new o) m k = k o m := KG_of (if_pos rfl) m k hn
theorem KG_new_ne (c : Nat) (mm : Mem) (o : MO) (m : Mem) (k : MO → Mem → Rs β) (h : c ≠ mm.n) : KG c (mm.new o) m k = KG c mm m k := by
  unfold KG
  rw [show (mm.new o).get c = mm.get c from if_neg h]
theorem KG_kill_ne (c j : Nat) (mm : Mem) (m : Mem) (k : MO → Mem → Rs β) (h : c ≠ j) : KG c (mm.kill j) m k = KG c mm m k := by
  unfold KG
  rw [show (mm.kill j).get c = mm.get c from if_neg h]
def kIxL (i : Int) (k : D → Mem → Rs β) : MO → Mem → Rs β := fun o m => match o with
  | .lst xs => KIx xs i m k
  | _ => .bad
theorem lst_KG {α : Type} (c : Nat) (m : Mem) (f : List D → Option α) (k : α → Mem → Rs β) : KO ((lstOf m (.loc c)).bind f) m k = KG c m m (fun o m => match o with
  | .lst xs => KO (f xs) m k
  | _ => .bad) := by
  unfold KG
  show KO ((if c < m.n then (match m.get c with
    | some (.lst xs) => some xs
    | _ => none) else none).bind f) m k = _
  by_cases h : c < m.n
  · rw [if_pos h, if_pos h]
    cases hg : m.get c with
    | none => rfl
    | some o => cases o <;> rfl
  · rw [if_neg h, if_neg h]
    rfl
theorem K2_ix_c (c : Nat) (i : Int) (m : Mem) (k : D → Mem → Rs β) : K2 gIx (.loc c) (.int i) m k = KG c m m (kIxL i k) := lst_KG c m (fun xs => atD xs i) k
theorem kIxL_at (i : Int) (k : D → Mem → Rs β) (xs : List D) (m : Mem) : kIxL i k (.lst xs) m = KIx xs i m k := rfl
def kLenL (k : D → Mem → Rs β) : MO → Mem → Rs β := fun o m => match o with
  | .lst xs => k (.int xs.length) m
  | .dct kvs => k (.int kvs.length) m
  | _ => .bad
theorem KN_len_c (c : Nat) (m : Mem) (k : D → Mem → Rs β) : KN gLen [.loc c] m k = KG c m m (kLenL k) := by
  unfold KG
  show KO (if c < m.n then (match m.get c with
    | some (.lst xs) => some (.int xs.length)
    | some (.dct kvs) => some (.int kvs.length)
    | _ => none) else none) m k = _
  by_cases h : c < m.n
  · rw [if_pos h, if_pos h]
    cases hg : m.get c with
    | none => rfl
    | some o => cases o <;> rfl
  · rw [if_neg h, if_neg h]
    rfl
theorem kLenL_l (k : D → Mem → Rs β) (xs : List D) (m : Mem) : kLenL k (.lst xs) m = k (.int xs.length) m := rfl
theorem kLenL_d (k : D → Mem → Rs β) (xs : List (KeyS × D)) (m : Mem) : kLenL k (.dct xs) m = k (.int xs.length) m := rfl
def kTupL (k : D → Mem → Rs β) : MO → Mem → Rs β := fun o m => match o with
  | .lst xs => k (.tup xs) m
  | _ => .bad
theorem KN_tuple_c (c : Nat) (m : Mem) (k : D → Mem → Rs β) : KN gTuple [.loc c] m k = KG c m m (kTupL k) := by
  have h := lst_KG c m (fun xs => some (D.tup xs)) k
  unfold KN
  rw [show gTuple [.loc c] m = ((lstOf m (.loc c)).bind fun xs => some (D.tup xs)) from by show (lstOf m (.loc c)).map D.tup = _; cases lstOf m (.loc c) <;> rfl, h]
  rfl
theorem kTupL_at (k : D → Mem → Rs β) (xs : List D) (m : Mem) : kTupL k (.lst xs) m = k (.tup xs) m := rfl
def kMaxL (k : D → Mem → Rs β) : MO → Mem → Rs β := fun o m => match o with
  | .lst xs => KN gMax [.lst xs] m k
  | _ => .bad
theorem KN_max_c (c : Nat) (m : Mem) (k : D → Mem → Rs β) : KN gMax [.loc c] m k = KG c m m (kMaxL k) := lst_KG c m (fun xs => (intsOf xs).bind fun ns => (maxL ns).map D.int) k
theorem kMaxL_at (k : D → Mem → Rs β) (xs : List D) (m : Mem) : kMaxL k (.lst xs) m = KN gMax [.lst xs] m k := rfl
def kSlL (l h : Option Int) (k : D → Mem → Rs β) : MO → Mem → Rs β := fun o m => match o with
  | .lst xs => k (.lst (cutD xs l h)) m
  | _ => .bad
theorem KSl_c (c : Nat) (l h : Option Int) (m : Mem) (k : D → Mem → Rs β) : KSl (.loc c) l h m k = KG c m m (kSlL l h k) := by
  have z := lst_KG c m (fun xs => some (D.lst (cutD xs l h))) k
  unfold KSl
  rw [show gSl (.loc c) l h m = ((lstOf m (.loc c)).bind fun xs => some (D.lst (cutD xs l h))) from by show (lstOf m (.loc c)).map _ = _; cases lstOf m (.loc c) <;> rfl, z]
  rfl
theorem kSlL_at (l h : Option Int) (k : D → Mem → Rs β) (xs : List D) (m : Mem) : kSlL l h k (.lst xs) m = k (.lst (cutD xs l h)) m := rfl
/-! lists that change -/
def kApp3 (c : Nat) (d : D) (k : D → Mem → Rs β) : MO → Mem → Rs β := fun o m => match o with
  | .lst xs => if xs.length < sizeLine then k .non (m.put c (.lst (xs ++ [d]))) else .bad
  | _ => .bad
def kApp2 (l : D) (k : D → Mem → Rs β) : D → Mem → Rs β := fun d m => match l with
  | .loc c => KG c m m (kApp3 c d k)
  | _ => .bad
def kApp1b (c : Nat) (e : SE) (ρ : Ev) (k : D → Mem → Rs β) : MO → Mem → Rs β := fun o m => match o with
  | .lst _ => K (e ρ) m (kApp2 (.loc c) k)
  | _ => .bad
def kApp1 (e : SE) (ρ : Ev) (k : D → Mem → Rs β) : D → Mem → Rs β := fun l m => match l with
  | .loc c => KG c m m (kApp1b c e ρ k)
  | ld => K (M.bind (chkL ld) fun _ => M.bind (e ρ) fun ed => M.bind (updL ld fun xs => if xs.length < sizeLine then some (xs ++ [ed]) else none) fun _ => M.pure .non) m k
theorem K_updL (c : Nat) (f : List D → Option (List D)) (m : Mem) (k : Unit → Mem → Rs β) : K (updL (.loc c) f) m k = KG c m m (fun o m => match o with
  | .lst xs => (match f xs with
    | some ys => k () (m.put c (.lst ys))
    | none => .bad)
  | _ => .bad) := by
  unfold KG
  by_cases h : c < m.n
  · rw [if_pos h]
    cases hg : m.get c with
    | none => exact K_bad (by unfold updL; simp only [h, if_true, hg]) _
    | some o =>
      cases o with
      | lst xs =>
        rw [KO_some]
        cases hf : f xs with
        | none => 
          rw [K_bad (by unfold updL; simp only [h, if_true, hg, hf]) _]
          simp only [hf]
        | some ys =>
          rw [K_ok (x := ()) (m1 := m.put c (.lst ys)) (by unfold updL; simp only [h, if_true, hg, hf]) _]
          simp only [hf]
      | dct _ => exact K_bad (by unfold updL; simp only [h, if_true, hg]) _
      | obj _ _ => exact K_bad (by unfold updL; simp only [h, if_true, hg]) _
  · rw [if_neg h]
    exact K_bad (by unfold updL; simp only [h, if_false]) _
theorem KG_congr {c : Nat} {mm m : Mem} {k k' : MO → Mem → Rs β} (h : ∀ o, k o m = k' o m) : KG c mm m k = KG c mm m k' := by
  unfold KG
  by_cases hn : c < m.n
  · rw [if_pos hn, if_pos hn]
    cases mm.get c with
    | none => rfl
    | some o => exact h o
  · rw [if_neg hn, if_neg hn]
theorem K_appE (l e : SE) (ρ : Ev) (m : Mem) (k : D → Mem → Rs β) : K (appE l e ρ) m k = K (l ρ) m (kApp1 e ρ k) := by
  unfold appE
  rw [K_bind]
  congr 1
  funext x m1
  rw [K_bind]
  cases x with
  | loc c =>
    show _ = KG c m1 m1 (kApp1b c e ρ k)
    have h1 : ∀ kk : Unit → Mem → Rs β, K (chkL (.loc c)) m1 kk = KO ((lstOf m1 (.loc c)).bind fun _ => some ()) m1 kk := by
      intro kk
      cases hl : lstOf m1 (.loc c) with
      | none => exact K_bad (by unfold chkL; rw [hl]; rfl) _
      | some xs => exact K_ok (by unfold chkL; rw [hl]; rfl) _
    rw [h1, lst_KG]
    refine KG_congr fun o => ?_
    cases o with
    | dct _ => rfl
    | obj _ _ => rfl
    | lst xs =>
      show K (M.bind (e ρ) fun ed => M.bind (updL (.loc c) fun xs => if xs.length < sizeLine then some (xs ++ [ed]) else none) fun _ => M.pure .non) m1 k = K (e ρ) m1 (kApp2 (.loc c) k)
      rw [K_bind]
      congr 1
      funext d m2
      rw [K_bind, K_updL]
      refine KG_congr fun o => ?_
      cases o with
      | dct _ => rfl
      | obj _ _ => rfl
      | lst ys =>
        unfold kApp3
        by_cases hl : ys.length < sizeLine
        · simp only [hl, if_true]
          rfl
        · simp only [hl, if_false]
  | _ => rfl
theorem kApp1_at (e : SE) (ρ : Ev) (k : D → Mem → Rs β) (c : Nat) (m : Mem) : kApp1 e ρ k (.loc c) m = KG c m m (kApp1b c e ρ k) := rfl
theorem kApp1b_at (c : Nat) (e : SE) (ρ : Ev) (k : D → Mem → Rs β) (xs : List D) (m : Mem) : kApp1b c e ρ k (.lst xs) m = K (e ρ) m (kApp2 (.loc c) k) := rfl
theorem kApp2_at (c : Nat) (k : D → Mem → Rs β) (d : D) (m : Mem) : kApp2 (.loc c) k d m = KG c m m (kApp3 c d k) := rfl
theorem kApp3_at (c : Nat) (d : D) (k : D → Mem → Rs β) (xs : List D) (m : Mem) (h : xs.length < sizeLine) : kApp3 c d k (.lst xs) m = k .non (m.put c (.lst (xs ++ [d]))) := if_pos h
/-! xs[i] = e -/
def kPut4 (c : Nat) (i : Int) (d : D) (ρ : Ev) (k : KS β) : MO → Mem → Rs β := fun o m => match o with
  | .lst xs => KO (ixD xs.length i) m fun j m => k (.nx, ρ) (m.put c (.lst (xs.set j d)))
  | _ => .bad
def kPut3 (d : D) (l : D) (ρ : Ev) (k : KS β) : D → Mem → Rs β := fun i m => match l, i with
  | .loc c, .int i => KG c m m (kPut4 c i d ρ k)
  | l, i => K (M.bind (lputK l i d) fun _ => M.pure (.nx, ρ)) m k
def kPut2 (i : SE) (d : D) (ρ : Ev) (k : KS β) : D → Mem → Rs β := fun l m => K (i ρ) m (kPut3 d l ρ k)
def kPut1 (l i : SE) (ρ : Ev) (k : KS β) : D → Mem → Rs β := fun d m => K (l ρ) m (kPut2 i d ρ k)
theorem K_sLput (l i e : SE) (ρ : Ev) (m : Mem) (k : KS β) : K (sLput l i e ρ) m k = K (e ρ) m (kPut1 l i ρ k) := by
  unfold sLput
  rw [K_bind]
  congr 1
  funext d m1
  rw [K_bind]
  unfold kPut1
  congr 1
  funext x m2
  rw [K_bind]
  unfold kPut2
  congr 1
  funext y m3
  unfold kPut3
  split
  · rename_i c v
    rw [K_bind]
    show K (updL (.loc c) fun xs => (ixD xs.length v).map fun j => xs.set j d) m3 _ = _
    rw [K_updL]
    refine KG_congr fun o => ?_
    cases o with
    | dct _ => rfl
    | obj _ _ => rfl
    | lst xs =>
      unfold kPut4
      show (match (ixD xs.length v).map fun j => xs.set j d with
        | some ys => _
        | none => _) = KO (ixD xs.length v) m3 _
      cases ixD xs.length v <;> rfl
  · rfl
theorem kPut1_at (l i : SE) (ρ : Ev) (k : KS β) (d : D) (m : Mem) : kPut1 l i ρ k d m = K (l ρ) m (kPut2 i d ρ k) := rfl
theorem kPut2_at (i : SE) (d : D) (ρ : Ev) (k : KS β) (l : D) (m : Mem) : kPut2 i d ρ k l m = K (i ρ) m (kPut3 d l ρ k) := rfl
theorem kPut3_at (d : D) (c : Nat) (ρ : Ev) (k : KS β) (i : Int) (m : Mem) : kPut3 d (.loc c) ρ k (.int i) m = KG c m m (kPut4 c i d ρ k) := rfl
theorem kPut4_at (c : Nat) (i : Int) (d : D) (ρ : Ev) (k : KS β) (xs : List D) (m : Mem) (h0 : 0 ≤ i) (h1 : i < xs.length) : kPut4 c i d ρ k (.lst xs) m = k (.nx, ρ) (m.put c (.lst (xs.set i.toNat d))) := by
  have e : ixD xs.length i = some i.toNat := by
    unfold ixD
    rw [if_pos h0, if_pos h1]
  unfold kPut4
  simp only [e]
  rfl
/-! dicts -/
def kDgD (x : KeyS) (k : D → Mem → Rs β) : MO → Mem → Rs β := fun o m => match o with
  | .dct kvs => KO (valK kvs x) m k
  | _ => .bad
theorem dct_KG {α : Type} (c : Nat) (m : Mem) (f : List (KeyS × D) → Option α) (k : α → Mem → Rs β) : KO ((dctOf m (.loc c)).bind f) m k = KG c m m (fun o m => match o with
  | .dct xs => KO (f xs) m k
  | _ => .bad) := by
  unfold KG
  show KO ((if c < m.n then (match m.get c with
    | some (.dct xs) => some xs
    | _ => none) else none).bind f) m k = _
  by_cases h : c < m.n
  · rw [if_pos h, if_pos h]
    cases hg : m.get c with
    | none => rfl
    | some o => cases o <;> rfl
  · rw [if_neg h, if_neg h]
    rfl
theorem K2_dget_i (c : Nat) (i : Int) (m : Mem) (k : D → Mem → Rs β) : K2 gDget (.loc c) (.int i) m k = KG c m m (kDgD (.inl i) k) := dct_KG c m (fun kvs => valK kvs (.inl i)) k
theorem K2_dget_s (c : Nat) (i : Str) (m : Mem) (k : D → Mem → Rs β) : K2 gDget (.loc c) (.str i) m k = KG c m m (kDgD (.inr i) k) := dct_KG c m (fun kvs => valK kvs (.inr i)) k
def KVk (kvs : List (KeyS × D)) (x : KeyS) (m : Mem) (k : D → Mem → Rs β) : Rs β := KO (valK kvs x) m k
theorem kDgD_at (x : KeyS) (k : D → Mem → Rs β) (kvs : List (KeyS × D)) (m : Mem) : kDgD x k (.dct kvs) m = KVk kvs x m k := rfl
theorem valK_hd (x : KeyS) (v : D) (r : List (KeyS × D)) : valK ((x, v) :: r) x = some v := by
  unfold valK
  rw [List.find?_cons, show decide (x = x) = true from decide_eq_true rfl]
  rfl
theorem valK_tl {x y : KeyS} (v : D) (r : List (KeyS × D)) (h : ¬ y = x) : valK ((y, v) :: r) x = valK r x := by
  unfold valK
  rw [List.find?_cons, show decide (y = x) = false from decide_eq_false h]
theorem KVk_eq (x : KeyS) (v : D) (r : List (KeyS × D)) (m : Mem) (k : D → Mem → Rs β) : KVk ((x, v) :: r) x m k = k v m := KO_of (valK_hd x v r) m k
theorem KVk_ne (a b : Str) (v : D) (r : List (KeyS × D)) (m : Mem) (k : D → Mem → Rs β) (h : (a == b) = false) : KVk ((.inr a, v) :: r) (.inr b) m k = KVk r (.inr b) m k := by
  unfold KVk
  rw [valK_tl v r (fun e => by rw [Sum.inr.inj e, beq_self_eq_true] at h; cases h)]
def KVd (kvs : List (KeyS × D)) (x : KeyS) (d : D) (m : Mem) (k : D → Mem → Rs β) : Rs β := k ((valK kvs x).getD d) m
theorem KVd_eq (x : KeyS) (v d : D) (r : List (KeyS × D)) (m : Mem) (k : D → Mem → Rs β) : KVd ((x, v) :: r) x d m k = k v m := by
  unfold KVd
  rw [valK_hd]
  rfl
theorem KVd_ne (a b : Str) (v d : D) (r : List (KeyS × D)) (m : Mem) (k : D → Mem → Rs β) (h : (a == b) = false) : KVd ((.inr a, v) :: r) (.inr b) d m k = KVd r (.inr b) d m k := by
  unfold KVd
  rw [valK_tl v r (fun e => by rw [Sum.inr.inj e, beq_self_eq_true] at h; cases h)]
theorem KVd_n (x : KeyS) (d : D) (m : Mem) (k : D → Mem → Rs β) : KVd [] x d m k = k d m := rfl
def kDg4 (x : D) (key : D) (k : D → Mem → Rs β) : MO → Mem → Rs β := fun o m => match o with
  | .dct kvs => KO ((keyOf key).map fun q => (valK kvs q).getD x) m k
  | _ => .bad
def kDg3 (c : Nat) (key : D) (k : D → Mem → Rs β) : D → Mem → Rs β := fun x m => KG c m m (kDg4 x key k)
def kDg2 (c : Nat) (x : SE) (ρ : Ev) (k : D → Mem → Rs β) : D → Mem → Rs β := fun key m => K (x ρ) m (kDg3 c key k)
def kDg1b (c : Nat) (i x : SE) (ρ : Ev) (k : D → Mem → Rs β) : MO → Mem → Rs β := fun o m => match o with
  | .dct _ => K (i ρ) m (kDg2 c x ρ k)
  | _ => .bad
def kDg1 (i x : SE) (ρ : Ev) (k : D → Mem → Rs β) : D → Mem → Rs β := fun d m => match d with
  | .loc c => KG c m m (kDg1b c i x ρ k)
  | _ => .bad
theorem K_dget2 (d i x : SE) (ρ : Ev) (m : Mem) (k : D → Mem → Rs β) : K (dget2 d i x ρ) m k = K (d ρ) m (kDg1 i x ρ k) := by
  unfold dget2
  rw [K_bind]
  congr 1
  funext y m1
  rw [K_bind]
  cases y with
  | loc c =>
    have h1 : ∀ kk : Unit → Mem → Rs β, K (fun m => if isDct m (.loc c) = true then Rs.ok () m else .bad) m1 kk = KO ((dctOf m1 (.loc c)).bind fun _ => some ()) m1 kk := by
      intro kk
      cases hl : dctOf m1 (.loc c) with
      | none => exact K_bad (by unfold isDct; simp only [hl]; rfl) _
      | some xs => exact K_ok (x := ()) (m1 := m1) (by unfold isDct; simp only [hl]; rfl) _
    rw [h1, dct_KG]
    refine KG_congr fun o => ?_
    cases o with
    | lst _ => rfl
    | obj _ _ => rfl
    | dct xs =>
      show K (M.bind (i ρ) fun kk => M.bind (x ρ) fun xx => fun m => lift ((dctOf m (.loc c)).bind fun kvs => (keyOf kk).map fun k => (valK kvs k).getD xx) m) m1 k = K (i ρ) m1 (kDg2 c x ρ k)
      rw [K_bind]
      congr 1
      funext a m2
      rw [K_bind]
      unfold kDg2
      congr 1
      funext b m3
      show K (lift ((dctOf m3 (.loc c)).bind fun kvs => (keyOf a).map fun k => (valK kvs k).getD b)) m3 k = _
      rw [K_lift, dct_KG]
      rfl
  | _ => rfl
theorem kDg1_at (i x : SE) (ρ : Ev) (k : D → Mem → Rs β) (c : Nat) (m : Mem) : kDg1 i x ρ k (.loc c) m = KG c m m (kDg1b c i x ρ k) := rfl
theorem kDg1b_at (c : Nat) (i x : SE) (ρ : Ev) (k : D → Mem → Rs β) (kvs : List (KeyS × D)) (m : Mem) : kDg1b c i x ρ k (.dct kvs) m = K (i ρ) m (kDg2 c x ρ k) := rfl
theorem kDg2_at (c : Nat) (x : SE) (ρ : Ev) (k : D → Mem → Rs β) (key : D) (m : Mem) : kDg2 c x ρ k key m = K (x ρ) m (kDg3 c key k) := rfl
theorem kDg3_at (c : Nat) (key : D) (k : D → Mem → Rs β) (x : D) (m : Mem) : kDg3 c key k x m = KG c m m (kDg4 x key k) := rfl
theorem kDg4_i (x : D) (i : Int) (k : D → Mem → Rs β) (kvs : List (KeyS × D)) (m : Mem) : kDg4 x (.int i) k (.dct kvs) m = k ((valK kvs (.inl i)).getD x) m := rfl
theorem kDg4_s (x : D) (i : Str) (k : D → Mem → Rs β) (kvs : List (KeyS × D)) (m : Mem) : kDg4 x (.str i) k (.dct kvs) m = KVd kvs (.inr i) x m k := rfl
/-! d[k] = v -/
def kDp4 (c : Nat) (key : KeyS) (v : D) (ρ : Ev) (k : KS β) : MO → Mem → Rs β := fun o m => match o with
  | .dct kvs => if kvs.length < sizeLine then k (.nx, ρ) (m.put c (.dct (putKD kvs key v))) else .bad
  | _ => .bad
def kDp3 (v d : D) (ρ : Ev) (k : KS β) : D → Mem → Rs β := fun kd m => match d, keyOf kd with
  | .loc c, some key => KG c m m (kDp4 c key v ρ k)
  | _, _ => .bad
def kDp2 (i : SE) (v : D) (ρ : Ev) (k : KS β) : D → Mem → Rs β := fun d m => K (i ρ) m (kDp3 v d ρ k)
def kDp1 (d i : SE) (ρ : Ev) (k : KS β) : D → Mem → Rs β := fun v m => K (d ρ) m (kDp2 i v ρ k)
theorem K_sDput (d i v : SE) (ρ : Ev) (m : Mem) (k : KS β) : K (sDput d i v ρ) m k = K (v ρ) m (kDp1 d i ρ k) := by
  unfold sDput
  rw [K_bind]
  congr 1
  funext x m1
  rw [K_bind]
  unfold kDp1
  congr 1
  funext y m2
  rw [K_bind]
  unfold kDp2
  congr 1
  funext z m3
  unfold kDp3 K
  cases y with
  | loc c =>
    cases hz : keyOf z with
    | none => simp only [hz]
    | some q =>
      simp only [hz]
      unfold KG
      by_cases h : c < m3.n
      · simp only [h, if_true]
        cases hg : m3.get c with
        | none => rfl
        | some o =>
          cases o with
          | lst _ => rfl
          | obj _ _ => rfl
          | dct kvs =>
            rw [KO_some]
            unfold kDp4
            by_cases hl : kvs.length < sizeLine
            · simp only [hl, if_true]
            · simp only [hl, if_false]
      · simp only [h, if_false]
  | _ => rfl
theorem kDp1_at (d i : SE) (ρ : Ev) (k : KS β) (v : D) (m : Mem) : kDp1 d i ρ k v m = K (d ρ) m (kDp2 i v ρ k) := rfl
theorem kDp2_at (i : SE) (v : D) (ρ : Ev) (k : KS β) (d : D) (m : Mem) : kDp2 i v ρ k d m = K (i ρ) m (kDp3 v d ρ k) := rfl
theorem kDp3_i (v : D) (c : Nat) (ρ : Ev) (k : KS β) (i : Int) (m : Mem) : kDp3 v (.loc c) ρ k (.int i) m = KG c m m (kDp4 c (.inl i) v ρ k) := rfl
theorem kDp3_s (v : D) (c : Nat) (ρ : Ev) (k : KS β) (i : Str) (m : Mem) : kDp3 v (.loc c) ρ k (.str i) m = KG c m m (kDp4 c (.inr i) v ρ k) := rfl
theorem kDp4_at (c : Nat) (key : KeyS) (v : D) (ρ : Ev) (k : KS β) (kvs : List (KeyS × D)) (m : Mem) (h : kvs.length < sizeLine) : kDp4 c key v ρ k (.dct kvs) m = k (.nx, ρ) (m.put c (.dct (putKD kvs key v))) := if_pos h
/-! objects -/
def kFldO (c : Nat) (f : Str) (k : D → Mem → Rs β) : MO → Mem → Rs β := fun o m => match o with
  | .obj c2 fs => if c2 = c then KO (fs.lookup f) m k else .bad
  | _ => .bad
theorem obj_KG {α : Type} (o c : Nat) (m : Mem) (f : List (Str × D) → Option α) (k : α → Mem → Rs β) : KO ((objOf m c (.loc o)).bind f) m k = KG o m m (fun x m => match x with
  | .obj c2 fs => if c2 = c then KO (f fs) m k else .bad
  | _ => .bad) := by
  unfold KG
  show KO ((if o < m.n then (match m.get o with
    | some (.obj c2 fs) => if c2 = c then some fs else none
    | _ => none) else none).bind f) m k = _
  by_cases h : o < m.n
  · rw [if_pos h, if_pos h]
    cases hg : m.get o with
    | none => rfl
    | some x =>
      cases x with
      | lst _ => rfl
      | dct _ => rfl
      | obj c2 fs =>
        show KO ((if c2 = c then some fs else none).bind f) m k = (if c2 = c then KO (f fs) m k else .bad)
        by_cases hc : c2 = c
        · rw [if_pos hc, if_pos hc]
          rfl
        · rw [if_neg hc, if_neg hc]
          rfl
  · rw [if_neg h, if_neg h]
    rfl
theorem K1_fld (c o : Nat) (f : Str) (m : Mem) (k : D → Mem → Rs β) : K1 (gFld c f) (.loc o) m k = KG o m m (kFldO c f k) := obj_KG o c m (fun fs => fs.lookup f) k
def KFl (fs : List (Str × D)) (f : Str) (m : Mem) (k : D → Mem → Rs β) : Rs β := KO (fs.lookup f) m k
theorem kFldO_at (c : Nat) (f : Str) (k : D → Mem → Rs β) (fs : List (Str × D)) (m : Mem) : kFldO c f k (.obj c fs) m = KFl fs f m k := if_pos rfl
theorem KFl_eq (f : Str) (d : D) (r : List (Str × D)) (m : Mem) (k : D → Mem → Rs β) : KFl ((f, d) :: r) f m k = k d m := by
  refine KO_of ?_ m k
  rw [List.lookup_cons, beq_self_eq_true]
theorem KFl_ne (f g : Str) (d : D) (r : List (Str × D)) (m : Mem) (k : D → Mem → Rs β) (h : (f == g) = false) : KFl ((g, d) :: r) f m k = KFl r f m k := by
  unfold KFl
  rw [List.lookup_cons, h]
def kFp3 (c : Nat) (f : Str) (v : D) (o : Nat) (ρ : Ev) (k : KS β) : MO → Mem → Rs β := fun x m => match x with
  | .obj c2 fs => if c2 = c then (if fs.length < 1000 then k (.nx, ρ) (m.put o (.obj c (putFD f v fs))) else .bad) else .bad
  | _ => .bad
def kFp2 (c : Nat) (f : Str) (v : D) (ρ : Ev) (k : KS β) : D → Mem → Rs β := fun d m => match d with
  | .loc o => KG o m m (kFp3 c f v o ρ k)
  | _ => .bad
def kFp1 (c : Nat) (f : Str) (o : SE) (ρ : Ev) (k : KS β) : D → Mem → Rs β := fun v m => K (o ρ) m (kFp2 c f v ρ k)
theorem K_sFput (c : Nat) (f : Str) (o e : SE) (ρ : Ev) (m : Mem) (k : KS β) : K (sFput c f o e ρ) m k = K (e ρ) m (kFp1 c f o ρ k) := by
  unfold sFput
  rw [K_bind]
  congr 1
  funext v m1
  rw [K_bind]
  unfold kFp1
  congr 1
  funext d m2
  rw [K_bind]
  cases d with
  | loc a =>
    have h1 : ∀ kk : Unit → Mem → Rs β, K (fputK c f v (.loc a)) m2 kk = KO ((objOf m2 c (.loc a)).bind fun fs => if fs.length < 1000 then some (m2.put a (.obj c (putFD f v fs))) else none) m2 fun m3 _ => kk () m3 := by
      intro kk
      cases ho : objOf m2 c (.loc a) with
      | none => exact K_bad (by unfold fputK; simp only [ho]) _
      | some fs =>
        by_cases h : fs.length < 1000
        · rw [K_ok (x := ()) (m1 := m2.put a (.obj c (putFD f v fs))) (by unfold fputK; simp only [ho, h, if_true]) _]
          show _ = KO (if fs.length < 1000 then some (m2.put a (.obj c (putFD f v fs))) else none) m2 _
          rw [if_pos h]
          rfl
        · rw [K_bad (by unfold fputK; simp only [ho, h, if_false]) _]
          show _ = KO (if fs.length < 1000 then some (m2.put a (.obj c (putFD f v fs))) else none) m2 _
          rw [if_neg h]
          rfl
    rw [h1, obj_KG]
    unfold kFp2
    refine KG_congr fun x => ?_
    cases x with
    | lst _ => rfl
    | dct _ => rfl
    | obj c2 fs =>
      show (if c2 = c then KO (if fs.length < 1000 then some (m2.put a (.obj c (putFD f v fs))) else none) m2 _ else .bad) = (if c2 = c then (if fs.length < 1000 then k (.nx, ρ) (m2.put a (.obj c (putFD f v fs))) else .bad) else .bad)
      by_cases hc : c2 = c
      · rw [if_pos hc, if_pos hc]
        by_cases h : fs.length < 1000
        · rw [if_pos h, if_pos h]
          rfl
        · rw [if_neg h, if_neg h]
          rfl
      · rw [if_neg hc, if_neg hc]
  | _ => rfl
theorem kFp1_at (c : Nat) (f : Str) (o : SE) (ρ : Ev) (k : KS β) (v : D) (m : Mem) : kFp1 c f o ρ k v m = K (o ρ) m (kFp2 c f v ρ k) := rfl
theorem kFp2_at (c : Nat) (f : Str) (v : D) (ρ : Ev) (k : KS β) (o : Nat) (m : Mem) : kFp2 c f v ρ k (.loc o) m = KG o m m (kFp3 c f v o ρ k) := rfl
def kPu (acc fs : List (Str × D)) (c o : Nat) (ρ : Ev) (k : KS β) (m : Mem) : Rs β := k (.nx, ρ) (m.put o (.obj c (acc.reverse ++ fs)))
def kPf (acc fs : List (Str × D)) (c : Nat) (f : Str) (v : D) (o : Nat) (ρ : Ev) (k : KS β) (m : Mem) : Rs β := kPu acc (putFD f v fs) c o ρ k m
theorem kFp3_at (c : Nat) (f : Str) (v : D) (o : Nat) (ρ : Ev) (k : KS β) (fs : List (Str × D)) (m : Mem) (h : fs.length < 1000) : kFp3 c f v o ρ k (.obj c fs) m = kPf [] fs c f v o ρ k m := by
  show (if c = c then (if fs.length < 1000 then k (.nx, ρ) (m.put o (.obj c (putFD f v fs))) else .bad) else .bad) = _
  rw [if_pos rfl, if_pos h]
  rfl
theorem kPf_n (acc : List (Str × D)) (c : Nat) (f : Str) (v : D) (o : Nat) (ρ : Ev) (k : KS β) (m : Mem) : kPf acc [] c f v o ρ k m = kPu acc [(f, v)] c o ρ k m := rfl
theorem kPf_eq (acc r : List (Str × D)) (x : D) (c : Nat) (f : Str) (v : D) (o : Nat) (ρ : Ev) (k : KS β) (m : Mem) : kPf acc ((f, x) :: r) c f v o ρ k m = kPu acc ((f, v) :: r) c o ρ k m := by
  unfold kPf
  rw [putFD, if_pos rfl]
theorem kPu_c (acc r : List (Str × D)) (x : Str × D) (c o : Nat) (ρ : Ev) (k : KS β) (m : Mem) : kPu (x :: acc) r c o ρ k m = kPu acc (x :: r) c o ρ k m := by
  unfold kPu
  rw [List.reverse_cons, List.append_assoc]
  rfl
theorem kPu_n (r : List (Str × D)) (c o : Nat) (ρ : Ev) (k : KS β) (m : Mem) : kPu [] r c o ρ k m = k (.nx, ρ) (m.put o (.obj c r)) := rfl
theorem kPf_ne (acc r : List (Str × D)) (g : Str) (x : D) (c : Nat) (f : Str) (v : D) (o : Nat) (ρ : Ev) (k : KS β) (m : Mem) (h : (f == g) = false) : kPf acc ((g, x) :: r) c f v o ρ k m = kPf ((g, x) :: acc) r c f v o ρ k m := by
  unfold kPf
  rw [putFD, if_neg (by intro e; rw [e, beq_self_eq_true] at h; cases h), kPu_c]
/-! methods -/
def kMt3 (np : Nat) (f : Fn) (d : D) (k : D → Mem → Rs β) : List D → Mem → Rs β := fun ds m => if ds.length + 1 = np then KF f (d :: ds) m k else .bad
def kMt2 (c np : Nat) (mt : Str) (f : Fn) (a : SA) (ρ : Ev) (d : D) (k : D → Mem → Rs β) : MO → Mem → Rs β := fun x m => match x with
  | .obj c2 fs => if c2 = c then (if (fs.lookup mt).isNone = true then K (a ρ) m (kMt3 np f d k) else .bad) else .bad
  | _ => .bad
def kMt1 (c np : Nat) (mt : Str) (f : Fn) (a : SA) (ρ : Ev) (k : D → Mem → Rs β) : D → Mem → Rs β := fun d m => match d with
  | .loc o => KG o m m (kMt2 c np mt f a ρ d k)
  | _ => .bad
theorem K_callM (c np : Nat) (mt : Str) (f : Fn) (o : SE) (a : SA) (ρ : Ev) (m : Mem) (k : D → Mem → Rs β) : K (callM c np mt f o a ρ) m k = K (o ρ) m (kMt1 c np mt f a ρ k) := by
  unfold callM
  rw [K_bind]
  congr 1
  funext d m1
  rw [K_bind]
  cases d with
  | loc a1 =>
    have h1 : ∀ kk : Unit → Mem → Rs β, K (chkO c mt (.loc a1)) m1 kk = KO ((objOf m1 c (.loc a1)).bind fun fs => if (fs.lookup mt).isNone = true then some () else none) m1 kk := by
      intro kk
      cases ho : objOf m1 c (.loc a1) with
      | none => exact K_bad (by unfold chkO; simp only [ho]) _
      | some fs =>
        by_cases h : (fs.lookup mt).isNone = true
        · rw [K_ok (x := ()) (m1 := m1) (by unfold chkO; simp only [ho, h, if_true]) _]
          show _ = KO (if (fs.lookup mt).isNone = true then some () else none) m1 _
          rw [if_pos h]
          rfl
        · rw [K_bad (by unfold chkO; simp only [ho, h, Bool.false_eq_true, if_false]) _]
          show _ = KO (if (fs.lookup mt).isNone = true then some () else none) m1 _
          rw [if_neg h]
          rfl
    rw [h1, obj_KG]
    unfold kMt1
    refine KG_congr fun x => ?_
    cases x with
    | lst _ => rfl
    | dct _ => rfl
    | obj c2 fs =>
      show (if c2 = c then KO (if (fs.lookup mt).isNone = true then some () else none) m1 _ else .bad) = (if c2 = c then (if (fs.lookup mt).isNone = true then K (a ρ) m1 (kMt3 np f (.loc a1) k) else .bad) else .bad)
      by_cases hc : c2 = c
      · rw [if_pos hc, if_pos hc]
        by_cases h : (fs.lookup mt).isNone = true
        · rw [if_pos h, if_pos h]
          show K (M.bind (a ρ) fun ds m => if ds.length + 1 = np then f (.loc a1 :: ds) m else .bad) m1 k = _
          rw [K_bind]
          congr 1
          funext ds m2
          unfold kMt3 KF K
          by_cases hl : ds.length + 1 = np
          · simp only [hl, if_true]
          · simp only [hl, if_false]
        · rw [if_neg h, if_neg h]
          rfl
      · rw [if_neg hc, if_neg hc]
  | _ => rfl
theorem kMt1_at (c np : Nat) (mt : Str) (f : Fn) (a : SA) (ρ : Ev) (k : D → Mem → Rs β) (o : Nat) (m : Mem) : kMt1 c np mt f a ρ k (.loc o) m = KG o m m (kMt2 c np mt f a ρ (.loc o) k) := rfl
def kNo (fs : List (Str × D)) (mt : Str) (np : Nat) (f : Fn) (a : SA) (ρ : Ev) (d : D) (k : D → Mem → Rs β) (m : Mem) : Rs β := if (fs.lookup mt).isNone = true then K (a ρ) m (kMt3 np f d k) else .bad
theorem kMt2_at (c np : Nat) (mt : Str) (f : Fn) (a : SA) (ρ : Ev) (d : D) (k : D → Mem → Rs β) (fs : List (Str × D)) (m : Mem) : kMt2 c np mt f a ρ d k (.obj c fs) m = kNo fs mt np f a ρ d k m := if_pos rfl
theorem kNo_n (mt : Str) (np : Nat) (f : Fn) (a : SA) (ρ : Ev) (d : D) (k : D → Mem → Rs β) (m : Mem) : kNo [] mt np f a ρ d k m = K (a ρ) m (kMt3 np f d k) := rfl
theorem kNo_c (g : Str) (x : D) (r : List (Str × D)) (mt : Str) (np : Nat) (f : Fn) (a : SA) (ρ : Ev) (d : D) (k : D → Mem → Rs β) (m : Mem) (h : (mt == g) = false) : kNo ((g, x) :: r) mt np f a ρ d k m = kNo r mt np f a ρ d k m := by
  unfold kNo
  rw [List.lookup_cons, h]
theorem kMt3_0 (f : Fn) (d : D) (k : D → Mem → Rs β) (m : Mem) : kMt3 1 f d k [] m = KF f [d] m k := rfl
theorem kMt3_1 (f : Fn) (d : D) (k : D → Mem → Rs β) (x : D) (m : Mem) : kMt3 2 f d k [x] m = KF f [d, x] m k := rfl
theorem kMt3_2 (f : Fn) (d : D) (k : D → Mem → Rs β) (x y : D) (m : Mem) : kMt3 3 f d k [x, y] m = KF f [d, x, y] m k := rfl
theorem kMt3_3 (f : Fn) (d : D) (k : D → Mem → Rs β) (x y z : D) (m : Mem) : kMt3 4 f d k [x, y, z] m = KF f [d, x, y, z] m k := rfl
theorem kMt3_4 (f : Fn) (d : D) (k : D → Mem → Rs β) (x y z u : D) (m : Mem) : kMt3 5 f d k [x, y, z, u] m = KF f [d, x, y, z, u] m k := rfl
/-! new objects -/
def kMk2 (n : Nat) (k : D → Mem → Rs β) : D → Mem → Rs β := fun d m => match d with
  | .non => k (.loc n) m
  | _ => .bad
def kMk (c np : Nat) (f : Fn) (k : D → Mem → Rs β) : List D → Mem → Rs β := fun ds m => if ds.length + 1 = np then KF f (.loc m.n :: ds) (m.new (.obj c [])) (kMk2 m.n k) else .bad
theorem K_mkE (c np : Nat) (f : Fn) (a : SA) (ρ : Ev) (m : Mem) (k : D → Mem → Rs β) : K (mkE c np f a ρ) m k = K (a ρ) m (kMk c np f k) := by
  unfold mkE
  rw [K_bind]
  congr 1
  funext ds m1
  unfold kMk
  by_cases h : ds.length + 1 = np
  · rw [if_pos h]
    have e : K (fun m => if ds.length + 1 = np then M.bind (f (.loc m.n :: ds)) (mkK m.n) (m.new (.obj c [])) else .bad) m1 k = K (M.bind (f (.loc m1.n :: ds)) (mkK m1.n)) (m1.new (.obj c [])) k := by
      unfold K
      simp only [h, if_true]
    rw [e, K_bind]
    unfold KF
    congr 1
    funext d m2
    cases d <;> rfl
  · rw [if_neg h]
    unfold K
    simp only [h, if_false]
theorem kMk_1 (c : Nat) (f : Fn) (k : D → Mem → Rs β) (x : D) (m : Mem) : kMk c 2 f k [x] m = KF f [.loc m.n, x] (m.new (.obj c [])) (kMk2 m.n k) := rfl
theorem kMk_2 (c : Nat) (f : Fn) (k : D → Mem → Rs β) (x y : D) (m : Mem) : kMk c 3 f k [x, y] m = KF f [.loc m.n, x, y] (m.new (.obj c [])) (kMk2 m.n k) := rfl
theorem kMk_3 (c : Nat) (f : Fn) (k : D → Mem → Rs β) (x y z : D) (m : Mem) : kMk c 4 f k [x, y, z] m = KF f [.loc m.n, x, y, z] (m.new (.obj c [])) (kMk2 m.n k) := rfl
theorem kMk2_at (n : Nat) (k : D → Mem → Rs β) (m : Mem) : kMk2 n k .non m = k (.loc n) m := rfl
end
end LB

set_option Elab.async false
set_option linter.all false
set_option autoImplicit false
set_option maxRecDepth 100000
set_option maxHeartbeats 1000000
/-! Pure: loops and comprehensions at the head. -/
namespace LB
open PySem
section
variable {α β γ Y : Type}
theorem WP_K {a : M α} {m : Mem} {k : α → Mem → Rs β} {q : β → Mem → Prop} {e : Er → Mem → Prop} (h : WP (a m) (fun x m1 => WP (k x m1) q e) e) : WP (K a m k) q e := by
  obtain ⟨h⟩ := h
  refine ⟨?_⟩
  unfold K
  cases ha : a m with
  | bad => rw [ha] at h; exact h
  | ok x m1 => rw [ha] at h; exact h.h
  | ex x m1 => rw [ha] at h; exact h
theorem WP_unK {a : M α} {m : Mem} {k : α → Mem → Rs β} {q : β → Mem → Prop} {e : Er → Mem → Prop} (h : WP (K a m k) q e) : WP (a m) (fun x m1 => WP (k x m1) q e) e := by
  unfold K at h
  cases ha : a m with
  | bad => rw [ha] at h; exact ⟨h.h⟩
  | ok x m1 => rw [ha] at h; exact .ok h
  | ex x m1 => rw [ha] at h; exact ⟨h.h⟩
theorem WP_iff {x : α} {m : Mem} {q : α → Mem → Prop} {e : Er → Mem → Prop} : WP (.ok x m) q e ↔ q x m := ⟨fun h => h.h, fun h => ⟨h⟩⟩
/-- the callee's word, then on -/
theorem WP_F {f : Fn} {ds : List D} {m : Mem} {k : D → Mem → Rs β} {q0 : D → Mem → Prop} {q : β → Mem → Prop} {e : Er → Mem → Prop} (h : WP (f ds m) q0 fun _ _ => False) (hk : ∀ d m1, q0 d m1 → WP (k d m1) q e) : WP (KF f ds m k) q e := WP_K (h.any fun d m1 z => hk d m1 z)
theorem WP_call {a : M α} {m : Mem} {k : α → Mem → Rs β} {q0 : α → Mem → Prop} {q : β → Mem → Prop} {e : Er → Mem → Prop} (h : WP (a m) q0 fun _ _ => False) (hk : ∀ d m1, q0 d m1 → WP (k d m1) q e) : WP (K a m k) q e := WP_K (h.any fun d m1 z => hk d m1 z)
/-! ### walks -/
def kFor (g : SG) (body : SS) (ρ : Ev) (k : KS β) : Wk × Nat → Mem → Rs β := fun w m => K (forG w.1 g body w.2 0 ρ) m k
theorem K_sFor (it : SI) (g : SG) (body : SS) (ρ : Ev) (m : Mem) (k : KS β) : K (sFor it g body ρ) m k = K (it ρ) m (kFor g body ρ k) := by
  unfold sFor
  rw [K_bind]
  rfl
theorem kFor_at (g : SG) (body : SS) (ρ : Ev) (k : KS β) (w : Wk) (n : Nat) (m : Mem) : kFor g body ρ k (w, n) m = K (forG w g body n 0 ρ) m k := rfl
def rng1F (ds : List D) : M (Wk × Nat) := fun m => match ds with
  | [.int hi] => if small62 hi = true then .ok (wkRng 0 hi.toNat, hi.toNat) m else .bad
  | _ => .bad
def kRng1 (k : Wk × Nat → Mem → Rs β) : List D → Mem → Rs β := fun ds m => K (rng1F ds) m k
theorem K_itRng1 (a : SA) (ρ : Ev) (m : Mem) (k : Wk × Nat → Mem → Rs β) : K (itRng1 a ρ) m k = K (a ρ) m (kRng1 k) := by
  unfold itRng1
  rw [K_bind]
  rfl
theorem kRng1_at (k : Wk × Nat → Mem → Rs β) (hi : Int) (m : Mem) (h : small62 hi = true) : kRng1 k [.int hi] m = k (wkRng 0 hi.toNat, hi.toNat) m := K_ok (if_pos h) k
theorem kRng1_nat (k : Wk × Nat → Mem → Rs β) (n : Nat) (m : Mem) (h : n < 4611686018427387904) : kRng1 k [.int (n : Int)] m = k (wkRng 0 n, n) m := by
  rw [kRng1_at _ _ _ (small62_nat h)]
  rfl
def rng2F (ds : List D) : M (Wk × Nat) := fun m => match ds with
  | [.int lo, .int hi] => if small62 lo = true ∧ small62 hi = true then .ok (wkRng lo (hi - lo).toNat, (hi - lo).toNat) m else .bad
  | _ => .bad
def kRng2 (k : Wk × Nat → Mem → Rs β) : List D → Mem → Rs β := fun ds m => K (rng2F ds) m k
theorem K_itRng2 (a : SA) (ρ : Ev) (m : Mem) (k : Wk × Nat → Mem → Rs β) : K (itRng2 a ρ) m k = K (a ρ) m (kRng2 k) := by
  unfold itRng2
  rw [K_bind]
  rfl
theorem kRng2_at (k : Wk × Nat → Mem → Rs β) (lo hi : Int) (m : Mem) (h : small62 lo = true) (h2 : small62 hi = true) : kRng2 k [.int lo, .int hi] m = k (wkRng lo (hi - lo).toNat, (hi - lo).toNat) m := K_ok (if_pos ⟨h, h2⟩) k
def kSeqI (k : Wk × Nat → Mem → Rs β) : D → Mem → Rs β := fun d m => KO (sqOf m d) m fun xs m => k (wkSeq d, xs.length) m
theorem K_itSeq (a : SE) (ρ : Ev) (m : Mem) (k : Wk × Nat → Mem → Rs β) : K (itSeq a ρ) m k = K (a ρ) m (kSeqI k) := by
  unfold itSeq
  rw [K_bind]
  congr 1
  funext d m1
  unfold kSeqI
  cases h : sqOf m1 d with
  | none => exact K_bad (by simp only [h]) _
  | some xs => exact K_ok (by simp only [h]) _
theorem kSeqI_t (k : Wk × Nat → Mem → Rs β) (xs : List D) (m : Mem) : kSeqI k (.tup xs) m = k (wkSeq (.tup xs), xs.length) m := rfl
theorem kSeqI_l (k : Wk × Nat → Mem → Rs β) (xs : List D) (m : Mem) : kSeqI k (.lst xs) m = k (wkSeq (.lst xs), xs.length) m := rfl
def kSeqL (c : Nat) (k : Wk × Nat → Mem → Rs β) : MO → Mem → Rs β := fun o m => match o with
  | .lst xs => k (wkSeq (.loc c), xs.length) m
  | _ => .bad
theorem kSeqI_c (k : Wk × Nat → Mem → Rs β) (c : Nat) (m : Mem) : kSeqI k (.loc c) m = KG c m m (kSeqL c k) := by
  have h := lst_KG c m (fun xs => some xs) (fun xs m => k (wkSeq (.loc c), xs.length) m)
  unfold kSeqI
  rw [show sqOf m (.loc c) = ((lstOf m (.loc c)).bind fun xs => some xs) from by show lstOf m (.loc c) = _; cases lstOf m (.loc c) <;> rfl, h]
  rfl
theorem kSeqL_at (c : Nat) (k : Wk × Nat → Mem → Rs β) (xs : List D) (m : Mem) : kSeqL c k (.lst xs) m = k (wkSeq (.loc c), xs.length) m := rfl
/-- a name is given, then the body -/
def bodyG (g : SG) (body : SS) (x : D) : SS := fun ρ m => match g x ρ with
  | none => .bad
  | some ρ1 => body ρ1 m
theorem K_bodyG_nm (i : Nat) (body : SS) (d : D) (ρ : Ev) (m : Mem) (k : KS β) : K (bodyG (gNm i) body d ρ) m k = kSet [] ρ i d m (kSeq body k) := rfl
theorem K_bodyG_tp (is : List Nat) (body : SS) (ds : List D) (ρ : Ev) (m : Mem) (k : KS β) : K (bodyG (gTp is) body (.tup ds) ρ) m k = kNms is ds ρ m (kSeq body k) := by
  unfold kNms
  show K (fun m => match gNms is ds ρ with
    | none => .bad
    | some ρ1 => body ρ1 m) m k = _
  cases h : gNms is ds ρ with
  | none => exact K_bad (by simp only [h]) _
  | some r => rfl
theorem W_for {w : Wk} {g : SG} {body : SS} {xs : List D} {n : Nat} {ρ : Ev} {m : Mem} {k : KS β} {q : β → Mem → Prop} {e : Er → Mem → Prop} (I : Nat → Ev → Mem → Prop) (hn : n = xs.length) (hw : ∀ i ρ m, I i ρ m → w i m = some (xs[i]?)) (h0 : I 0 ρ m)
    (hs : ∀ i x ρ m, xs[i]? = some x → I i ρ m → WP (K (bodyG g body x ρ) m Rs.ok) (afterB (I (i + 1)) fun r m => WP (k r m) q e) e) (hq : ∀ ρ m, I xs.length ρ m → WP (k (.nx, ρ) m) q e) : WP (K (forG w g body n 0 ρ) m k) q e := by
  subst hn
  refine WP_K (forG_wp (xs := xs) (I := I) hw (fun i x ρ m hx hI => ?_) hq _ 0 ρ m (Nat.le_refl _) (Nat.zero_le _) h0)
  have z := hs i x ρ m hx hI
  rw [← K_start] at z
  unfold bodyG at z
  cases hg : g x ρ with
  | none =>
    rw [hg] at z
    exact z.h.elim
  | some ρ1 =>
    rw [hg] at z
    exact ⟨ρ1, rfl, z⟩
theorem W_rng {lo : Int} {n : Nat} {g : SG} {body : SS} {ρ : Ev} {m : Mem} {k : KS β} {q : β → Mem → Prop} {e : Er → Mem → Prop} (I : Nat → Ev → Mem → Prop) (h0 : I 0 ρ m)
    (hs : ∀ i ρ m, i < n → I i ρ m → WP (K (bodyG g body (.int (lo + (i : Nat))) ρ) m Rs.ok) (afterB (I (i + 1)) fun r m => WP (k r m) q e) e) (hq : ∀ ρ m, I n ρ m → WP (k (.nx, ρ) m) q e) : WP (K (forG (wkRng lo n) g body n 0 ρ) m k) q e := by
  refine W_for (xs := (List.range n).map fun j => D.int (lo + (j : Nat))) I (by rw [List.length_map, List.length_range]) (fun i ρ m _ => wkRng_eq lo n i m) h0 (fun i x ρ m hx hI => ?_) (fun ρ m h => hq ρ m (by rw [List.length_map, List.length_range] at h; exact h))
  rw [List.getElem?_map] at hx
  by_cases h : i < n
  · rw [List.getElem?_range h] at hx
    cases hx
    exact hs i ρ m h hI
  · rw [List.getElem?_eq_none (by rw [List.length_range]; omega)] at hx
    cases hx
/-- things of one kind side by side -/
theorem W_seq {w : Wk} {g : SG} {body : SS} {ys : List Y} {enc : Y → D} {n : Nat} {ρ : Ev} {m : Mem} {k : KS β} {q : β → Mem → Prop} {e : Er → Mem → Prop} (I : Nat → Ev → Mem → Prop) (hn : n = ys.length) (hw : ∀ i ρ m, I i ρ m → w i m = some ((ys.map enc)[i]?)) (h0 : I 0 ρ m)
    (hs : ∀ i y ρ m, ys[i]? = some y → I i ρ m → WP (K (bodyG g body (enc y) ρ) m Rs.ok) (afterB (I (i + 1)) fun r m => WP (k r m) q e) e) (hq : ∀ ρ m, I ys.length ρ m → WP (k (.nx, ρ) m) q e) : WP (K (forG w g body n 0 ρ) m k) q e := by
  refine W_for (xs := ys.map enc) I (by rw [List.length_map]; exact hn) hw h0 (fun i x ρ m hx hI => ?_) (fun ρ m h => hq ρ m (by rw [List.length_map] at h; exact h))
  rw [List.getElem?_map] at hx
  cases hy : ys[i]? with
  | none => rw [hy] at hx; cases hx
  | some y =>
    rw [hy] at hx
    cases hx
    exact hs i y ρ m hy hI
theorem wkSeq_t (xs : List D) (i : Nat) (m : Mem) : wkSeq (.tup xs) i m = some (xs[i]?) := rfl
theorem wkSeq_l (xs : List D) (i : Nat) (m : Mem) : wkSeq (.lst xs) i m = some (xs[i]?) := rfl
/-! ### while -/
def kWhile (t : SB) (body : SS) (fuel : Nat) (k : KS β) : KS β := fun r m => match r with
  | (.nx, ρ2) => K (whileG t body fuel ρ2) m k
  | (.ct, ρ2) => K (whileG t body fuel ρ2) m k
  | (.bk, ρ2) => k (.nx, ρ2) m
  | (.rt d, ρ2) => k (.rt d, ρ2) m
theorem K_sWhile (fuel : Ev → Mem → Nat) (t : SB) (body : SS) (ρ : Ev) (m : Mem) (k : KS β) : K (sWhile fuel t body ρ) m k = K (whileG t body (fuel ρ m) ρ) m k := rfl
/-- a while by a measure -/
theorem W_while {t : SB} {body : SS} {k : KS β} {q : β → Mem → Prop} {e : Er → Mem → Prop} (I : Nat → Ev → Mem → Prop)
    (hs : ∀ n ρ m, I n ρ m → ∃ c m2, K (t ρ) m Rs.ok = .ok c m2 ∧ (c = true → 0 < n ∧ WP (K (body ρ) m2 Rs.ok) (afterB (I (n - 1)) fun r m => WP (k r m) q e) e) ∧ (c = false → WP (k (.nx, ρ) m2) q e)) : ∀ fuel n ρ m, n ≤ fuel → I n ρ m → WP (K (whileG t body fuel ρ) m k) q e := by
  intro fuel
  induction fuel with
  | zero =>
    intro n ρ m hn hI
    refine WP_K ?_
    unfold whileG
    obtain ⟨c, m2, hb, h1, h2⟩ := hs n ρ m hI
    rw [← K_start] at hb
    rw [bind_ok hb]
    cases c with
    | false => exact .ok (h2 rfl)
    | true => exact absurd (h1 rfl).1 (by omega)
  | succ fuel ih =>
    intro n ρ m hn hI
    refine WP_K ?_
    unfold whileG
    obtain ⟨c, m2, hb, h1, h2⟩ := hs n ρ m hI
    rw [← K_start] at hb
    rw [bind_ok hb]
    cases c with
    | false => exact .ok (h2 rfl)
    | true =>
      obtain ⟨h0, h1⟩ := h1 rfl
      rw [← K_start] at h1
      refine .bind (h1.mono fun r m1 z => ?_)
      obtain ⟨fl, ρ2⟩ := r
      have back : ∀ {ρ2 : Ev} {m1 : Mem}, I (n - 1) ρ2 m1 → WP (whileG t body fuel ρ2 m1) (fun x m1 => WP (k x m1) q e) e := fun {ρ2 m1} z => WP_unK (ih (n - 1) ρ2 m1 (by omega) z)
      cases fl with
      | nx => exact back z
      | ct => exact back z
      | bk => exact .ok z
      | rt d => exact .ok z
/-! ### comprehensions -/
def kComp (g : SG) (t : SB) (e : SE) (ρ0 : Ev) (k : List D → Mem → Rs β) : Wk × Nat → Mem → Rs β := fun w m => K (compG w.1 g t e ρ0 w.2 0 []) m k
theorem K_compL (it : SI) (g : SG) (t : SB) (e : SE) (own : List Nat) (ρ : Ev) (m : Mem) (k : List D → Mem → Rs β) : K (compL it g t e own ρ) m k = K (it ρ) m (kComp g t e (wipeE ρ own) k) := by
  unfold compL
  rw [K_bind]
  rfl
theorem kComp_at (g : SG) (t : SB) (e : SE) (ρ0 : Ev) (k : List D → Mem → Rs β) (w : Wk) (n : Nat) (m : Mem) : kComp g t e ρ0 k (w, n) m = K (compG w g t e ρ0 n 0 []) m k := rfl
def kLst (k : D → Mem → Rs β) : List D → Mem → Rs β := fun ys m => k (.lst ys) m
def kLstM (k : D → Mem → Rs β) : List D → Mem → Rs β := fun ys m => k (.loc m.n) (m.new (.lst ys))
theorem K_comp (it : SI) (g : SG) (t : SB) (e : SE) (own : List Nat) (ρ : Ev) (m : Mem) (k : D → Mem → Rs β) : K (comp it g t e own ρ) m k = K (it ρ) m (kComp g t e (wipeE ρ own) (kLst k)) := by
  unfold comp
  rw [K_bind, K_compL]
  rfl
theorem K_compM (it : SI) (g : SG) (t : SB) (e : SE) (own : List Nat) (ρ : Ev) (m : Mem) (k : D → Mem → Rs β) : K (compM it g t e own ρ) m k = K (it ρ) m (kComp g t e (wipeE ρ own) (kLstM k)) := by
  unfold compM
  rw [K_bind, K_compL]
  rfl
theorem kLst_at (k : D → Mem → Rs β) (ys : List D) (m : Mem) : kLst k ys m = k (.lst ys) m := rfl
theorem kLstM_at (k : D → Mem → Rs β) (ys : List D) (m : Mem) : kLstM k ys m = k (.loc m.n) (m.new (.lst ys)) := rfl
/-- a name is given, then an expression -/
def exG (g : SG) (e : Ev → M α) (x : D) : Ev → M α := fun ρ m => match g x ρ with
  | none => .bad
  | some ρ1 => e ρ1 m
def kEx (e : Ev → M α) (k : α → Mem → Rs β) : KS β := fun r m => K (e r.2) m k
theorem kEx_at (e : Ev → M α) (k : α → Mem → Rs β) (ρ : Ev) (m : Mem) : kEx e k (.nx, ρ) m = K (e ρ) m k := rfl
theorem K_exG_nm (i : Nat) (e : Ev → M α) (d : D) (ρ : Ev) (m : Mem) (k : α → Mem → Rs β) : K (exG (gNm i) e d ρ) m k = kSet [] ρ i d m (kEx e k) := rfl
theorem K_exG_tp (is : List Nat) (e : Ev → M α) (ds : List D) (ρ : Ev) (m : Mem) (k : α → Mem → Rs β) : K (exG (gTp is) e (.tup ds) ρ) m k = kNms is ds ρ m (kEx e k) := by
  unfold kNms
  show K (fun m => match gNms is ds ρ with
    | none => .bad
    | some ρ1 => e ρ1 m) m k = _
  cases h : gNms is ds ρ with
  | none => exact K_bad (by simp only [h]) _
  | some r => rfl
/-- one that changes nothing, with a test -/
theorem C_filter {w : Wk} {g : SG} {t : SB} {e : SE} {ρ0 : Ev} {m : Mem} {n : Nat} {k : List D → Mem → Rs β} (ys : List Y) (enc : Y → D) (p : Y → Bool) (f : Y → D) (hn : n = ys.length) (hl : ys.length ≤ sizeLine) (hw : ∀ i, i ≤ ys.length → w i m = some ((ys.map enc)[i]?))
    (ht : ∀ y, y ∈ ys → K (exG g t (enc y) ρ0) m Rs.ok = .ok (p y) m) (he : ∀ y, y ∈ ys → p y = true → K (exG g e (enc y) ρ0) m Rs.ok = .ok (f y) m) : K (compG w g t e ρ0 n 0 []) m k = k ((ys.filter p).map f) m := by
  subst hn
  have hz : ∀ (zs : List Y) (i : Nat) (acc : List D), zs = ys.drop i → i ≤ ys.length → acc.length + ys.length ≤ sizeLine + i → ∀ fuel, ys.length ≤ fuel + i → compG w g t e ρ0 fuel i acc m = .ok (acc ++ (zs.filter p).map f) m := by
    intro zs
    induction zs with
    | nil =>
      intro i acc hz hi hs fuel hf
      have hi2 : i = ys.length := by
        have h1 : (ys.drop i).length = 0 := by rw [← hz]; rfl
        rw [List.length_drop] at h1
        omega
      have h2 : w i m = some none := by
        rw [hw i hi, hi2, List.getElem?_eq_none (by rw [List.length_map]; exact Nat.le_refl _)]
      unfold compG
      cases fuel <;> simp [h2]
    | cons y zs ih =>
      intro i acc hz hi hs fuel hf
      have hlt : i < ys.length := by
        by_cases h : i < ys.length
        · exact h
        · rw [List.drop_eq_nil_of_le (by omega)] at hz
          cases hz
      have hd := List.drop_eq_getElem_cons hlt
      rw [← hz] at hd
      obtain ⟨rfl, hz2⟩ := List.cons.inj hd
      have h2 : w i m = some (some (enc ys[i])) := by
        rw [hw i hi, List.getElem?_map, List.getElem?_eq_getElem hlt]
        rfl
      obtain ⟨fuel, rfl⟩ : ∃ u, fuel = u + 1 := ⟨fuel - 1, by omega⟩
      unfold compG
      rw [h2]
      have ht1 := ht ys[i] (List.getElem_mem hlt)
      rw [← K_start] at ht1
      unfold exG at ht1
      cases hg : g (enc ys[i]) ρ0 with
      | none =>
        rw [hg] at ht1
        cases ht1
      | some ρ1 =>
        rw [hg] at ht1
        simp only [hg]
        rw [bind_ok (noex_ok ht1)]
        cases hp : p ys[i] with
        | true =>
          have he1 := he ys[i] (List.getElem_mem hlt) hp
          rw [← K_start] at he1
          unfold exG at he1
          rw [hg] at he1
          simp only [if_true]
          have hc : acc.length < sizeLine := by omega
          rw [bind_ok (noex_ok he1)]
          simp only [hc, if_true]
          rw [ih (i + 1) _ hz2 (by omega) (by rw [List.length_append, List.length_singleton]; omega) fuel (by omega), List.filter_cons_of_pos hp]
          simp
        | false =>
          simp only [Bool.false_eq_true, if_false]
          rw [ih (i + 1) _ hz2 (by omega) (by omega) fuel (by omega), List.filter_cons_of_neg (by rw [hp]; exact Bool.false_ne_true)]
  refine K_ok ?_ k
  have z := hz ys 0 [] rfl (Nat.zero_le _) (by simpa using hl) ys.length (Nat.le_refl _)
  rw [z, List.nil_append]
/-- one that changes nothing, all taken -/
theorem C_map {w : Wk} {g : SG} {e : SE} {ρ0 : Ev} {m : Mem} {n : Nat} {k : List D → Mem → Rs β} (ys : List Y) (enc : Y → D) (f : Y → D) (hn : n = ys.length) (hl : ys.length ≤ sizeLine) (hw : ∀ i, i ≤ ys.length → w i m = some ((ys.map enc)[i]?))
    (hg : ∀ y, y ∈ ys → (g (enc y) ρ0).isSome = true) (he : ∀ y, y ∈ ys → K (exG g e (enc y) ρ0) m Rs.ok = .ok (f y) m) : K (compG w g LB.tYes e ρ0 n 0 []) m k = k (ys.map f) m := by
  have z := C_filter (k := k) (t := LB.tYes) ys enc (fun _ => true) f hn hl hw (fun y hy => by
    rw [← K_start]
    unfold exG
    cases h : g (enc y) ρ0 with
    | none =>
      have z := hg y hy
      rw [h] at z
      cases z
    | some r => rfl) (fun y hy _ => he y hy)
  rw [z]
  congr 2
  exact List.filter_eq_self.mpr fun _ _ => rfl
end
end LB

set_option Elab.async false
set_option linter.all false
set_option autoImplicit false
set_option maxRecDepth 100000
set_option maxHeartbeats 1000000
/-! Pure: more operations at the head. -/
namespace LB
open PySem
section
variable {α β γ Y : Type}
def kAlc (k : D → Mem → Rs β) : D → Mem → Rs β := fun d m => match d with
  | .lst ys => k (.loc m.n) (m.new (.lst ys))
  | _ => .bad
theorem kAlc_at (k : D → Mem → Rs β) (ys : List D) (m : Mem) : kAlc k (.lst ys) m = k (.loc m.n) (m.new (.lst ys)) := rfl
def kOpNM (g : ON) (k : D → Mem → Rs β) : List D → Mem → Rs β := fun xs m => KN g xs m (kAlc k)
theorem K_opNM (g : ON) (a : SA) (ρ : Ev) (m : Mem) (k : D → Mem → Rs β) : K (opNM g a ρ) m k = K (a ρ) m (kOpNM g k) := by
  unfold opNM
  rw [K_bind]
  congr 1
  funext xs m1
  rw [K_bind]
  show K (lift (g xs m1)) m1 _ = _
  unfold kOpNM KN
  rw [K_lift]
  cases hg : g xs m1 with
  | none => rfl
  | some d => cases d <;> rfl
theorem kOpNM_at (g : ON) (k : D → Mem → Rs β) (xs : List D) (m : Mem) : kOpNM g k xs m = KN g xs m (kAlc k) := rfl
theorem KN_list_l2 (xs : List D) (m : Mem) (k : D → Mem → Rs β) : KN gList [.lst xs] m k = k (.lst xs) m := rfl
theorem KN_list_t2 (xs : List D) (m : Mem) (k : D → Mem → Rs β) : KN gList [.tup xs] m k = k (.lst xs) m := rfl
def kListL (k : D → Mem → Rs β) : MO → Mem → Rs β := fun o m => match o with
  | .lst xs => k (.lst xs) m
  | _ => .bad
theorem KN_list_c (c : Nat) (m : Mem) (k : D → Mem → Rs β) : KN gList [.loc c] m k = KG c m m (kListL k) := by
  have h := lst_KG c m (fun xs => some (D.lst xs)) k
  unfold KN
  rw [show gList [.loc c] m = ((lstOf m (.loc c)).bind fun xs => some (D.lst xs)) from by show (lstOf m (.loc c)).map D.lst = _; cases lstOf m (.loc c) <;> rfl, h]
  rfl
theorem kListL_at (k : D → Mem → Rs β) (xs : List D) (m : Mem) : kListL k (.lst xs) m = k (.lst xs) m := rfl
def kOp2Mb (g : O2) (x : D) (k : D → Mem → Rs β) : D → Mem → Rs β := fun y m => K2 g x y m (kAlc k)
def kOp2Ma (g : O2) (b : SE) (ρ : Ev) (k : D → Mem → Rs β) : D → Mem → Rs β := fun x m => K (b ρ) m (kOp2Mb g x k)
theorem K_op2M (g : O2) (a b : SE) (ρ : Ev) (m : Mem) (k : D → Mem → Rs β) : K (op2M g a b ρ) m k = K (a ρ) m (kOp2Ma g b ρ k) := by
  unfold op2M
  rw [K_bind]
  congr 1
  funext x m1
  rw [K_bind]
  unfold kOp2Ma
  congr 1
  funext y m2
  rw [K_bind]
  unfold kOp2Mb K2
  cases hg : g x y m2 with
  | none => 
    rw [K_bad (a := fun m => lift (g x y m) m) (by show lift (g x y m2) m2 = _; rw [hg]; rfl)]
    rfl
  | some d =>
    rw [K_ok (a := fun m => lift (g x y m) m) (x := d) (m1 := m2) (by show lift (g x y m2) m2 = _; rw [hg]; rfl)]
    cases d <;> rfl
theorem kOp2Ma_at (g : O2) (b : SE) (ρ : Ev) (k : D → Mem → Rs β) (x : D) (m : Mem) : kOp2Ma g b ρ k x m = K (b ρ) m (kOp2Mb g x k) := rfl
theorem kOp2Mb_at (g : O2) (x : D) (k : D → Mem → Rs β) (y : D) (m : Mem) : kOp2Mb g x k y m = K2 g x y m (kAlc k) := rfl
theorem flat_one {x : α} : ∀ n : Nat, (List.replicate n [x]).flatten = List.replicate n x
  | 0 => rfl
  | n + 1 => by rw [List.replicate_succ, List.flatten_cons, flat_one n, List.replicate_succ]; rfl
theorem K2_rep1 (x : D) (i : Int) (m : Mem) (k : D → Mem → Rs β) (h1 : 0 ≤ i) (h2 : i ≤ 1000000) : K2 gRep (.lst [x]) (.int i) m k = k (.lst (List.replicate i.toNat x)) m := by
  refine KO_of ?_ m k
  show (if -(2 ^ 63) ≤ i ∧ i < 2 ^ 63 ∧ [x].length * i.toNat ≤ sizeLine then some (D.lst (List.replicate i.toNat [x]).flatten) else none) = _
  rw [if_pos ⟨by omega, by omega, by
    have h3 : i.toNat ≤ 1000000 := by omega
    have h4 : (1000000 : Nat) ≤ sizeLine := by decide
    rw [List.length_singleton, Nat.one_mul]
    omega⟩, flat_one]
/-! dicts displayed -/
def kPr3 (x y : D) (k : List (D × D) → Mem → Rs β) : List (D × D) → Mem → Rs β := fun r m => k ((x, y) :: r) m
def kPr2 (x : D) (r : List (SE × SE)) (ρ : Ev) (k : List (D × D) → Mem → Rs β) : D → Mem → Rs β := fun y m => K (prE r ρ) m (kPr3 x y k)
def kPr1 (b : SE) (r : List (SE × SE)) (ρ : Ev) (k : List (D × D) → Mem → Rs β) : D → Mem → Rs β := fun x m => K (b ρ) m (kPr2 x r ρ k)
theorem K_prE_n (ρ : Ev) (m : Mem) (k : List (D × D) → Mem → Rs β) : K (prE [] ρ) m k = k [] m := rfl
theorem K_prE_c (a b : SE) (r : List (SE × SE)) (ρ : Ev) (m : Mem) (k : List (D × D) → Mem → Rs β) : K (prE ((a, b) :: r) ρ) m k = K (a ρ) m (kPr1 b r ρ k) := by
  rw [prE]
  rw [K_bind]
  congr 1
  funext x m1
  rw [K_bind]
  unfold kPr1
  congr 1
  funext y m2
  rw [K_bind]
  rfl
theorem kPr1_at (b : SE) (r : List (SE × SE)) (ρ : Ev) (k : List (D × D) → Mem → Rs β) (x : D) (m : Mem) : kPr1 b r ρ k x m = K (b ρ) m (kPr2 x r ρ k) := rfl
theorem kPr2_at (x : D) (r : List (SE × SE)) (ρ : Ev) (k : List (D × D) → Mem → Rs β) (y : D) (m : Mem) : kPr2 x r ρ k y m = K (prE r ρ) m (kPr3 x y k) := rfl
theorem kPr3_at (x y : D) (k : List (D × D) → Mem → Rs β) (r : List (D × D)) (m : Mem) : kPr3 x y k r m = k ((x, y) :: r) m := rfl
def kDsp (k : D → Mem → Rs β) : List (D × D) → Mem → Rs β := fun xs m => KO (keysOf xs) m fun kvs m => if kvs.length ≤ 15 then k (.loc m.n) (m.new (.dct (mergeD [] kvs))) else .bad
theorem K_dspE (ps : List (SE × SE)) (ρ : Ev) (m : Mem) (k : D → Mem → Rs β) : K (dspE ps ρ) m k = K (prE ps ρ) m (kDsp k) := by
  unfold dspE
  rw [K_bind]
  congr 1
  funext xs m1
  unfold kDsp
  cases h : keysOf xs with
  | none => exact K_bad (by unfold dspK; simp only [h]) _
  | some kvs =>
    rw [KO_some]
    by_cases hl : kvs.length ≤ 15
    · rw [if_pos hl]
      exact K_ok (x := D.loc m1.n) (m1 := m1.new (.dct (mergeD [] kvs))) (by unfold dspK; simp only [h, hl, if_true]; rfl) _
    · rw [if_neg hl]
      exact K_bad (by unfold dspK; simp only [h, hl, if_false]) _
theorem kDsp_of {xs : List (D × D)} {kvs kvs2 : List (KeyS × D)} (h : keysOf xs = some kvs) (hl : kvs.length ≤ 15) (h2 : mergeD [] kvs = kvs2) (k : D → Mem → Rs β) (m : Mem) : kDsp k xs m = k (.loc m.n) (m.new (.dct kvs2)) := by
  unfold kDsp
  rw [h, KO_some, if_pos hl, h2]
theorem kDsp_s1 (a : Str) (x : D) (k : D → Mem → Rs β) (m : Mem) : kDsp k [(.str a, x)] m = k (.loc m.n) (m.new (.dct [(.inr a, x)])) := rfl
theorem inr_ne {a b : Str} (h : (a == b) = false) : ¬ (Sum.inr a : KeyS) = .inr b := fun e => by
  rw [Sum.inr.inj e, beq_self_eq_true] at h
  cases h
theorem kDsp_s2 (a b : Str) (x y : D) (k : D → Mem → Rs β) (m : Mem) (h : (a == b) = false) : kDsp k [(.str a, x), (.str b, y)] m = k (.loc m.n) (m.new (.dct [(.inr a, x), (.inr b, y)])) := kDsp_of (kvs := [(.inr a, x), (.inr b, y)]) rfl (by simp) (by simp [mergeD, putKD, inr_ne h]) k m
theorem kDsp_s3 (a b c : Str) (x y z : D) (k : D → Mem → Rs β) (m : Mem) (h : (a == b) = false) (h2 : (a == c) = false) (h3 : (b == c) = false) : kDsp k [(.str a, x), (.str b, y), (.str c, z)] m = k (.loc m.n) (m.new (.dct [(.inr a, x), (.inr b, y), (.inr c, z)])) := kDsp_of (kvs := [(.inr a, x), (.inr b, y), (.inr c, z)]) rfl (by simp) (by simp [mergeD, putKD, inr_ne h, inr_ne h2, inr_ne h3]) k m
theorem kDsp_s4 (a b c d : Str) (x y z u : D) (k : D → Mem → Rs β) (m : Mem) (h : (a == b) = false) (h2 : (a == c) = false) (h3 : (b == c) = false) (h4 : (a == d) = false) (h5 : (b == d) = false) (h6 : (c == d) = false) : kDsp k [(.str a, x), (.str b, y), (.str c, z), (.str d, u)] m = k (.loc m.n) (m.new (.dct [(.inr a, x), (.inr b, y), (.inr c, z), (.inr d, u)])) := kDsp_of (kvs := [(.inr a, x), (.inr b, y), (.inr c, z), (.inr d, u)]) rfl (by simp) (by simp [mergeD, putKD, inr_ne h, inr_ne h2, inr_ne h3, inr_ne h4, inr_ne h5, inr_ne h6]) k m
/-! frozen -/
def kFrzL (c : Nat) (k : D → Mem → Rs β) : MO → Mem → Rs β := fun o m => match o with
  | .lst xs => k (.lst xs) (m.kill c)
  | _ => .bad
def kFrz (k : D → Mem → Rs β) : D → Mem → Rs β := fun d m => match d with
  | .loc c => KG c m m (kFrzL c k)
  | d => k d m
theorem K_frz (a : SE) (ρ : Ev) (m : Mem) (k : D → Mem → Rs β) : K (frz a ρ) m k = K (a ρ) m (kFrz k) := by
  unfold frz
  rw [K_bind]
  congr 1
  funext d m1
  cases d with
  | loc c =>
    show K (frzD (.loc c)) m1 k = KG c m1 m1 (kFrzL c k)
    unfold KG
    by_cases h : c < m1.n
    · rw [if_pos h]
      cases hg : m1.get c with
      | none => exact K_bad (by unfold frzD; simp only [hg]) _
      | some o =>
        cases o with
        | lst xs => exact K_ok (x := D.lst xs) (m1 := m1.kill c) (by unfold frzD; simp only [hg, h, if_true]) _
        | dct _ => exact K_bad (by unfold frzD; simp only [hg]) _
        | obj _ _ => exact K_bad (by unfold frzD; simp only [hg]) _
    · rw [if_neg h]
      refine K_bad ?_ _
      unfold frzD
      cases hg : m1.get c with
      | none => simp only [hg]
      | some o => cases o <;> simp only [hg, h, if_false]
  | _ => rfl
theorem kFrz_c (k : D → Mem → Rs β) (c : Nat) (m : Mem) : kFrz k (.loc c) m = KG c m m (kFrzL c k) := rfl
theorem kFrz_l (k : D → Mem → Rs β) (xs : List D) (m : Mem) : kFrz k (.lst xs) m = k (.lst xs) m := rfl
theorem kFrz_t (k : D → Mem → Rs β) (xs : List D) (m : Mem) : kFrz k (.tup xs) m = k (.tup xs) m := rfl
theorem kFrz_n (k : D → Mem → Rs β) (m : Mem) : kFrz k .non m = k .non m := rfl
theorem kFrzL_at (c : Nat) (k : D → Mem → Rs β) (xs : List D) (m : Mem) : kFrzL c k (.lst xs) m = k (.lst xs) (m.kill c) := rfl
/-! extend, clear, reverse, pop -/
def kExt3 (c : Nat) (ys : List D) (k : D → Mem → Rs β) : MO → Mem → Rs β := fun o m => match o with
  | .lst xs => if xs.length + ys.length ≤ sizeLine then k .non (m.put c (.lst (xs ++ ys))) else .bad
  | _ => .bad
def kExt2 (l : D) (k : D → Mem → Rs β) : D → Mem → Rs β := fun d m => K (extK l d) m k
def kExt1 (e : SE) (ρ : Ev) (k : D → Mem → Rs β) : D → Mem → Rs β := fun l m => K (chkL l) m fun _ m => K (e ρ) m (kExt2 l k)
def kExt1b (c : Nat) (e : SE) (ρ : Ev) (k : D → Mem → Rs β) : MO → Mem → Rs β := fun o m => match o with
  | .lst _ => K (e ρ) m (kExt2 (.loc c) k)
  | _ => .bad
theorem K_chkL_c (c : Nat) (m : Mem) (kk : Unit → Mem → Rs β) : K (chkL (.loc c)) m kk = KO ((lstOf m (.loc c)).bind fun _ => some ()) m kk := by
  cases hl : lstOf m (.loc c) with
  | none => exact K_bad (by unfold chkL; rw [hl]; rfl) _
  | some xs => exact K_ok (by unfold chkL; rw [hl]; rfl) _
theorem K_extE (l e : SE) (ρ : Ev) (m : Mem) (k : D → Mem → Rs β) : K (extE l e ρ) m k = K (l ρ) m (kExt1 e ρ k) := by
  unfold extE
  rw [K_bind]
  congr 1
  funext x m1
  rw [K_bind]
  unfold kExt1
  congr 1
  funext _ m2
  rw [K_bind]
  rfl
theorem kExt1_at (e : SE) (ρ : Ev) (k : D → Mem → Rs β) (c : Nat) (m : Mem) : kExt1 e ρ k (.loc c) m = KG c m m (kExt1b c e ρ k) := by
  unfold kExt1
  rw [K_chkL_c, lst_KG]
  refine KG_congr fun o => ?_
  cases o <;> rfl
theorem kExt1b_at (c : Nat) (e : SE) (ρ : Ev) (k : D → Mem → Rs β) (xs : List D) (m : Mem) : kExt1b c e ρ k (.lst xs) m = K (e ρ) m (kExt2 (.loc c) k) := rfl
theorem kExt2_at (c : Nat) (k : D → Mem → Rs β) (ys : List D) (m : Mem) : kExt2 (.loc c) k (.lst ys) m = KG c m m (kExt3 c ys k) := by
  unfold kExt2
  have e1 : K (extK (.loc c) (.lst ys)) m k = K (M.bind (updL (.loc c) fun xs => if xs.length + ys.length ≤ sizeLine then some (xs ++ ys) else none) fun _ => M.pure .non) m k := rfl
  rw [e1, K_bind, K_updL]
  refine KG_congr fun o => ?_
  cases o with
  | dct _ => rfl
  | obj _ _ => rfl
  | lst xs =>
    unfold kExt3
    by_cases h : xs.length + ys.length ≤ sizeLine
    · simp only [h, if_true]
      rfl
    · simp only [h, if_false]
theorem kExt3_at (c : Nat) (ys : List D) (k : D → Mem → Rs β) (xs : List D) (m : Mem) (h : xs.length + ys.length ≤ sizeLine) : kExt3 c ys k (.lst xs) m = k .non (m.put c (.lst (xs ++ ys))) := if_pos h
def mt0F (g : List D → Option (List D × D)) (ld : D) : M D := fun m => match (lstOf m ld).bind g with
  | some (_, d) => M.bind (updL ld fun xs => (g xs).map (·.1)) (fun _ => M.pure d) m
  | none => .bad
def kMt0 (g : List D → Option (List D × D)) (k : D → Mem → Rs β) : D → Mem → Rs β := fun d m => K (mt0F g d) m k
def kMt0L (c : Nat) (g : List D → Option (List D × D)) (k : D → Mem → Rs β) : MO → Mem → Rs β := fun o m => match o with
  | .lst xs => (match g xs with
    | some (ys, d) => k d (m.put c (.lst ys))
    | none => .bad)
  | _ => .bad
theorem K_mt0E (g : List D → Option (List D × D)) (l : SE) (ρ : Ev) (m : Mem) (k : D → Mem → Rs β) : K (mt0E g l ρ) m k = K (l ρ) m (kMt0 g k) := by
  unfold mt0E
  rw [K_bind]
  rfl
theorem kMt0_at (g : List D → Option (List D × D)) (k : D → Mem → Rs β) (c : Nat) (m : Mem) : kMt0 g k (.loc c) m = KG c m m (kMt0L c g k) := by
  unfold kMt0 KG
  by_cases h : c < m.n
  · rw [if_pos h]
    cases hg : m.get c with
    | none => exact K_bad (by unfold mt0F; rw [show lstOf m (.loc c) = none from by show (if c < m.n then _ else _) = _; rw [if_pos h, hg]]; rfl) _
    | some o =>
      cases o with
      | dct _ => exact K_bad (by unfold mt0F; rw [show lstOf m (.loc c) = none from by show (if c < m.n then _ else _) = _; rw [if_pos h, hg]]; rfl) _
      | obj _ _ => exact K_bad (by unfold mt0F; rw [show lstOf m (.loc c) = none from by show (if c < m.n then _ else _) = _; rw [if_pos h, hg]]; rfl) _
      | lst xs =>
        have hl : lstOf m (.loc c) = some xs := by show (if c < m.n then _ else _) = _; rw [if_pos h, hg]
        rw [KO_some]
        show _ = (match g xs with
          | some (ys, d) => k d (m.put c (.lst ys))
          | none => .bad)
        cases hx : g xs with
        | none => exact K_bad (by unfold mt0F; rw [hl]; show (match g xs with | some (_, d) => _ | none => _) = _; rw [hx]) _
        | some p =>
          obtain ⟨ys, d⟩ := p
          refine K_ok (x := d) (m1 := m.put c (.lst ys)) ?_ k
          unfold mt0F
          rw [hl]
          show (match g xs with | some (_, d) => _ | none => _) = _
          rw [hx]
          show M.bind (updL (.loc c) fun xs => (g xs).map (·.1)) (fun _ => M.pure d) m = _
          have hu : updL (.loc c) (fun xs => (g xs).map (·.1)) m = .ok () (m.put c (.lst ys)) := by
            unfold updL
            simp only [h, if_true, hg, hx, Option.map]
          rw [bind_ok hu]
          rfl
  · rw [if_neg h]
    exact K_bad (by unfold mt0F; rw [show lstOf m (.loc c) = none from by show (if c < m.n then _ else _) = _; rw [if_neg h]]; rfl) _
theorem kMt0L_clear (c : Nat) (k : D → Mem → Rs β) (xs : List D) (m : Mem) : kMt0L c gClear k (.lst xs) m = k .non (m.put c (.lst [])) := rfl
theorem kMt0L_rev (c : Nat) (k : D → Mem → Rs β) (xs : List D) (m : Mem) : kMt0L c gReverse k (.lst xs) m = k .non (m.put c (.lst xs.reverse)) := rfl
/-! in a display of texts or numbers, settled at once -/
theorem K2_in_t (x : D) (xs : List D) (m : Mem) (k : D → Mem → Rs β) (h : inOf x xs = some true) : K2 gIn x (.tup xs) m k = k (.bl true) m := KO_of (by show (inOf x xs).map D.bl = _; rw [h]; rfl) m k
theorem K2_in_f (x : D) (xs : List D) (m : Mem) (k : D → Mem → Rs β) (h : inOf x xs = some false) : K2 gIn x (.tup xs) m k = k (.bl false) m := KO_of (by show (inOf x xs).map D.bl = _; rw [h]; rfl) m k
theorem K2_notIn_t (x : D) (xs : List D) (m : Mem) (k : D → Mem → Rs β) (h : inOf x xs = some true) : K2 gNotIn x (.tup xs) m k = k (.bl false) m := KO_of (by show (inOf x xs).map (fun b => D.bl (!b)) = _; rw [h]; rfl) m k
theorem K2_notIn_f (x : D) (xs : List D) (m : Mem) (k : D → Mem → Rs β) (h : inOf x xs = some false) : K2 gNotIn x (.tup xs) m k = k (.bl true) m := KO_of (by show (inOf x xs).map (fun b => D.bl (!b)) = _; rw [h]; rfl) m k
theorem K2_in_of {x y : D} {xs : List D} {m : Mem} {b : Bool} (hs : sqOf m y = some xs) (h : inOf x xs = some b) (k : D → Mem → Rs β) : K2 gIn x y m k = k (.bl b) m := KO_of (by show (sqOf m y).bind (fun xs => (inOf x xs).map D.bl) = _; rw [hs]; show (inOf x xs).map D.bl = _; rw [h]; rfl) m k
/-! zip, enumerate, texts -/
def kZp2 (d : D) (k : Wk × Nat → Mem → Rs β) : D → Mem → Rs β := fun e m => KO (wlkOf m d) m fun xs m => KO (wlkOf m e) m fun ys m => k (wkZp d e, min xs.length ys.length) m
def kZp1 (b : SE) (ρ : Ev) (k : Wk × Nat → Mem → Rs β) : D → Mem → Rs β := fun d m => K (b ρ) m (kZp2 d k)
theorem K_itZp (a b : SE) (ρ : Ev) (m : Mem) (k : Wk × Nat → Mem → Rs β) : K (itZp a b ρ) m k = K (a ρ) m (kZp1 b ρ k) := by
  unfold itZp
  rw [K_bind]
  congr 1
  funext d m1
  rw [K_bind]
  unfold kZp1
  congr 1
  funext e m2
  unfold kZp2
  cases h1 : wlkOf m2 d with
  | none => exact K_bad (by simp only [h1]) _
  | some xs =>
    rw [KO_some]
    cases h2 : wlkOf m2 e with
    | none => exact K_bad (by simp only [h1, h2]) _
    | some ys => exact K_ok (by simp only [h1, h2]) _
theorem kZp1_at (b : SE) (ρ : Ev) (k : Wk × Nat → Mem → Rs β) (d : D) (m : Mem) : kZp1 b ρ k d m = K (b ρ) m (kZp2 d k) := rfl
theorem kZp2_of {d e : D} {xs ys : List D} {m : Mem} (h1 : wlkOf m d = some xs) (h2 : wlkOf m e = some ys) (k : Wk × Nat → Mem → Rs β) : kZp2 d k e m = k (wkZp d e, min xs.length ys.length) m := by
  unfold kZp2
  rw [h1, KO_some, h2]
  rfl
def kEnI (k : Wk × Nat → Mem → Rs β) : D → Mem → Rs β := fun d m => KO (wlkOf m d) m fun xs m => k (wkEn d, xs.length) m
theorem K_itEn (a : SE) (ρ : Ev) (m : Mem) (k : Wk × Nat → Mem → Rs β) : K (itEn a ρ) m k = K (a ρ) m (kEnI k) := by
  unfold itEn
  rw [K_bind]
  congr 1
  funext d m1
  unfold kEnI
  cases h : wlkOf m1 d with
  | none => exact K_bad (by simp only [h]) _
  | some xs => exact K_ok (by simp only [h]) _
theorem kEnI_t (k : Wk × Nat → Mem → Rs β) (xs : List D) (m : Mem) : kEnI k (.tup xs) m = k (wkEn (.tup xs), xs.length) m := rfl
theorem kEnI_l (k : Wk × Nat → Mem → Rs β) (xs : List D) (m : Mem) : kEnI k (.lst xs) m = k (wkEn (.lst xs), xs.length) m := rfl
/-! not in, in: dicts -/
def kDinD (x : KeyS) (k : D → Mem → Rs β) : MO → Mem → Rs β := fun o m => match o with
  | .dct kvs => k (.bl (valK kvs x).isSome) m
  | _ => .bad
theorem K2_din_i (c : Nat) (i : Int) (m : Mem) (k : D → Mem → Rs β) : K2 gDin (.int i) (.loc c) m k = KG c m m (kDinD (.inl i) k) := dct_KG c m (fun kvs => some (D.bl (valK kvs (.inl i)).isSome)) k
theorem kDinD_at (x : KeyS) (k : D → Mem → Rs β) (kvs : List (KeyS × D)) (m : Mem) : kDinD x k (.dct kvs) m = k (.bl (valK kvs x).isSome) m := rfl
/-! store once more -/
theorem Mem.put_put' (m : Mem) (c : Nat) (o u : MO) : (m.put c o).put c u = m.put c u := by
  unfold Mem.put
  congr 1
  funext j
  by_cases h : j = c
  · simp only [h, if_pos]
  · simp only [h, if_false]
theorem Mem.put_new' (m : Mem) (o u : MO) : (m.new o).put m.n u = m.new u := Mem.put_new m o u
end
end LB

set_option Elab.async false
set_option linter.all false
set_option autoImplicit false
set_option maxRecDepth 100000
set_option maxHeartbeats 0
/-! Pure: rows, mills, pieces; the program's defs about them. -/
namespace LB
open PySem
noncomputable section
def tbF : List (Str × D) := [("put", .str "wn"), ("move", .str "wl"), ("add", .str "wll"), ("take", .str "wll"), ("times", .str "wll"), ("get", .str "wl"), ("set", .str "ll"), ("say", .str "l"), ("rest", .str ""), ("go", .str "r"), ("if", .str "lr"), ("stop", .str "")]
def v_MOST_LATE : D := .tup [.int 2, .int 4, .int 4, .int 3]
/-! ### rows -/
inductive Row where
  | put (b n : Int) | move (b c : Int) | add (b c d : Int) | take (b c d : Int) | times (b c d : Int) | get (b c : Int) | set (b c : Int) | say (b : Int) | rest | go (r : Int) | ifr (b r : Int) | stop
  deriving DecidableEq
namespace Row
def word : Row → Str
  | put .. => "put" | move .. => "move" | add .. => "add" | take .. => "take" | times .. => "times" | get .. => "get" | set .. => "set" | say .. => "say" | rest => "rest" | go .. => "go" | ifr .. => "if" | stop => "stop"
def parts : Row → List Int
  | put b n => [b, n] | move b c => [b, c] | add b c d => [b, c, d] | take b c d => [b, c, d] | times b c d => [b, c, d] | get b c => [b, c] | set b c => [b, c] | say b => [b] | rest => [] | go r => [r] | ifr b r => [b, r] | stop => []
def form : Row → Str
  | put .. => "wn" | move .. => "wl" | add .. => "wll" | take .. => "wll" | times .. => "wll" | get .. => "wl" | set .. => "ll" | say .. => "l" | rest => "" | go .. => "r" | ifr .. => "lr" | stop => ""
/-- w: 0, l: 1, n: 2, r: 3 -/
def sorts : Row → List Nat
  | put .. => [0, 2] | move .. => [0, 1] | add .. => [0, 1, 1] | take .. => [0, 1, 1] | times .. => [0, 1, 1] | get .. => [0, 1] | set .. => [1, 1] | say .. => [1] | rest => [] | go .. => [3] | ifr .. => [1, 3] | stop => []
def into : Row → Option Int
  | put b _ => some b | move b _ => some b | add b _ _ => some b | take b _ _ => some b | times b _ _ => some b | get b _ => some b | _ => none
def looks : Row → List Int
  | move _ c => [c] | add _ c d => [c, d] | take _ c d => [c, d] | times _ c d => [c, d] | get _ c => [c] | set b c => [b, c] | say b => [b] | ifr b _ => [b] | _ => []
def ends : Row → Bool
  | go .. => true | ifr .. => true | stop => true | _ => false
def goes : Row → Bool
  | go .. => true | ifr .. => true | _ => false
def stops : Row → Bool
  | stop => true | _ => false
def kind : Row → Nat
  | put .. => 0 | move .. => 1 | add .. => 2 | take .. => 3 | times .. => 4 | get .. => 5 | set .. => 6 | say .. => 7 | rest => 8 | go .. => 9 | ifr .. => 10 | stop => 11
def enc (r : Row) : D := .tup (.str r.word :: r.parts.map D.int)
end Row
def sortZ : Nat → Str
  | 0 => "w" | 1 => "l" | 2 => "n" | _ => "r"
def most (rows : Int) : Nat → Int
  | 0 => 8 | 1 => 8 | 2 => 1000 | _ => rows
def Row.okB (rows : Int) (r : Row) : Bool := (r.parts.zip r.sorts).all fun q => decide (0 ≤ q.1) && decide (q.1 ≤ most rows q.2 - 1)
def wordAt (i : Nat) : Str := (["put", "move", "add", "take", "times", "get", "set", "say", "rest", "go", "if", "stop"] : List Str).getD i Str.empty
theorem wordAt_inj : ∀ i, i < 12 → ∀ j, j < 12 → wordAt i = wordAt j → i = j := by decide +kernel
theorem Row.word_at (r : Row) : r.word = wordAt r.kind := by cases r <;> rfl
theorem Row.kind_lt (r : Row) : r.kind < 12 := by cases r <;> simp [Row.kind]
theorem Row.kind_of {r s : Row} (h : r.word = s.word) : r.kind = s.kind := wordAt_inj _ r.kind_lt _ s.kind_lt (by rw [← Row.word_at, ← Row.word_at, h])
theorem Row.enc_inj {r s : Row} (h : r.enc = s.enc) : r = s := by
  have h2 : (.str r.word :: r.parts.map D.int : List D) = .str s.word :: s.parts.map D.int := D.tup.inj h
  obtain ⟨h3, h4⟩ := List.cons.inj h2
  have hw : r.word = s.word := D.str.inj h3
  have hp : r.parts = s.parts := (List.map_inj_right fun _ _ h => D.int.inj h).mp h4
  have hk := Row.kind_of hw
  clear h h2 h3 h4 hw
  cases r <;> cases s <;> first
    | (simp [Row.kind] at hk; done)
    | (simp only [Row.parts, List.cons.injEq, and_true] at hp; simp [hp])
theorem Row.form_at (r : Row) : tbF.lookup r.word = some (.str r.form) := by cases r <;> rfl
theorem Row.form_sorts (r : Row) : strOf r.form = r.sorts.map fun s => D.str (sortZ s) := by cases r <;> rfl
theorem Row.sorts_len (r : Row) : r.sorts.length = r.parts.length := by cases r <;> rfl
theorem Row.form_len (r : Row) : r.form.length = r.parts.length := by cases r <;> rfl
theorem Row.parts_le (r : Row) : r.parts.length ≤ 3 := by cases r <;> simp [Row.parts]
theorem Row.into_parts {r : Row} {b : Int} (h : r.into = some b) : ∃ t, r.parts = b :: t := by
  cases r <;> simp [Row.into] at h <;> subst h <;> exact ⟨_, rfl⟩
/-! ### mills -/
structure Mill where
  a : Nat
  b : Nat
  c : Nat
  j : Nat
def Mill.enc (t : Mill) : D := .tup [.int t.a, .int t.b, .int t.c, .int t.j]
def Mill.ok (t : Mill) : Prop := t.a ≤ 2 ∧ t.b ≤ 4 ∧ t.c ≤ 4 ∧ t.j ≤ 3
theorem Mill.enc_inj {s t : Mill} (h : s.enc = t.enc) : s = t := by
  have h2 := D.tup.inj h
  simp only [List.cons.injEq, D.int.injEq, and_true, Int.natCast_inj] at h2
  cases s
  cases t
  simp_all
def Row.late (t : Mill) : Row → Nat
  | .put .. => t.a | .move .. => t.a | .add .. => t.a | .take .. => t.a | .times .. => t.c | .get .. => t.b | _ => 0
def optD (o : Option Int) : D := match o with
  | some i => .int i
  | none => .non
/-! ### is_number -/
def f_is_number : SS := sRet (vAnd (op1 (gIsi "int") (vr 0)) (vAnd (vNot (op1 (gIsi "bool") (vr 0))) (chn gLe gLe (vr 1) (vr 0) (vr 2))))
def m_is_number : Fn := run 3 f_is_number
theorem le_is_number (ds : List D) (m : Mem) : LeR m (m_is_number ds m) (run 3 f_is_number ds m) := .same _
def numB (i lo hi : Int) : Bool := decide (lo ≤ i) && decide (i ≤ hi)
theorem is_number_int (i lo hi : Int) (m : Mem) : m_is_number [.int i, .int lo, .int hi] m = .ok (.bl (numB i lo hi)) m := by
  unfold numB
  by_cases h : lo ≤ i
  · have e : (M.bind (asB (.bl (decide (lo ≤ i)))) fun t => if t = true then (fun m => lift (gLe (.int i) (.int hi) m) m) else M.pure (.bl false)) m = .ok (.bl (decide (lo ≤ i) && decide (i ≤ hi))) m := by
      rw [decide_eq_true h]
      rfl
    exact bind_ok (m1 := m) (x := (Fl.rt (.bl (decide (lo ≤ i) && decide (i ≤ hi))), start 3 [.int i, .int lo, .int hi])) (bind_ok (m1 := m) (x := D.bl (decide (lo ≤ i) && decide (i ≤ hi))) e)
  · have e : (M.bind (asB (.bl (decide (lo ≤ i)))) fun t => if t = true then (fun m => lift (gLe (.int i) (.int hi) m) m) else M.pure (.bl false)) m = .ok (.bl (decide (lo ≤ i) && decide (i ≤ hi))) m := by
      rw [decide_eq_false h]
      rfl
    exact bind_ok (m1 := m) (x := (Fl.rt (.bl (decide (lo ≤ i) && decide (i ≤ hi))), start 3 [.int i, .int lo, .int hi])) (bind_ok (m1 := m) (x := D.bl (decide (lo ≤ i) && decide (i ≤ hi))) e)
/-! ### of a row -/
def f_is_end : SS := sRet (op2 gIn (op2 gIx (vr 0) (cn (.int 0))) (tpl (argC (cn (.str (Str.ofString "go"))) (argC (cn (.str (Str.ofString "if"))) (argC (cn (.str (Str.ofString "stop"))) (argN))))))
def m_is_end : Fn := run 1 f_is_end
theorem le_is_end (ds : List D) (m : Mem) : LeR m (m_is_end ds m) (run 1 f_is_end ds m) := .same _
def f_looked_at : SS := sRet (comp (itZp (slc (vr 0) (soS (cn (.int 1))) (soN)) (op1 (gGetK tbF) (op2 gIx (vr 0) (cn (.int 0))))) (gTp [1, 2]) (tV (op2 gEq (vr 2) (cn (.str (Str.ofString "l"))))) (vr 1) [1, 2])
def m_looked_at : Fn := run 3 f_looked_at
theorem le_looked_at (ds : List D) (m : Mem) : LeR m (m_looked_at ds m) (run 3 f_looked_at ds m) := .same _
def f_put_into : SS := sRet (ifE (tV (op2 gEq (slcS (op1 (gGetK tbF) (op2 gIx (vr 0) (cn (.int 0)))) (soN) (soS (cn (.int 1)))) (cn (.str (Str.ofString "w"))))) (op2 gIx (vr 0) (cn (.int 1))) (cn .non))
def m_put_into : Fn := run 1 f_put_into
theorem le_put_into (ds : List D) (m : Mem) : LeR m (m_put_into ds m) (run 1 f_put_into ds m) := .same _
theorem is_end_row (r : Row) (m : Mem) : m_is_end [r.enc] m = .ok (.bl r.ends) m := by cases r <;> rfl
theorem put_into_row (r : Row) (m : Mem) : m_put_into [r.enc] m = .ok (optD r.into) m := by cases r <;> rfl
theorem looked_at_row (r : Row) (m : Mem) : m_looked_at [r.enc] m = .ok (.lst (r.looks.map D.int)) m := by cases r <;> rfl
def f_late : SS := sSeq (sIf (tV (op2 gIsN (callN 1 m_put_into (argC (vr 0) (argN))) (cn .non))) (sRet (cn (.int 0))) (sNext)) (sRet (op2 gIx (vr 1) (dget2 (dspE [(cn (.str (Str.ofString "get")), cn (.int 1)), (cn (.str (Str.ofString "times")), cn (.int 2))]) (op2 gIx (vr 0) (cn (.int 0))) (cn (.int 0)))))
abbrev encRM (q : Row × Mill) : List D := [q.1.enc, q.2.enc]
theorem encRM_inj (a b : Row × Mill) (h : encRM a = encRM b) : a = b := by
  obtain ⟨h1, h2⟩ := List.cons.inj h
  obtain ⟨h3, _⟩ := List.cons.inj h2
  exact Prod.ext (Row.enc_inj h1) (Mill.enc_inj h3)
noncomputable def m_late : Fn := spec encRM fun q => .int (q.1.late q.2)
theorem late_row (r : Row) (t : Mill) (m : Mem) : m_late [r.enc, t.enc] m = .ok (.int (r.late t)) m := spec_at encRM_inj (r, t) m
theorem late_run (r : Row) (t : Mill) (m : Mem) : ∃ m2, run 2 f_late (encRM (r, t)) m = .ok (.int (r.late t)) m2 ∧ Keep m m2 := by
  cases h : r.into with
  | none =>
    refine ⟨m, ?_, .refl m⟩
    cases r <;> first
      | (cases h; done)
      | rfl
  | some b =>
    have h1 : sIf (tV (op2 gIsN (callN 1 m_put_into (argC (vr 0) (argN))) (cn .non))) (sRet (cn (.int 0))) (sNext) (start 2 (encRM (r, t))) m = .ok (.nx, start 2 (encRM (r, t))) m := by
      cases r <;> first
        | (cases h; done)
        | rfl
    refine ⟨_, run_rt (m1 := m.new (.dct (mergeD [] [(.inr "get", .int 1), (.inr "times", .int 2)]))) (ρ1 := start 2 (encRM (r, t))) ((seq_ok h1).trans (ret_ok (op2_ok (m1 := m) (x := t.enc) rfl (dget2_dsp (m1 := m) (kd := .str r.word) (key := .inr r.word) (xd := .int 0) rfl rfl (by decide) ?_ rfl rfl) ?_))), .new _ _⟩
    · cases r <;> rfl
    · cases r <;> first
        | (cases h; done)
        | rfl
theorem le_late (ds : List D) (m : Mem) : LeR m (m_late ds m) (run 2 f_late ds m) := spec_le (fun a m => late_run a.1 a.2 m) (fun _ _ => rfl) ds m
/-! ### how far behind -/
def inP (o : Option Int) (xs : List Int) : Bool := match o with
  | some g => xs.contains g
  | none => false
def sameP (a b : Option Int) : Bool := match a, b with
  | some g, some h => decide (g = h)
  | _, _ => false
def pairP (r s : Row) : Bool := match r, s with
  | .set .., .get .. => true
  | .get .., .set .. => true
  | .set .., .set .. => true
  | .say .., .say .. => true
  | _, _ => false
def one1 (b : Bool) (i : Int) : List Int := if b = true then [i] else []
def far1 (r s : Row) (t : Mill) : List Int := one1 (inP r.into s.looks) (r.late t + 1)
def far2 (r s : Row) (t : Mill) : List Int := one1 (sameP r.into s.into) (if (r.late t : Int) - s.late t + 1 > 1 then (r.late t : Int) - s.late t + 1 else 1)
def far3 (r s : Row) (t : Mill) : List Int := one1 (inP s.into r.looks) 1
def far4 (r s : Row) (t : Mill) : List Int := one1 (pairP r s || s.stops) 1
def far5 (r s : Row) (t : Mill) : List Int := one1 s.goes ((r.late t : Int) - t.j)
def farL (r s : Row) (t : Mill) : List Int := far1 r s t ++ far2 r s t ++ far3 r s t ++ far4 r s t ++ far5 r s t
def far (r s : Row) (t : Mill) : D := optD (maxL (farL r s t))
theorem gIn_ints (g : Int) (xs : List Int) (m : Mem) : gIn (.int g) (.lst (xs.map D.int)) m = some (.bl (xs.contains g)) := by
  show (inOf (.int g) (xs.map D.int)).map D.bl = _
  rw [inOf_ints]
  rfl
theorem c_in {vg vw : SE} {ρ : Ev} {m : Mem} {o : Option Int} {s : Row} (hg : vg ρ m = .ok (optD o) m) (hr : vw ρ m = .ok s.enc m) : LB.tAnd (tV (op2 gNotN vg (cn .non))) (tV (op2 gIn vg (callN 1 m_looked_at (argC vw argN)))) ρ m = .ok (inP o s.looks) m := by
  cases o with
  | none => exact tAnd_ok1 (x := false) (y := false) (tV_ok (op2_ok hg rfl rfl)) fun h => by cases h
  | some g => exact tAnd_ok1 (x := true) (y := s.looks.contains g) (tV_ok (op2_ok hg rfl rfl)) fun _ => tV_ok (op2_ok hg ((callN_ok (arg1_ok hr) rfl).trans (looked_at_row s m)) (gIn_ints g _ m))
theorem c_same {vg vh : SE} {ρ : Ev} {m : Mem} {o u : Option Int} (hg : vg ρ m = .ok (optD o) m) (hh : vh ρ m = .ok (optD u) m) : LB.tAnd (tV (op2 gNotN vg (cn .non))) (tV (op2 gEq vg vh)) ρ m = .ok (sameP o u) m := by
  cases o with
  | none => exact tAnd_ok1 (x := false) (y := false) (tV_ok (op2_ok hg rfl rfl)) fun h => by cases h
  | some g =>
    cases u with
    | none => exact tAnd_ok1 (x := true) (y := false) (tV_ok (op2_ok hg rfl rfl)) fun _ => tV_ok (op2_ok hg hh rfl)
    | some h => exact tAnd_ok1 (x := true) (y := decide (g = h)) (tV_ok (op2_ok hg rfl rfl)) fun _ => tV_ok (op2_ok hg hh rfl)
theorem ix0_row (r : Row) (m : Mem) : gIx r.enc (.int 0) m = some (.str r.word) := by cases r <;> rfl
theorem ix1_row {r : Row} {b : Int} (h : r.into = some b) (m : Mem) : gIx r.enc (.int 1) m = some (.int b) := by
  cases r <;> first
    | (cases h; done)
    | (cases h; rfl)
def pairK (i j : Nat) : Bool := (i == 6 && j == 5) || (i == 5 && j == 6) || (i == 6 && j == 6) || (i == 7 && j == 7)
theorem pair_kind (r s : Row) : pairP r s = pairK r.kind s.kind := by cases r <;> cases s <;> rfl
theorem pair_in : ∀ i, i < 12 → ∀ j, j < 12 → inOf (.tup [.str (wordAt i), .str (wordAt j)]) [.tup [.str "set", .str "get"], .tup [.str "get", .str "set"], .tup [.str "set", .str "set"], .tup [.str "say", .str "say"]] = some (pairK i j) := by decide +kernel
theorem c_goes {vw : SE} {ρ : Ev} {m : Mem} {s : Row} (hr : vw ρ m = .ok s.enc m) : tV (op2 gIn (op2 gIx vw (cn (.int 0))) (tpl (argC (cn (.str (Str.ofString "go"))) (argC (cn (.str (Str.ofString "if"))) (argN))))) ρ m = .ok s.goes m := by
  refine tV_ok (op2_ok (op2_ok hr rfl (ix0_row s m)) (tpl_ok (xs := [.str "go", .str "if"]) rfl (by decide)) ?_)
  cases s <;> rfl
theorem c_stop {vw : SE} {ρ : Ev} {m : Mem} {s : Row} (hr : vw ρ m = .ok s.enc m) : tV (op2 gEq (op2 gIx vw (cn (.int 0))) (cn (.str (Str.ofString "stop")))) ρ m = .ok s.stops m := by
  refine tV_ok (op2_ok (op2_ok hr rfl (ix0_row s m)) rfl ?_)
  cases s <;> rfl
theorem c_pair {vp vw : SE} {ρ : Ev} {m : Mem} {r s : Row} (hp : vp ρ m = .ok (.tup [.str r.word, .str s.word]) m) (hr : vw ρ m = .ok s.enc m) :
    LB.tOr (tV (op2 gIn vp (tpl (argC (tpl (argC (cn (.str (Str.ofString "set"))) (argC (cn (.str (Str.ofString "get"))) (argN)))) (argC (tpl (argC (cn (.str (Str.ofString "get"))) (argC (cn (.str (Str.ofString "set"))) (argN)))) (argC (tpl (argC (cn (.str (Str.ofString "set"))) (argC (cn (.str (Str.ofString "set"))) (argN)))) (argC (tpl (argC (cn (.str (Str.ofString "say"))) (argC (cn (.str (Str.ofString "say"))) (argN)))) (argN)))))))) (tV (op2 gEq (op2 gIx vw (cn (.int 0))) (cn (.str (Str.ofString "stop"))))) ρ m = .ok (pairP r s || s.stops) m := by
  refine tOr_ok1 (tV_ok (op2_ok hp (m2 := m) (y := .tup [.tup [.str "set", .str "get"], .tup [.str "get", .str "set"], .tup [.str "set", .str "set"], .tup [.str "say", .str "say"]]) rfl ?_)) fun _ => c_stop hr
  show (inOf (.tup [.str r.word, .str s.word]) [.tup [.str "set", .str "get"], .tup [.str "get", .str "set"], .tup [.str "set", .str "set"], .tup [.str "say", .str "say"]]).map D.bl = _
  rw [r.word_at, s.word_at, pair_in _ r.kind_lt _ s.kind_lt, pair_kind]
  rfl
theorem farL_len (r s : Row) (t : Mill) : (farL r s t).length ≤ 5 := by
  have h (b : Bool) (i : Int) : (one1 b i).length ≤ 1 := by
    cases b <;> simp [one1]
  unfold farL far1 far2 far3 far4 far5
  simp only [List.length_append]
  have h1 := h (inP r.into s.looks) (r.late t + 1)
  have h2 := h (sameP r.into s.into) (if (r.late t : Int) - s.late t + 1 > 1 then (r.late t : Int) - s.late t + 1 else 1)
  have h3 := h (inP s.into r.looks) 1
  have h4 := h (pairP r s || s.stops) 1
  have h5 := h s.goes ((r.late t : Int) - t.j)
  omega
/-- the end: the greatest of what was found, None for none -/
theorem far_end {v : SE} {ρ : Ev} {m : Mem} {xs : List Int} (hv : v ρ (m.new (.lst (xs.map D.int))) = .ok (.loc m.n) (m.new (.lst (xs.map D.int)))) :
    sRet (ifE (tV (op2 gNe v (lsl (argN)))) (opN gMax (argC v (argN))) (cn .non)) ρ (m.new (.lst (xs.map D.int))) = .ok (.rt (optD (maxL xs)), ρ) (m.new (.lst (xs.map D.int))) := by
  refine ret_ok ?_
  have hl := lstOf_new m (xs.map D.int)
  have h1 : tV (op2 gNe v (lsl argN)) ρ (m.new (.lst (xs.map D.int))) = .ok (!xs.isEmpty) (m.new (.lst (xs.map D.int))) := by
    refine tV_ok (op2_ok hv (lsl_ok (xs := []) rfl (by decide)) ?_)
    unfold gNe
    rw [eqOf_nil hl]
    rfl
  rw [ifE_ok h1]
  cases xs with
  | nil => rfl
  | cons i r =>
    refine opN_ok (m1 := m.new (.lst ((i :: r).map D.int))) (arg1_ok hv) ?_
    show ((lstOf (m.new (.lst ((i :: r).map D.int))) (.loc m.n)).bind fun xs => (intsOf xs).bind fun ns => (maxL ns).map D.int) = _
    rw [hl]
    show ((intsOf ((i :: r).map D.int)).bind fun ns => (maxL ns).map D.int) = _
    rw [intsOf_map]
    show (maxL (i :: r)).map D.int = _
    have hm : ∃ j, maxL (i :: r) = some j := by
      unfold maxL
      split <;> exact ⟨_, rfl⟩
    obtain ⟨j, hj⟩ := hm
    rw [hj]
    rfl
theorem map_one (L : List Int) (b : Bool) (i : Int) : L.map D.int ++ (if b = true then [D.int i] else []) = (L ++ one1 b i).map D.int := by
  cases b <;> simp [one1]
/-- found.append of an int, under a test -/
theorem app_int {c : SB} {l e : SE} {ρ : Ev} {m : Mem} {L : List Int} {b : Bool} {i : Int} (hc : c ρ (m.new (.lst (L.map D.int))) = .ok b (m.new (.lst (L.map D.int)))) (hl : l ρ (m.new (.lst (L.map D.int))) = .ok (.loc m.n) (m.new (.lst (L.map D.int)))) (he : b = true → e ρ (m.new (.lst (L.map D.int))) = .ok (.int i) (m.new (.lst (L.map D.int)))) (hL : L.length < sizeLine) :
    sIf c (sExp (appE l e)) sNext ρ (m.new (.lst (L.map D.int))) = .ok (.nx, ρ) (m.new (.lst ((L ++ one1 b i).map D.int))) := by
  rw [← map_one]
  exact app_if hc hl he (by rw [List.length_map]; exact hL)
def f_far_of : SS := sSeq (sAsg (lsm (argN)) (gNm 3)) (sSeq (sPar 4 5 (callN 1 m_put_into (argC (vr 0) (argN))) (callN 1 m_put_into (argC (vr 1) (argN)))) (sSeq (sIf (LB.tAnd (tV (op2 gNotN (vr 4) (cn .non))) (tV (op2 gIn (vr 4) (callN 1 m_looked_at (argC (vr 1) (argN)))))) (sExp (appE (vr 3) (op2 gAdd (callN 2 m_late (argC (vr 0) (argC (vr 2) (argN)))) (cn (.int 1))))) (sNext)) (sSeq (sIf (LB.tAnd (tV (op2 gNotN (vr 4) (cn .non))) (tV (op2 gEq (vr 4) (vr 5)))) (sExp (appE (vr 3) (opN gMax2 (argC (cn (.int 1)) (argC (op2 gAdd (op2 gSub (callN 2 m_late (argC (vr 0) (argC (vr 2) (argN)))) (callN 2 m_late (argC (vr 1) (argC (vr 2) (argN))))) (cn (.int 1))) (argN)))))) (sNext)) (sSeq (sIf (LB.tAnd (tV (op2 gNotN (vr 5) (cn .non))) (tV (op2 gIn (vr 5) (callN 1 m_looked_at (argC (vr 0) (argN)))))) (sExp (appE (vr 3) (cn (.int 1)))) (sNext)) (sSeq (sAsg (tpl (argC (op2 gIx (vr 0) (cn (.int 0))) (argC (op2 gIx (vr 1) (cn (.int 0))) (argN)))) (gNm 6)) (sSeq (sIf (LB.tOr (tV (op2 gIn (vr 6) (tpl (argC (tpl (argC (cn (.str (Str.ofString "set"))) (argC (cn (.str (Str.ofString "get"))) (argN)))) (argC (tpl (argC (cn (.str (Str.ofString "get"))) (argC (cn (.str (Str.ofString "set"))) (argN)))) (argC (tpl (argC (cn (.str (Str.ofString "set"))) (argC (cn (.str (Str.ofString "set"))) (argN)))) (argC (tpl (argC (cn (.str (Str.ofString "say"))) (argC (cn (.str (Str.ofString "say"))) (argN)))) (argN)))))))) (tV (op2 gEq (op2 gIx (vr 1) (cn (.int 0))) (cn (.str (Str.ofString "stop")))))) (sExp (appE (vr 3) (cn (.int 1)))) (sNext)) (sSeq (sIf (tV (op2 gIn (op2 gIx (vr 1) (cn (.int 0))) (tpl (argC (cn (.str (Str.ofString "go"))) (argC (cn (.str (Str.ofString "if"))) (argN)))))) (sExp (appE (vr 3) (op2 gSub (callN 2 m_late (argC (vr 0) (argC (vr 2) (argN)))) (op2 gIx (vr 2) (cn (.int 3)))))) (sNext)) (sRet (ifE (tV (op2 gNe (vr 3) (lsl (argN)))) (opN gMax (argC (vr 3) (argN))) (cn .non))))))))))
abbrev encRRM (q : Row × Row × Mill) : List D := [q.1.enc, q.2.1.enc, q.2.2.enc]
theorem encRRM_inj (a b : Row × Row × Mill) (h : encRRM a = encRRM b) : a = b := by
  obtain ⟨h1, h2⟩ := List.cons.inj h
  obtain ⟨h3, h4⟩ := List.cons.inj h2
  obtain ⟨h5, _⟩ := List.cons.inj h4
  exact Prod.ext (Row.enc_inj h1) (Prod.ext (Row.enc_inj h3) (Mill.enc_inj h5))
noncomputable def m_far_of : Fn := spec encRRM fun q => far q.1 q.2.1 q.2.2
theorem far_of_row (r s : Row) (t : Mill) (m : Mem) : m_far_of [r.enc, s.enc, t.enc] m = .ok (far r s t) m := spec_at encRRM_inj (r, s, t) m
theorem late_ok {a b : SE} {ρ : Ev} {m : Mem} {r : Row} {t : Mill} (ha : a ρ m = .ok r.enc m) (hb : b ρ m = .ok t.enc m) : callN 2 m_late (argC a (argC b argN)) ρ m = .ok (.int (r.late t)) m := (callN_ok (arg2_ok ha hb) rfl).trans (late_row r t m)
theorem far_of_run (r s : Row) (t : Mill) (m : Mem) : ∃ m2, run 7 f_far_of (encRRM (r, s, t)) m = .ok (far r s t) m2 ∧ Keep m m2 := by
  have hz : 5 < sizeLine := by decide
  have l1 : (far1 r s t).length ≤ 1 := by unfold far1 one1; split <;> simp
  have l2 : (far2 r s t).length ≤ 1 := by unfold far2 one1; split <;> simp
  have l3 : (far3 r s t).length ≤ 1 := by unfold far3 one1; split <;> simp
  have l4 : (far4 r s t).length ≤ 1 := by unfold far4 one1; split <;> simp
  refine ⟨m.new (.lst ((farL r s t).map D.int)), run_rt (ρ1 := [some r.enc, some s.enc, some t.enc, some (.loc m.n), some (optD r.into), some (optD s.into), some (.tup [.str r.word, .str s.word])]) ?_, .new _ _⟩
  refine (seq_ok (asg_ok (m1 := m.new (.lst (([] : List Int).map D.int))) (lsm_ok (m1 := m) (xs := []) rfl (by decide)) rfl)).trans ?_
  refine (seq_ok (par_ok ((callN_ok (arg1_ok rfl) rfl).trans (put_into_row r _)) ((callN_ok (arg1_ok rfl) rfl).trans (put_into_row s _)))).trans ?_
  refine (seq_ok (app_int (L := []) (i := r.late t + 1) (c_in rfl rfl) rfl (fun _ => op2_ok (late_ok rfl rfl) rfl rfl) (by decide))).trans ?_
  refine (seq_ok (app_int (i := if (r.late t : Int) - s.late t + 1 > 1 then (r.late t : Int) - s.late t + 1 else 1) (c_same rfl rfl) rfl (fun _ => opN_ok (arg2_ok rfl (op2_ok (op2_ok (late_ok rfl rfl) (late_ok rfl rfl) rfl) rfl rfl)) rfl) ?_)).trans ?_
  · show ([] ++ far1 r s t).length < sizeLine
    rw [List.nil_append]
    omega
  refine (seq_ok (app_int (i := 1) (c_in rfl rfl) rfl (fun _ => rfl) ?_)).trans ?_
  · show ([] ++ far1 r s t ++ far2 r s t).length < sizeLine
    simp only [List.nil_append, List.length_append]
    omega
  refine (seq_ok (asg_ok (tpl_ok (arg2_ok (op2_ok rfl rfl (ix0_row r _)) (op2_ok rfl rfl (ix0_row s _))) (show 2 ≤ 1000 by decide)) rfl)).trans ?_
  refine (seq_ok (app_int (i := 1) (c_pair rfl rfl) rfl (fun _ => rfl) ?_)).trans ?_
  · show ([] ++ far1 r s t ++ far2 r s t ++ far3 r s t).length < sizeLine
    simp only [List.nil_append, List.length_append]
    omega
  refine (seq_ok (app_int (i := (r.late t : Int) - t.j) (c_goes rfl) rfl (fun _ => op2_ok (late_ok rfl rfl) (op2_ok rfl rfl rfl) rfl) ?_)).trans ?_
  · show ([] ++ far1 r s t ++ far2 r s t ++ far3 r s t ++ far4 r s t).length < sizeLine
    simp only [List.nil_append, List.length_append]
    omega
  exact far_end rfl
theorem optD_blw (o : Option Int) (n : Nat) : (optD o).blw n = true := by cases o <;> rfl
theorem le_far_of (ds : List D) (m : Mem) : LeR m (m_far_of ds m) (run 7 f_far_of ds m) := spec_le (fun a m => far_of_run a.1 a.2.1 a.2.2 m) (fun _ n => optD_blw _ n) ds m
/-! ### all ties of a piece -/
def encP (p : List Row) : D := .tup (p.map Row.enc)
def tieAt (p : List Row) (t : Mill) (i j : Nat) : List D := match p[i]?, p[j]? with
  | some r, some s => match maxL (farL r s t) with
    | some f => [.tup [.int (i : Nat), .int (j : Nat), .int f]]
    | none => []
  | _, _ => []
def rowTies (p : List Row) (t : Mill) (i k : Nat) : List D := (List.range k).flatMap fun d => tieAt p t i (i + 1 + d)
def tiesL (p : List Row) (t : Mill) (i : Nat) : List D := (List.range i).flatMap fun a => rowTies p t a (p.length - (a + 1))
theorem tieAt_le (p : List Row) (t : Mill) (i j : Nat) : (tieAt p t i j).length ≤ 1 := by
  unfold tieAt
  split
  · split <;> simp
  · simp
theorem rowTies_le (p : List Row) (t : Mill) (i k : Nat) : (rowTies p t i k).length ≤ k := by
  have h := flatMap_le (fun d => tieAt p t i (i + 1 + d)) 1 (fun d => tieAt_le p t i _) k
  rw [Nat.mul_one] at h
  exact h
theorem tiesL_le (p : List Row) (t : Mill) (i : Nat) : (tiesL p t i).length ≤ i * p.length := flatMap_le _ _ (fun a => Nat.le_trans (rowTies_le p t a _) (Nat.sub_le _ _)) i
theorem encP_at {p : List Row} {i : Nat} (h : i < p.length) (m : Mem) : gIx (encP p) (.int i) m = some (p[i]).enc := gIx_tup (by rw [List.getElem?_map, List.getElem?_eq_getElem h]; rfl) m
def tieBody (F : Fn) : SS := sSeq (sAsg (callN 3 F (argC (op2 gIx (vr 0) (vr 3)) (argC (op2 gIx (vr 0) (vr 4)) (argC (vr 1) (argN))))) (gNm 5)) (sIf (tV (op2 gNotN (vr 5) (cn .non))) (sExp (appE (vr 2) (tpl (argC (vr 3) (argC (vr 4) (argC (vr 5) (argN))))))) (sNext))
def tieFor (F : Fn) : SS := sFor (itRng1 (argC (opN gLen (argC (vr 0) (argN))) (argN))) (gNm 3) (sFor (itRng2 (argC (op2 gAdd (vr 3) (cn (.int 1))) (argC (opN gLen (argC (vr 0) (argN))) (argN)))) (gNm 4) (tieBody F))
theorem tie_body {F : Fn} {p : List Row} {t : Mill} (hF : ∀ r s m, F [r.enc, s.enc, t.enc] m = .ok (far r s t) m) {i j : Nat} (hi : i < p.length) (hj : j < p.length) {c : Option D} {m : Mem} {L : List D} (hL : L.length < sizeLine) :
    ∃ c2, tieBody F [some (encP p), some t.enc, some (.loc m.n), some (.int (i : Nat)), some (.int (j : Nat)), c] (m.new (.lst L)) = .ok (.nx, [some (encP p), some t.enc, some (.loc m.n), some (.int (i : Nat)), some (.int (j : Nat)), c2]) (m.new (.lst (L ++ tieAt p t i j))) := by
  refine ⟨some (far p[i] p[j] t), ?_⟩
  refine (seq_ok (asg_ok (((callN_ok (arg3_ok (op2_ok rfl rfl (encP_at hi _)) (op2_ok rfl rfl (encP_at hj _)) rfl) rfl).trans (hF _ _ _))) rfl)).trans ?_
  have e : tieAt p t i j = match maxL (farL p[i] p[j] t) with
    | some f => [.tup [.int (i : Nat), .int (j : Nat), .int f]]
    | none => [] := by
    unfold tieAt
    rw [List.getElem?_eq_getElem hi, List.getElem?_eq_getElem hj]
  rw [e]
  unfold far
  cases maxL (farL p[i] p[j] t) with
  | none =>
    have z := app_if (c := tV (op2 gNotN (vr 5) (cn .non))) (l := vr 2) (e := tpl (argC (vr 3) (argC (vr 4) (argC (vr 5) (argN))))) (ρ := [some (encP p), some t.enc, some (.loc m.n), some (.int (i : Nat)), some (.int (j : Nat)), some (optD none)]) (m := m) (L := L) (b := false) (d := .non) rfl rfl (fun h => by cases h) hL
    exact z
  | some f =>
    have z := app_if (c := tV (op2 gNotN (vr 5) (cn .non))) (l := vr 2) (e := tpl (argC (vr 3) (argC (vr 4) (argC (vr 5) (argN))))) (ρ := [some (encP p), some t.enc, some (.loc m.n), some (.int (i : Nat)), some (.int (j : Nat)), some (optD (some f))]) (m := m) (L := L) (b := true) (d := .tup [.int (i : Nat), .int (j : Nat), .int f]) rfl rfl (fun _ => rfl) hL
    exact z
theorem tie_for {F : Fn} {p : List Row} {t : Mill} (hF : ∀ r s m, F [r.enc, s.enc, t.enc] m = .ok (far r s t) m) (hp : p.length ≤ 2000) {a b c : Option D} {m : Mem} {q : Fl × Ev → Mem → Prop} {e : Er → Mem → Prop}
    (hq : ∀ a b c, q (.nx, [some (encP p), some t.enc, some (.loc m.n), a, b, c]) (m.new (.lst (tiesL p t p.length)))) : WP (tieFor F [some (encP p), some t.enc, some (.loc m.n), a, b, c] (m.new (.lst []))) q e := by
  have hlen : (p.map Row.enc).length = p.length := List.length_map _
  have hsz : p.length * p.length < sizeLine := Nat.lt_of_le_of_lt (Nat.mul_le_mul hp hp) (by decide)
  unfold tieFor
  refine for_rng (lo := 0) (n := p.length) (m := m.new (.lst [])) (I := fun i ρ m' => ∃ a b c, ρ = [some (encP p), some t.enc, some (.loc m.n), a, b, c] ∧ m' = m.new (.lst (tiesL p t i))) ?_ ⟨a, b, c, rfl, rfl⟩ (fun i ρ m' hi h => ?_) fun ρ m' h => ?_
  · have z := it1_ok (a := argC (opN gLen (argC (vr 0) (argN))) (argN)) (ρ := [some (encP p), some t.enc, some (.loc m.n), a, b, c]) (m := m.new (.lst [])) (m1 := m.new (.lst [])) (hi := (p.map Row.enc).length) (arg1_ok (len_tup rfl)) (small62_nat (by rw [hlen]; omega))
    rw [hlen] at z
    exact z
  · obtain ⟨a, b, c, rfl, rfl⟩ := h
    refine ⟨[some (encP p), some t.enc, some (.loc m.n), some (.int (i : Nat)), b, c], by rw [Int.zero_add]; rfl, ?_⟩
    refine for_rng (lo := ((i : Nat) : Int) + 1) (n := p.length - (i + 1)) (m := m.new (.lst (tiesL p t i))) (I := fun k ρ m' => ∃ b c, ρ = [some (encP p), some t.enc, some (.loc m.n), some (.int (i : Nat)), b, c] ∧ m' = m.new (.lst (tiesL p t i ++ rowTies p t i k))) ?_ ⟨b, c, rfl, by rw [show rowTies p t i 0 = [] from rfl, List.append_nil]⟩ (fun k ρ m' hk h => ?_) fun ρ m' h => ?_
    · have z := it2_ok (a := argC (op2 gAdd (vr 3) (cn (.int 1))) (argC (opN gLen (argC (vr 0) (argN))) (argN))) (ρ := [some (encP p), some t.enc, some (.loc m.n), some (.int (i : Nat)), b, c]) (m := m.new (.lst (tiesL p t i))) (m1 := m.new (.lst (tiesL p t i))) (lo := ((i : Nat) : Int) + 1) (hi := (p.map Row.enc).length) (arg2_ok (op2_ok rfl rfl rfl) (len_tup rfl)) (small62_nat (n := i + 1) (by omega)) (small62_nat (by rw [hlen]; omega))
      rw [hlen] at z
      have e : (((p.length : Nat) : Int) - (((i : Nat) : Int) + 1)).toNat = p.length - (i + 1) := by omega
      rw [e] at z
      exact z
    · obtain ⟨b, c, rfl, rfl⟩ := h
      have e : ((i : Nat) : Int) + 1 + (k : Nat) = ((i + 1 + k : Nat) : Int) := by omega
      refine ⟨[some (encP p), some t.enc, some (.loc m.n), some (.int (i : Nat)), some (.int ((i + 1 + k : Nat) : Int)), c], by rw [e]; rfl, ?_⟩
      have hL : (tiesL p t i ++ rowTies p t i k).length < sizeLine := by
        rw [List.length_append]
        have h1 := tiesL_le p t i
        have h2 := rowTies_le p t i k
        have h3 : i * p.length + p.length ≤ p.length * p.length := by
          rw [← Nat.succ_mul]
          exact Nat.mul_le_mul_right _ hi
        omega
      obtain ⟨c2, hb⟩ := tie_body hF (i := i) (j := i + 1 + k) (c := c) hi (by omega) (m := m) hL
      refine .eq hb ?_
      refine ⟨_, c2, rfl, ?_⟩
      rw [List.append_assoc]
      unfold rowTies
      rw [flatMap_succ]
    · obtain ⟨b, c, rfl, rfl⟩ := h
      refine ⟨_, b, c, rfl, ?_⟩
      unfold tiesL
      rw [flatMap_succ]
  · obtain ⟨a, b, c, rfl, rfl⟩ := h
    exact hq a b c
def f_ties_of : SS := sSeq (sAsg (lsm (argN)) (gNm 2)) (sSeq (sFor (itRng1 (argC (opN gLen (argC (vr 0) (argN))) (argN))) (gNm 3) (sFor (itRng2 (argC (op2 gAdd (vr 3) (cn (.int 1))) (argC (opN gLen (argC (vr 0) (argN))) (argN)))) (gNm 4) (sSeq (sAsg (callN 3 m_far_of (argC (op2 gIx (vr 0) (vr 3)) (argC (op2 gIx (vr 0) (vr 4)) (argC (vr 1) (argN))))) (gNm 5)) (sIf (tV (op2 gNotN (vr 5) (cn .non))) (sExp (appE (vr 2) (tpl (argC (vr 3) (argC (vr 4) (argC (vr 5) (argN))))))) (sNext))))) (sRet (vr 2)))
def m_ties_of : Fn := run 6 f_ties_of
theorem le_ties_of (ds : List D) (m : Mem) : LeR m (m_ties_of ds m) (run 6 f_ties_of ds m) := .same _
theorem ties_of_run (p : List Row) (t : Mill) (hp : p.length ≤ 2000) (m : Mem) : m_ties_of [encP p, t.enc] m = .ok (.loc m.n) (m.new (.lst (tiesL p t p.length))) := by
  unfold m_ties_of
  refine ok_of_wp ?_
  refine run_wp ?_
  unfold f_ties_of
  refine seq_then (asg_ok (lsm_ok (m1 := m) (xs := []) rfl (by decide)) rfl) ?_
  refine seq_wp (tie_for (F := m_far_of) (fun r s m => far_of_row r s t m) hp fun a b c => ?_)
  exact .ok ⟨rfl, rfl⟩
/-! ### is_row -/
def kvM (rows : Int) : List (KeyS × D) := [(.inr "w", .int 8), (.inr "l", .int 8), (.inr "n", .int 1000), (.inr "r", .int rows)]
theorem kvM_at (rows : Int) (s : Nat) : valK (mergeD [] (kvM rows)) (.inr (sortZ s)) = some (.int (most rows s)) := match s with
  | 0 => rfl
  | 1 => rfl
  | 2 => rfl
  | _ + 3 => rfl
def pairD (q : Int × Nat) : D := .tup [.int q.1, .str (sortZ q.2)]
def badQ (rows : Int) (q : Int × Nat) : Bool := !numB q.1 0 (most rows q.2 - 1)
def pRow (rows : Int) (d : D) : Bool := match d with
  | .tup [.int v, .str z] => (match valK (mergeD [] (kvM rows)) (.inr z) with
    | some (.int i) => !numB v 0 (i - 1)
    | _ => false)
  | _ => false
def fRow (d : D) : D := match d with
  | .tup [x, _] => x
  | _ => .non
theorem pRow_at (rows : Int) (q : Int × Nat) : pRow rows (pairD q) = badQ rows q := by
  show (match valK (mergeD [] (kvM rows)) (.inr (sortZ q.2)) with
    | some (.int i) => !numB q.1 0 (i - 1)
    | _ => false) = _
  rw [kvM_at]
  rfl
theorem zip_pairD : ∀ (xs : List Int) (ys : List Nat), List.zipWith (fun x y => D.tup [x, y]) (xs.map D.int) (ys.map fun s => D.str (sortZ s)) = (xs.zip ys).map pairD
  | [], _ => by simp
  | _ :: _, [] => by simp
  | x :: xs, y :: ys => by
    rw [List.map_cons, List.map_cons, List.zipWith_cons_cons, List.zip_cons_cons, List.map_cons, zip_pairD xs ys]
    rfl
theorem filt_pairD (rows : Int) : ∀ qs : List (Int × Nat), (((qs.map pairD).filter (pRow rows)).map fRow) = ((qs.filter (badQ rows)).map fun q => q.1).map D.int
  | [] => rfl
  | q :: qs => by
    rw [List.map_cons, List.filter_cons, List.filter_cons, pRow_at]
    cases badQ rows q with
    | true =>
      simp only [if_true, List.map_cons]
      rw [filt_pairD rows qs]
      rfl
    | false =>
      simp only [Bool.false_eq_true, if_false]
      exact filt_pairD rows qs
def badL (r : Row) (rows : Int) : List Int := ((r.parts.zip r.sorts).filter (badQ rows)).map fun q => q.1
theorem badL_nil (r : Row) (rows : Int) : (badL r rows).isEmpty = r.okB rows := by
  unfold badL Row.okB
  rw [List.isEmpty_map]
  generalize r.parts.zip r.sorts = qs
  induction qs with
  | nil => rfl
  | cons q qs ih =>
    rw [List.filter_cons, List.all_cons, ← ih]
    have e : badQ rows q = !(decide (0 ≤ q.1) && decide (q.1 ≤ most rows q.2 - 1)) := rfl
    rw [e]
    cases (decide (0 ≤ q.1) && decide (q.1 ≤ most rows q.2 - 1)) <;> simp
theorem word_plain : ∀ i, i < 12 → (D.str (wordAt i)).plain = true := by decide +kernel
theorem row_plain (r : Row) : r.enc.plain = true := by
  show ((D.str r.word).plain && plains (r.parts.map D.int)) = true
  rw [plains_ints, r.word_at, word_plain _ r.kind_lt]
  rfl
theorem row_dep (r : Row) : r.enc.dep = 1 := by
  show max 0 (deps (r.parts.map D.int)) + 1 = 1
  rw [deps_ints]
  rfl
theorem row_ne_nil (r : Row) (m : Mem) : gEq r.enc (.tup []) m = some (.bl false) := by
  have h : eqDeep m r.enc (.tup []) = some false := by
    unfold eqDeep
    have e1 : res m r.enc = r.enc := rfl
    have e2 : res m (.tup []) = .tup [] := rfl
    rw [e1, e2, if_pos ⟨row_plain r, rfl, by rw [row_dep]; decide, by decide⟩]
    rfl
  show (eqDeep m r.enc (.tup [])).map D.bl = _
  rw [h]
  rfl
theorem numB_ok {i lo hi : Int} (h1 : lo ≤ i) (h2 : i ≤ hi) : numB i lo hi = true := by
  unfold numB
  rw [decide_eq_true h1, decide_eq_true h2]
  rfl
def f_is_row : SS := sSeq (sIf (LB.tOr (LB.tNot (tV (op1 (gIsi "tuple") (vr 0)))) (LB.tOr (tV (op2 gEq (vr 0) (tpl (argN)))) (LB.tOr (LB.tNot (tV (op1 (gIsi "str") (op2 gIx (vr 0) (cn (.int 0)))))) (tV (op1 (gNotInK tbF) (op2 gIx (vr 0) (cn (.int 0)))))))) (sRet (cn (.bl false))) (sNext)) (sSeq (sAsg (dspE [(cn (.str (Str.ofString "w")), cn (.int 8)), (cn (.str (Str.ofString "l")), cn (.int 8)), (cn (.str (Str.ofString "n")), cn (.int 1000)), (cn (.str (Str.ofString "r")), vr 1)]) (gNm 2)) (sSeq (sAsg (op1 (gGetK tbF) (op2 gIx (vr 0) (cn (.int 0)))) (gNm 3)) (sSeq (sIf (tV (op2 gNe (opN gLen (argC (vr 0) (argN))) (op2 gAdd (opN gLen (argC (vr 3) (argN))) (cn (.int 1))))) (sRet (cn (.bl false))) (sNext)) (sRet (op2 gEq (comp (itZp (slc (vr 0) (soS (cn (.int 1))) (soN)) (vr 3)) (gTp [4, 5]) (LB.tNot (tV (callN 3 m_is_number (argC (vr 4) (argC (cn (.int 0)) (argC (op2 gSub (op2 gDget (vr 2) (vr 5)) (cn (.int 1))) (argN))))))) (vr 4) [4, 5]) (lsl (argN)))))))
abbrev encRI (q : Row × Int) : List D := [q.1.enc, .int q.2]
theorem encRI_inj (a b : Row × Int) (h : encRI a = encRI b) : a = b := by
  obtain ⟨h1, h2⟩ := List.cons.inj h
  obtain ⟨h3, _⟩ := List.cons.inj h2
  exact Prod.ext (Row.enc_inj h1) (D.int.inj h3)
noncomputable def m_is_row : Fn := spec encRI fun q => .bl (q.1.okB q.2)
theorem is_row_row (r : Row) (rows : Int) (m : Mem) : m_is_row [r.enc, .int rows] m = .ok (.bl (r.okB rows)) m := spec_at encRI_inj (r, rows) m
theorem is_row_run (r : Row) (rows : Int) (m : Mem) : ∃ m2, run 6 f_is_row (encRI (r, rows)) m = .ok (.bl (r.okB rows)) m2 ∧ Keep m m2 := by
  have hw (m : Mem) (ρ : Ev) (h : vr 0 ρ m = .ok r.enc m) : op2 gIx (vr 0) (cn (.int 0)) ρ m = .ok (.str r.word) m := op2_ok h rfl (ix0_row r m)
  have hK (m : Mem) : gNotInK tbF (.str r.word) m = some (.bl false) := by
    show some (D.bl (!(tbF.lookup r.word).isSome)) = _
    rw [r.form_at]
    rfl
  have hG (m : Mem) : gGetK tbF (.str r.word) m = some (.str r.form) := r.form_at
  let M2 : Mem := m.new (.dct (mergeD [] (kvM rows)))
  have hl : r.parts.length ≤ 3 := r.parts_le
  refine ⟨M2, run_rt (ρ1 := [some r.enc, some (.int rows), some (.loc m.n), some (.str r.form), none, none]) ?_, .new _ _⟩
  refine (seq_ok ((if_no (m1 := m) (tOr_ok1 (x := false) (tNot_ok (x := true) (tV_ok (op1_ok rfl rfl))) fun _ => tOr_ok1 (x := false) (tV_ok (op2_ok rfl rfl (row_ne_nil r m))) fun _ => tOr_ok1 (x := false) (tNot_ok (x := true) (tV_ok (op1_ok (hw m _ rfl) rfl))) fun _ => tV_ok (op1_ok (hw m _ rfl) (hK m)))).trans rfl)).trans ?_
  refine (seq_ok (asg_ok (dsp_ok (m1 := m) (kvs := kvM rows) rfl rfl (show 4 ≤ 15 by decide)) rfl)).trans ?_
  refine (seq_ok (asg_ok (op1_ok (hw M2 _ rfl) (hG M2)) rfl)).trans ?_
  have hfl : r.form.length ≤ sizeLine := by rw [r.form_len]; exact Nat.le_trans hl (by decide)
  refine (seq_ok ((if_no (m1 := M2) (tV_ok (op2_ok (x := .int ((r.parts.length + 1 : Nat) : Int)) (y := .int ((r.parts.length : Nat) + 1 : Int)) (m1 := M2) (m2 := M2) ?_ (op2_ok (x := .int (r.parts.length : Nat)) (opN_ok (arg1_ok rfl) (?_ : gLen [.str r.form] M2 = _)) rfl rfl) ?_))).trans rfl)).trans ?_
  · have z := len_tup (a := vr 0) (ρ := [some r.enc, some (.int rows), some (.loc m.n), some (.str r.form), none, none]) (m := M2) (m1 := M2) (xs := .str r.word :: r.parts.map D.int) rfl
    rw [List.length_cons, List.length_map] at z
    exact z
  · show (if r.form.length ≤ sizeLine then some (D.int r.form.length) else none) = _
    rw [if_pos hfl, r.form_len]
  · show (some (decide (((r.parts.length + 1 : Nat) : Int) = (r.parts.length : Nat) + 1))).map (fun b => D.bl (!b)) = _
    rw [decide_eq_true (by omega)]
    rfl
  have hcut : gSl r.enc (some 1) none M2 = some (.tup (r.parts.map D.int)) := by
    show some (D.tup (cutD (.str r.word :: r.parts.map D.int) (some ((1 : Nat) : Int)) none)) = _
    rw [cut_behind _ 1 (by rw [List.length_cons]; omega)]
    rfl
  have hit := itZp_ok (a := slc (vr 0) (soS (cn (.int 1))) (soN)) (b := vr 3) (ρ := [some r.enc, some (.int rows), some (.loc m.n), some (.str r.form), none, none]) (m := M2) (m1 := M2) (m2 := M2) (d := .tup (r.parts.map D.int)) (e := .str r.form) (xs := r.parts.map D.int) (ys := r.sorts.map fun s => D.str (sortZ s)) (slc_ok rfl rfl rfl hcut) rfl rfl (by
    show some (strOf r.form) = _
    rw [r.form_sorts])
  have hwk := wkZp_eq (m := M2) (d := .tup (r.parts.map D.int)) (e := .str r.form) (xs := r.parts.map D.int) (ys := r.sorts.map fun s => D.str (sortZ s)) rfl (by
    show some (strOf r.form) = _
    rw [r.form_sorts])
  have hc := comp_pure (g := gTp [4, 5]) (t := LB.tNot (tV (callN 3 m_is_number (argC (vr 4) (argC (cn (.int 0)) (argC (op2 gSub (op2 gDget (vr 2) (vr 5)) (cn (.int 1))) (argN))))))) (e := vr 4) (own := [4, 5]) (pRow rows) fRow hit hwk (fun x hx => by
    rw [zip_pairD] at hx
    obtain ⟨q, _, rfl⟩ := List.mem_map.mp hx
    refine ⟨[some r.enc, some (.int rows), some (.loc m.n), some (.str r.form), some (.int q.1), some (.str (sortZ q.2))], rfl, ?_, fun _ => rfl⟩
    rw [pRow_at]
    refine tNot_ok (tV_ok ((callN_ok (arg3_ok rfl rfl (op2_ok (x := .int (most rows q.2)) (op2_ok (x := .loc m.n) (y := .str (sortZ q.2)) rfl rfl ?_) rfl rfl)) rfl).trans (is_number_int _ _ _ _)))
    show (dctOf M2 (.loc m.n)).bind (fun kvs => (keyOf (.str (sortZ q.2))).bind fun k => valK kvs k) = _
    rw [dctOf_new]
    exact kvM_at rows q.2) (by
    rw [List.length_zipWith, List.length_map]
    exact Nat.le_trans (Nat.min_le_left _ _) (Nat.le_trans hl (by decide)))
  rw [zip_pairD, filt_pairD] at hc
  refine ret_ok (op2_ok hc (lsl_ok (xs := []) rfl (by decide)) ?_)
  show (eqOf M2 (.lst ((badL r rows).map D.int)) (.lst [])).map D.bl = _
  rw [eqOf_nil rfl, badL_nil]
  rfl
theorem le_is_row (ds : List D) (m : Mem) : LeR m (m_is_row ds m) (run 6 f_is_row ds m) := spec_le (fun a m => is_row_run a.1 a.2 m) (fun _ _ => rfl) ds m
/-! ### what is refused -/
def f_need_mill : SS := sSeq (sAsg (vAnd (op1 (gIsi "tuple") (vr 0)) (op2 gEq (opN gLen (argC (vr 0) (argN))) (opN gLen (argC (cn v_MOST_LATE) (argN))))) (gNm 1)) (sIf (LB.tOr (LB.tNot (tV (vr 1))) (tV (op2 gNe (comp (itRng1 (argC (opN gLen (argC (vr 0) (argN))) (argN))) (gNm 2) (LB.tNot (tV (callN 3 m_is_number (argC (op2 gIx (vr 0) (vr 2)) (argC (cn (.int 0)) (argC (op2 gIx (cn v_MOST_LATE) (vr 2)) (argN))))))) (vr 2) [2]) (lsl (argN))))) (sBad) (sNext))
def m_need_mill : Fn := run 3 f_need_mill
theorem le_need_mill (ds : List D) (m : Mem) : LeR m (m_need_mill ds m) (run 3 f_need_mill ds m) := .same _
theorem filt_none {xs : List D} : xs.filter (fun _ => false) = [] := by
  induction xs with
  | nil => rfl
  | cons x r ih => exact ih
theorem num_call {a : SA} {ρ : Ev} {m : Mem} {i lo hi : Int} (h : a ρ m = .ok [.int i, .int lo, .int hi] m) (h1 : lo ≤ i) (h2 : i ≤ hi) : callN 3 m_is_number a ρ m = .ok (.bl true) m := by
  rw [callN_ok (np := 3) h rfl, is_number_int, numB_ok h1 h2]
theorem need_mill_ok {t : Mill} (ht : t.ok) (m : Mem) : m_need_mill [t.enc] m = .ok .non m := by
  obtain ⟨ha, hb, hc, hj⟩ := ht
  refine run_nx (ρ1 := [some t.enc, some (.bl true), none]) ?_
  have h0 : vAnd (op1 (gIsi "tuple") (vr 0)) (op2 gEq (opN gLen (argC (vr 0) (argN))) (opN gLen (argC (cn v_MOST_LATE) (argN)))) [some t.enc, none, none] m = .ok (.bl true) m := rfl
  refine (seq_ok (asg_ok h0 rfl)).trans ?_
  have hit := it1_ok (a := argC (opN gLen (argC (vr 0) (argN))) (argN)) (ρ := [some t.enc, some (.bl true), none]) (m := m) (m1 := m) (hi := 4) rfl (by decide)
  have hcm := comp_pure (g := gNm 2) (t := LB.tNot (tV (callN 3 m_is_number (argC (op2 gIx (vr 0) (vr 2)) (argC (cn (.int 0)) (argC (op2 gIx (cn v_MOST_LATE) (vr 2)) (argN))))))) (e := vr 2) (own := [2]) (ρ := [some t.enc, some (.bl true), none]) (m := m) (xs := (List.range 4).map fun j => D.int (0 + (j : Nat))) (fun _ => false) (fun d => d) hit (fun i _ => wkRng_eq 0 4 i m) (fun x hx => by
    obtain ⟨k, hk, rfl⟩ := List.mem_map.mp hx
    have hk4 : k < 4 := List.mem_range.mp hk
    refine ⟨[some t.enc, some (.bl true), some (.int (0 + (k : Nat)))], rfl, ?_, fun h => by cases h⟩
    have hz : k = 0 ∨ k = 1 ∨ k = 2 ∨ k = 3 := by omega
    rcases hz with rfl | rfl | rfl | rfl
    · exact tNot_ok (x := true) (tV_ok (num_call (i := t.a) (lo := 0) (hi := 2) rfl (by omega) (by omega)))
    · exact tNot_ok (x := true) (tV_ok (num_call (i := t.b) (lo := 0) (hi := 4) rfl (by omega) (by omega)))
    · exact tNot_ok (x := true) (tV_ok (num_call (i := t.c) (lo := 0) (hi := 4) rfl (by omega) (by omega)))
    · exact tNot_ok (x := true) (tV_ok (num_call (i := t.j) (lo := 0) (hi := 3) rfl (by omega) (by omega)))) (by decide)
  rw [filt_none] at hcm
  refine (if_no (m1 := m) (tOr_ok1 (x := false) (tNot_ok (x := true) rfl) fun _ => tV_ok (op2_ok hcm (lsl_ok (xs := []) rfl (by decide)) ?_))).trans rfl
  show (eqOf m (.lst []) (.lst [])).map (fun b => D.bl (!b)) = _
  rw [eq_nils]
  rfl
def f_need_piece : SS := sSeq (sIf (LB.tOr (LB.tNot (tV (op1 (gIsi "tuple") (vr 0)))) (LB.tNot (tV (chn gLe gLe (cn (.int 1)) (opN gLen (argC (vr 0) (argN))) (cn (.int 12)))))) (sBad) (sNext)) (sSeq (sIf (tV (op2 gNe (comp (itSeq (vr 0)) (gNm 1) (LB.tNot (tV (callN 2 m_is_row (argC (vr 1) (argC (cn (.int 200)) (argN)))))) (vr 1) [1]) (lsl (argN)))) (sBad) (sNext)) (sIf (tV (op2 gNe (comp (itSeq (slc (vr 0) (soN) (soS (op1 gNeg (cn (.int 1)))))) (gNm 1) (tV (callN 1 m_is_end (argC (vr 1) (argN)))) (vr 1) [1]) (lsl (argN)))) (sBad) (sNext)))
def m_need_piece : Fn := run 2 f_need_piece
theorem le_need_piece (ds : List D) (m : Mem) : LeR m (m_need_piece ds m) (run 2 f_need_piece ds m) := .same _
structure PieceOk (p : List Row) : Prop where
  one : 1 ≤ p.length
  most : p.length ≤ 12
  rows : ∀ r, r ∈ p → r.okB 200 = true
  ends : ∀ r, r ∈ p.take (p.length - 1) → r.ends = false
theorem need_piece_ok {p : List Row} (hp : PieceOk p) (m : Mem) : m_need_piece [encP p] m = .ok .non m := by
  have hlen : (p.map Row.enc).length = p.length := List.length_map _
  have h12 := hp.most
  have h1 := hp.one
  have hsz : 12 ≤ sizeLine := by decide
  refine run_nx (ρ1 := [some (encP p), none]) ?_
  have hL : opN gLen (argC (vr 0) (argN)) [some (encP p), none] m = .ok (.int p.length) m := by
    have z := len_tup (a := vr 0) (ρ := [some (encP p), none]) (m := m) (m1 := m) (xs := p.map Row.enc) rfl
    rw [hlen] at z
    exact z
  refine (seq_ok ((if_no (m1 := m) (tOr_ok1 (x := false) (tNot_ok (x := true) (tV_ok (op1_ok rfl rfl))) fun _ => tNot_ok (x := true) (tV_ok (chn_ok (k := true) rfl hL (?_ : gLe (.int 1) (.int p.length) m = _) (fun _ => ⟨rfl, (?_ : gLe (.int p.length) (.int 12) m = _)⟩) fun h => by cases h)))).trans rfl)).trans ?_
  · show some (D.bl (decide ((1 : Int) ≤ (p.length : Nat)))) = _
    rw [decide_eq_true (by omega)]
  · show some (D.bl (decide (((p.length : Nat) : Int) ≤ 12))) = _
    rw [decide_eq_true (by omega)]
  have hc1 := comp_pure (g := gNm 1) (t := LB.tNot (tV (callN 2 m_is_row (argC (vr 1) (argC (cn (.int 200)) (argN)))))) (e := vr 1) (own := [1]) (ρ := [some (encP p), none]) (m := m) (xs := p.map Row.enc) (fun _ => false) (fun d => d) (itSeq_ok (a := vr 0) (d := encP p) rfl rfl) (fun i _ => wkSeq_const rfl i) (fun x hx => by
    obtain ⟨r, hr, rfl⟩ := List.mem_map.mp hx
    refine ⟨[some (encP p), some r.enc], rfl, ?_, fun h => by cases h⟩
    exact tNot_ok (x := true) (tV_ok ((callN_ok (arg2_ok rfl rfl) rfl).trans ((is_row_row r 200 m).trans (by rw [hp.rows r hr]))))) (by rw [hlen]; omega)
  rw [filt_none] at hc1
  refine (seq_ok ((if_no (m1 := m) (tV_ok (op2_ok hc1 (lsl_ok (xs := []) rfl (by decide)) ?_))).trans rfl)).trans ?_
  · show (eqOf m (.lst []) (.lst [])).map (fun b => D.bl (!b)) = _
    rw [eq_nils]
    rfl
  have hcut : gSl (encP p) none (some (-1)) m = some (.tup ((p.take (p.length - 1)).map Row.enc)) := by
    show some (D.tup (cutD (p.map Row.enc) none (some (-1)))) = _
    rw [cut_front, hlen, List.map_take]
  have hc2 := comp_pure (g := gNm 1) (t := tV (callN 1 m_is_end (argC (vr 1) (argN)))) (e := vr 1) (own := [1]) (ρ := [some (encP p), none]) (m := m) (xs := (p.take (p.length - 1)).map Row.enc) (fun _ => false) (fun d => d) (itSeq_ok (a := slc (vr 0) (soN) (soS (op1 gNeg (cn (.int 1))))) (d := .tup ((p.take (p.length - 1)).map Row.enc)) (slc_ok rfl rfl rfl hcut) rfl) (fun i _ => wkSeq_const rfl i) (fun x hx => by
    obtain ⟨r, hr, rfl⟩ := List.mem_map.mp hx
    refine ⟨[some (encP p), some r.enc], rfl, ?_, fun h => by cases h⟩
    exact tV_ok ((callN_ok (arg1_ok rfl) rfl).trans ((is_end_row r m).trans (by rw [hp.ends r hr])))) (by rw [List.length_map, List.length_take]; omega)
  rw [filt_none] at hc2
  refine (if_no (m1 := m) (tV_ok (op2_ok hc2 (lsl_ok (xs := []) rfl (by decide)) ?_))).trans rfl
  show (eqOf m (.lst []) (.lst [])).map (fun b => D.bl (!b)) = _
  rw [eq_nils]
  rfl
def f_ties : SS := sSeq (sExp (callN 1 m_need_piece (argC (vr 0) (argN)))) (sSeq (sExp (callN 1 m_need_mill (argC (vr 1) (argN)))) (sRet (callN 2 m_ties_of (argC (vr 0) (argC (vr 1) (argN))))))
def m_ties : Fn := run 2 f_ties
theorem le_ties (ds : List D) (m : Mem) : LeR m (m_ties ds m) (run 2 f_ties ds m) := .same _
theorem ties_run {p : List Row} {t : Mill} (hp : PieceOk p) (ht : t.ok) (m : Mem) : m_ties [encP p, t.enc] m = .ok (.loc m.n) (m.new (.lst (tiesL p t p.length))) := by
  have h12 := hp.most
  refine run_rt (ρ1 := [some (encP p), some t.enc]) ?_
  refine (seq_ok (exp_ok ((callN_ok (arg1_ok rfl) rfl).trans (need_piece_ok hp m)))).trans ?_
  refine (seq_ok (exp_ok ((callN_ok (arg1_ok rfl) rfl).trans (need_mill_ok ht m)))).trans ?_
  exact ret_ok ((callN_ok (arg2_ok rfl rfl) rfl).trans (ties_of_run p t (by omega) m))
end
end LB

set_option Elab.async false
set_option linter.all false
set_option autoImplicit false
set_option maxRecDepth 100000
set_option maxHeartbeats 1000000
/-! Pure: rows and mills at the head (printed by gen/mkr.py). -/
namespace LB
open PySem
noncomputable section
section
variable {β : Type}
theorem KR_put_0 (b n : Int) (m : Mem) (k : D → Mem → Rs β) : K2 gIx (Row.put b n).enc (.int 0) m k = k (.str (Str.ofString "put")) m := rfl
theorem KR_put_1 (b n : Int) (m : Mem) (k : D → Mem → Rs β) : K2 gIx (Row.put b n).enc (.int 1) m k = k (.int b) m := rfl
theorem KR_put_2 (b n : Int) (m : Mem) (k : D → Mem → Rs β) : K2 gIx (Row.put b n).enc (.int 2) m k = k (.int n) m := rfl
theorem KR_put_l (b n : Int) (m : Mem) (k : D → Mem → Rs β) : K2 gIx (Row.put b n).enc (.int (-1)) m k = k (.int n) m := rfl
theorem KR_put_into (b n : Int) (m : Mem) (k : D → Mem → Rs β) : KF m_put_into [(Row.put b n).enc] m k = k (.int b) m := KF_ok (put_into_row _ m) k
theorem KR_put_end (b n : Int) (m : Mem) (k : D → Mem → Rs β) : KF m_is_end [(Row.put b n).enc] m k = k (.bl false) m := KF_ok (is_end_row _ m) k
theorem KR_put_looked (b n : Int) (m : Mem) (k : D → Mem → Rs β) : KF m_looked_at [(Row.put b n).enc] m k = k (.lst []) m := KF_ok (looked_at_row _ m) k
theorem KR_put_cut (b n : Int) (m : Mem) (k : D → Mem → Rs β) : KSl (Row.put b n).enc (some 1) none m k = k (.tup [.int b, .int n]) m := rfl
theorem KR_move_0 (b c : Int) (m : Mem) (k : D → Mem → Rs β) : K2 gIx (Row.move b c).enc (.int 0) m k = k (.str (Str.ofString "move")) m := rfl
theorem KR_move_1 (b c : Int) (m : Mem) (k : D → Mem → Rs β) : K2 gIx (Row.move b c).enc (.int 1) m k = k (.int b) m := rfl
theorem KR_move_2 (b c : Int) (m : Mem) (k : D → Mem → Rs β) : K2 gIx (Row.move b c).enc (.int 2) m k = k (.int c) m := rfl
theorem KR_move_l (b c : Int) (m : Mem) (k : D → Mem → Rs β) : K2 gIx (Row.move b c).enc (.int (-1)) m k = k (.int c) m := rfl
theorem KR_move_into (b c : Int) (m : Mem) (k : D → Mem → Rs β) : KF m_put_into [(Row.move b c).enc] m k = k (.int b) m := KF_ok (put_into_row _ m) k
theorem KR_move_end (b c : Int) (m : Mem) (k : D → Mem → Rs β) : KF m_is_end [(Row.move b c).enc] m k = k (.bl false) m := KF_ok (is_end_row _ m) k
theorem KR_move_looked (b c : Int) (m : Mem) (k : D → Mem → Rs β) : KF m_looked_at [(Row.move b c).enc] m k = k (.lst [.int c]) m := KF_ok (looked_at_row _ m) k
theorem KR_move_cut (b c : Int) (m : Mem) (k : D → Mem → Rs β) : KSl (Row.move b c).enc (some 1) none m k = k (.tup [.int b, .int c]) m := rfl
theorem KR_add_0 (b c d : Int) (m : Mem) (k : D → Mem → Rs β) : K2 gIx (Row.add b c d).enc (.int 0) m k = k (.str (Str.ofString "add")) m := rfl
theorem KR_add_1 (b c d : Int) (m : Mem) (k : D → Mem → Rs β) : K2 gIx (Row.add b c d).enc (.int 1) m k = k (.int b) m := rfl
theorem KR_add_2 (b c d : Int) (m : Mem) (k : D → Mem → Rs β) : K2 gIx (Row.add b c d).enc (.int 2) m k = k (.int c) m := rfl
theorem KR_add_3 (b c d : Int) (m : Mem) (k : D → Mem → Rs β) : K2 gIx (Row.add b c d).enc (.int 3) m k = k (.int d) m := rfl
theorem KR_add_l (b c d : Int) (m : Mem) (k : D → Mem → Rs β) : K2 gIx (Row.add b c d).enc (.int (-1)) m k = k (.int d) m := rfl
theorem KR_add_into (b c d : Int) (m : Mem) (k : D → Mem → Rs β) : KF m_put_into [(Row.add b c d).enc] m k = k (.int b) m := KF_ok (put_into_row _ m) k
theorem KR_add_end (b c d : Int) (m : Mem) (k : D → Mem → Rs β) : KF m_is_end [(Row.add b c d).enc] m k = k (.bl false) m := KF_ok (is_end_row _ m) k
theorem KR_add_looked (b c d : Int) (m : Mem) (k : D → Mem → Rs β) : KF m_looked_at [(Row.add b c d).enc] m k = k (.lst [.int c, .int d]) m := KF_ok (looked_at_row _ m) k
theorem KR_add_cut (b c d : Int) (m : Mem) (k : D → Mem → Rs β) : KSl (Row.add b c d).enc (some 1) none m k = k (.tup [.int b, .int c, .int d]) m := rfl
theorem KR_take_0 (b c d : Int) (m : Mem) (k : D → Mem → Rs β) : K2 gIx (Row.take b c d).enc (.int 0) m k = k (.str (Str.ofString "take")) m := rfl
theorem KR_take_1 (b c d : Int) (m : Mem) (k : D → Mem → Rs β) : K2 gIx (Row.take b c d).enc (.int 1) m k = k (.int b) m := rfl
theorem KR_take_2 (b c d : Int) (m : Mem) (k : D → Mem → Rs β) : K2 gIx (Row.take b c d).enc (.int 2) m k = k (.int c) m := rfl
theorem KR_take_3 (b c d : Int) (m : Mem) (k : D → Mem → Rs β) : K2 gIx (Row.take b c d).enc (.int 3) m k = k (.int d) m := rfl
theorem KR_take_l (b c d : Int) (m : Mem) (k : D → Mem → Rs β) : K2 gIx (Row.take b c d).enc (.int (-1)) m k = k (.int d) m := rfl
theorem KR_take_into (b c d : Int) (m : Mem) (k : D → Mem → Rs β) : KF m_put_into [(Row.take b c d).enc] m k = k (.int b) m := KF_ok (put_into_row _ m) k
theorem KR_take_end (b c d : Int) (m : Mem) (k : D → Mem → Rs β) : KF m_is_end [(Row.take b c d).enc] m k = k (.bl false) m := KF_ok (is_end_row _ m) k
theorem KR_take_looked (b c d : Int) (m : Mem) (k : D → Mem → Rs β) : KF m_looked_at [(Row.take b c d).enc] m k = k (.lst [.int c, .int d]) m := KF_ok (looked_at_row _ m) k
theorem KR_take_cut (b c d : Int) (m : Mem) (k : D → Mem → Rs β) : KSl (Row.take b c d).enc (some 1) none m k = k (.tup [.int b, .int c, .int d]) m := rfl
theorem KR_times_0 (b c d : Int) (m : Mem) (k : D → Mem → Rs β) : K2 gIx (Row.times b c d).enc (.int 0) m k = k (.str (Str.ofString "times")) m := rfl
theorem KR_times_1 (b c d : Int) (m : Mem) (k : D → Mem → Rs β) : K2 gIx (Row.times b c d).enc (.int 1) m k = k (.int b) m := rfl
theorem KR_times_2 (b c d : Int) (m : Mem) (k : D → Mem → Rs β) : K2 gIx (Row.times b c d).enc (.int 2) m k = k (.int c) m := rfl
theorem KR_times_3 (b c d : Int) (m : Mem) (k : D → Mem → Rs β) : K2 gIx (Row.times b c d).enc (.int 3) m k = k (.int d) m := rfl
theorem KR_times_l (b c d : Int) (m : Mem) (k : D → Mem → Rs β) : K2 gIx (Row.times b c d).enc (.int (-1)) m k = k (.int d) m := rfl
theorem KR_times_into (b c d : Int) (m : Mem) (k : D → Mem → Rs β) : KF m_put_into [(Row.times b c d).enc] m k = k (.int b) m := KF_ok (put_into_row _ m) k
theorem KR_times_end (b c d : Int) (m : Mem) (k : D → Mem → Rs β) : KF m_is_end [(Row.times b c d).enc] m k = k (.bl false) m := KF_ok (is_end_row _ m) k
theorem KR_times_looked (b c d : Int) (m : Mem) (k : D → Mem → Rs β) : KF m_looked_at [(Row.times b c d).enc] m k = k (.lst [.int c, .int d]) m := KF_ok (looked_at_row _ m) k
theorem KR_times_cut (b c d : Int) (m : Mem) (k : D → Mem → Rs β) : KSl (Row.times b c d).enc (some 1) none m k = k (.tup [.int b, .int c, .int d]) m := rfl
theorem KR_get_0 (b c : Int) (m : Mem) (k : D → Mem → Rs β) : K2 gIx (Row.get b c).enc (.int 0) m k = k (.str (Str.ofString "get")) m := rfl
theorem KR_get_1 (b c : Int) (m : Mem) (k : D → Mem → Rs β) : K2 gIx (Row.get b c).enc (.int 1) m k = k (.int b) m := rfl
theorem KR_get_2 (b c : Int) (m : Mem) (k : D → Mem → Rs β) : K2 gIx (Row.get b c).enc (.int 2) m k = k (.int c) m := rfl
theorem KR_get_l (b c : Int) (m : Mem) (k : D → Mem → Rs β) : K2 gIx (Row.get b c).enc (.int (-1)) m k = k (.int c) m := rfl
theorem KR_get_into (b c : Int) (m : Mem) (k : D → Mem → Rs β) : KF m_put_into [(Row.get b c).enc] m k = k (.int b) m := KF_ok (put_into_row _ m) k
theorem KR_get_end (b c : Int) (m : Mem) (k : D → Mem → Rs β) : KF m_is_end [(Row.get b c).enc] m k = k (.bl false) m := KF_ok (is_end_row _ m) k
theorem KR_get_looked (b c : Int) (m : Mem) (k : D → Mem → Rs β) : KF m_looked_at [(Row.get b c).enc] m k = k (.lst [.int c]) m := KF_ok (looked_at_row _ m) k
theorem KR_get_cut (b c : Int) (m : Mem) (k : D → Mem → Rs β) : KSl (Row.get b c).enc (some 1) none m k = k (.tup [.int b, .int c]) m := rfl
theorem KR_set_0 (b c : Int) (m : Mem) (k : D → Mem → Rs β) : K2 gIx (Row.set b c).enc (.int 0) m k = k (.str (Str.ofString "set")) m := rfl
theorem KR_set_1 (b c : Int) (m : Mem) (k : D → Mem → Rs β) : K2 gIx (Row.set b c).enc (.int 1) m k = k (.int b) m := rfl
theorem KR_set_2 (b c : Int) (m : Mem) (k : D → Mem → Rs β) : K2 gIx (Row.set b c).enc (.int 2) m k = k (.int c) m := rfl
theorem KR_set_l (b c : Int) (m : Mem) (k : D → Mem → Rs β) : K2 gIx (Row.set b c).enc (.int (-1)) m k = k (.int c) m := rfl
theorem KR_set_into (b c : Int) (m : Mem) (k : D → Mem → Rs β) : KF m_put_into [(Row.set b c).enc] m k = k .non m := KF_ok (put_into_row _ m) k
theorem KR_set_end (b c : Int) (m : Mem) (k : D → Mem → Rs β) : KF m_is_end [(Row.set b c).enc] m k = k (.bl false) m := KF_ok (is_end_row _ m) k
theorem KR_set_looked (b c : Int) (m : Mem) (k : D → Mem → Rs β) : KF m_looked_at [(Row.set b c).enc] m k = k (.lst [.int b, .int c]) m := KF_ok (looked_at_row _ m) k
theorem KR_set_cut (b c : Int) (m : Mem) (k : D → Mem → Rs β) : KSl (Row.set b c).enc (some 1) none m k = k (.tup [.int b, .int c]) m := rfl
theorem KR_say_0 (b : Int) (m : Mem) (k : D → Mem → Rs β) : K2 gIx (Row.say b).enc (.int 0) m k = k (.str (Str.ofString "say")) m := rfl
theorem KR_say_1 (b : Int) (m : Mem) (k : D → Mem → Rs β) : K2 gIx (Row.say b).enc (.int 1) m k = k (.int b) m := rfl
theorem KR_say_l (b : Int) (m : Mem) (k : D → Mem → Rs β) : K2 gIx (Row.say b).enc (.int (-1)) m k = k (.int b) m := rfl
theorem KR_say_into (b : Int) (m : Mem) (k : D → Mem → Rs β) : KF m_put_into [(Row.say b).enc] m k = k .non m := KF_ok (put_into_row _ m) k
theorem KR_say_end (b : Int) (m : Mem) (k : D → Mem → Rs β) : KF m_is_end [(Row.say b).enc] m k = k (.bl false) m := KF_ok (is_end_row _ m) k
theorem KR_say_looked (b : Int) (m : Mem) (k : D → Mem → Rs β) : KF m_looked_at [(Row.say b).enc] m k = k (.lst [.int b]) m := KF_ok (looked_at_row _ m) k
theorem KR_say_cut (b : Int) (m : Mem) (k : D → Mem → Rs β) : KSl (Row.say b).enc (some 1) none m k = k (.tup [.int b]) m := rfl
theorem KR_rest_0 (m : Mem) (k : D → Mem → Rs β) : K2 gIx (Row.rest).enc (.int 0) m k = k (.str (Str.ofString "rest")) m := rfl
theorem KR_rest_l (m : Mem) (k : D → Mem → Rs β) : K2 gIx (Row.rest).enc (.int (-1)) m k = k (.str (Str.ofString "rest")) m := rfl
theorem KR_rest_into (m : Mem) (k : D → Mem → Rs β) : KF m_put_into [(Row.rest).enc] m k = k .non m := KF_ok (put_into_row _ m) k
theorem KR_rest_end (m : Mem) (k : D → Mem → Rs β) : KF m_is_end [(Row.rest).enc] m k = k (.bl false) m := KF_ok (is_end_row _ m) k
theorem KR_rest_looked (m : Mem) (k : D → Mem → Rs β) : KF m_looked_at [(Row.rest).enc] m k = k (.lst []) m := KF_ok (looked_at_row _ m) k
theorem KR_rest_cut (m : Mem) (k : D → Mem → Rs β) : KSl (Row.rest).enc (some 1) none m k = k (.tup []) m := rfl
theorem KR_go_0 (r : Int) (m : Mem) (k : D → Mem → Rs β) : K2 gIx (Row.go r).enc (.int 0) m k = k (.str (Str.ofString "go")) m := rfl
theorem KR_go_1 (r : Int) (m : Mem) (k : D → Mem → Rs β) : K2 gIx (Row.go r).enc (.int 1) m k = k (.int r) m := rfl
theorem KR_go_l (r : Int) (m : Mem) (k : D → Mem → Rs β) : K2 gIx (Row.go r).enc (.int (-1)) m k = k (.int r) m := rfl
theorem KR_go_into (r : Int) (m : Mem) (k : D → Mem → Rs β) : KF m_put_into [(Row.go r).enc] m k = k .non m := KF_ok (put_into_row _ m) k
theorem KR_go_end (r : Int) (m : Mem) (k : D → Mem → Rs β) : KF m_is_end [(Row.go r).enc] m k = k (.bl true) m := KF_ok (is_end_row _ m) k
theorem KR_go_looked (r : Int) (m : Mem) (k : D → Mem → Rs β) : KF m_looked_at [(Row.go r).enc] m k = k (.lst []) m := KF_ok (looked_at_row _ m) k
theorem KR_go_cut (r : Int) (m : Mem) (k : D → Mem → Rs β) : KSl (Row.go r).enc (some 1) none m k = k (.tup [.int r]) m := rfl
theorem KR_ifr_0 (b r : Int) (m : Mem) (k : D → Mem → Rs β) : K2 gIx (Row.ifr b r).enc (.int 0) m k = k (.str (Str.ofString "if")) m := rfl
theorem KR_ifr_1 (b r : Int) (m : Mem) (k : D → Mem → Rs β) : K2 gIx (Row.ifr b r).enc (.int 1) m k = k (.int b) m := rfl
theorem KR_ifr_2 (b r : Int) (m : Mem) (k : D → Mem → Rs β) : K2 gIx (Row.ifr b r).enc (.int 2) m k = k (.int r) m := rfl
theorem KR_ifr_l (b r : Int) (m : Mem) (k : D → Mem → Rs β) : K2 gIx (Row.ifr b r).enc (.int (-1)) m k = k (.int r) m := rfl
theorem KR_ifr_into (b r : Int) (m : Mem) (k : D → Mem → Rs β) : KF m_put_into [(Row.ifr b r).enc] m k = k .non m := KF_ok (put_into_row _ m) k
theorem KR_ifr_end (b r : Int) (m : Mem) (k : D → Mem → Rs β) : KF m_is_end [(Row.ifr b r).enc] m k = k (.bl true) m := KF_ok (is_end_row _ m) k
theorem KR_ifr_looked (b r : Int) (m : Mem) (k : D → Mem → Rs β) : KF m_looked_at [(Row.ifr b r).enc] m k = k (.lst [.int b]) m := KF_ok (looked_at_row _ m) k
theorem KR_ifr_cut (b r : Int) (m : Mem) (k : D → Mem → Rs β) : KSl (Row.ifr b r).enc (some 1) none m k = k (.tup [.int b, .int r]) m := rfl
theorem KR_stop_0 (m : Mem) (k : D → Mem → Rs β) : K2 gIx (Row.stop).enc (.int 0) m k = k (.str (Str.ofString "stop")) m := rfl
theorem KR_stop_l (m : Mem) (k : D → Mem → Rs β) : K2 gIx (Row.stop).enc (.int (-1)) m k = k (.str (Str.ofString "stop")) m := rfl
theorem KR_stop_into (m : Mem) (k : D → Mem → Rs β) : KF m_put_into [(Row.stop).enc] m k = k .non m := KF_ok (put_into_row _ m) k
theorem KR_stop_end (m : Mem) (k : D → Mem → Rs β) : KF m_is_end [(Row.stop).enc] m k = k (.bl true) m := KF_ok (is_end_row _ m) k
theorem KR_stop_looked (m : Mem) (k : D → Mem → Rs β) : KF m_looked_at [(Row.stop).enc] m k = k (.lst []) m := KF_ok (looked_at_row _ m) k
theorem KR_stop_cut (m : Mem) (k : D → Mem → Rs β) : KSl (Row.stop).enc (some 1) none m k = k (.tup []) m := rfl
theorem KR_late (r : Row) (t : Mill) (m : Mem) (k : D → Mem → Rs β) : KF m_late [r.enc, t.enc] m k = k (.int (r.late t)) m := KF_ok (late_row r t m) k
theorem KR_far (r s : Row) (t : Mill) (m : Mem) (k : D → Mem → Rs β) : KF m_far_of [r.enc, s.enc, t.enc] m k = k (far r s t) m := KF_ok (far_of_row r s t m) k
theorem KR_num (i lo hi : Int) (m : Mem) (k : D → Mem → Rs β) : KF m_is_number [.int i, .int lo, .int hi] m k = k (.bl (numB i lo hi)) m := KF_ok (is_number_int i lo hi m) k
theorem KR_mill_0 (t : Mill) (m : Mem) (k : D → Mem → Rs β) : K2 gIx t.enc (.int 0) m k = k (.int t.a) m := rfl
theorem KR_mill_1 (t : Mill) (m : Mem) (k : D → Mem → Rs β) : K2 gIx t.enc (.int 1) m k = k (.int t.b) m := rfl
theorem KR_mill_2 (t : Mill) (m : Mem) (k : D → Mem → Rs β) : K2 gIx t.enc (.int 2) m k = k (.int t.c) m := rfl
theorem KR_mill_3 (t : Mill) (m : Mem) (k : D → Mem → Rs β) : K2 gIx t.enc (.int 3) m k = k (.int t.j) m := rfl
theorem KR_pi_len (p : List Row) (m : Mem) (k : D → Mem → Rs β) : KN gLen [encP p] m k = k (.int p.length) m := by
  rw [show (p.length : Int) = ((p.map Row.enc).length : Int) from by rw [List.length_map]]
  rfl
theorem KR_pi_at {p : List Row} {i : Nat} {r : Row} (h : p[i]? = some r) (m : Mem) (k : D → Mem → Rs β) : K2 gIx (encP p) (.int i) m k = k r.enc m := by
  show KIx (p.map Row.enc) (i : Int) m k = _
  exact KIx_of (by rw [List.getElem?_map, h]; rfl) m k
/-- any row: what is asked of it, not its word -/
theorem KA_into (r : Row) (m : Mem) (k : D → Mem → Rs β) : KF m_put_into [r.enc] m k = k (optD r.into) m := KF_ok (put_into_row r m) k
theorem KA_end (r : Row) (m : Mem) (k : D → Mem → Rs β) : KF m_is_end [r.enc] m k = k (.bl r.ends) m := KF_ok (is_end_row r m) k
theorem KA_looked (r : Row) (m : Mem) (k : D → Mem → Rs β) : KF m_looked_at [r.enc] m k = k (.lst (r.looks.map D.int)) m := KF_ok (looked_at_row r m) k
theorem KA_0 (r : Row) (m : Mem) (k : D → Mem → Rs β) : K2 gIx r.enc (.int 0) m k = k (.str r.word) m := by cases r <;> rfl
theorem KA_stop (r : Row) (m : Mem) (k : D → Mem → Rs β) : K2 gEq (.str r.word) (.str (Str.ofString "stop")) m k = k (.bl r.stops) m := by cases r <;> rfl
theorem KA_goes (r : Row) (m : Mem) (k : D → Mem → Rs β) : K2 gIn (.str r.word) (.tup [.str (Str.ofString "go"), .str (Str.ofString "if")]) m k = k (.bl r.goes) m := by cases r <;> rfl
theorem KA_ends (r : Row) (m : Mem) (k : D → Mem → Rs β) : K2 gIn (.str r.word) (.tup [.str (Str.ofString "go"), .str (Str.ofString "if"), .str (Str.ofString "stop")]) m k = k (.bl r.ends) m := by cases r <;> rfl
end
end
end LB

set_option Elab.async false
set_option linter.all false
set_option autoImplicit false
set_option maxRecDepth 100000
set_option maxHeartbeats 1000000
/-! Pure: methods with one argument, at the head. -/
namespace LB
open PySem
section
variable {α β γ Y : Type}
def kM1b (g : O2) (d : D) (k : D → Mem → Rs β) : D → Mem → Rs β := fun y m => K2 g d y m k
def kM1 (chk : D → Mem → Bool) (g : O2) (e : SE) (ρ : Ev) (k : D → Mem → Rs β) : D → Mem → Rs β := fun d m => K (chkD chk d) m fun _ m => K (e ρ) m (kM1b g d k)
theorem K_mt1E (chk : D → Mem → Bool) (g : O2) (o e : SE) (ρ : Ev) (m : Mem) (k : D → Mem → Rs β) : K (mt1E chk g o e ρ) m k = K (o ρ) m (kM1 chk g e ρ k) := by
  unfold mt1E
  rw [K_bind]
  congr 1
  funext d m1
  rw [K_bind]
  unfold kM1
  congr 1
  funext _ m2
  rw [K_bind]
  congr 1
  funext y m3
  exact K_lift _ _ _
theorem kM1_l (g : O2) (e : SE) (ρ : Ev) (k : D → Mem → Rs β) (xs : List D) (m : Mem) : kM1 isLst g e ρ k (.lst xs) m = K (e ρ) m (kM1b g (.lst xs) k) := by
  unfold kM1
  exact K_ok (x := ()) (m1 := m) rfl _
theorem kM1_s (g : O2) (e : SE) (ρ : Ev) (k : D → Mem → Rs β) (x : Str) (m : Mem) : kM1 isStr g e ρ k (.str x) m = K (e ρ) m (kM1b g (.str x) k) := by
  unfold kM1
  exact K_ok (x := ()) (m1 := m) rfl _
theorem kM1b_at (g : O2) (d : D) (k : D → Mem → Rs β) (y : D) (m : Mem) : kM1b g d k y m = K2 g d y m k := rfl
theorem index_ints {xs : List Int} {v : Int} (h : v ∈ xs) : ∃ a, a < xs.length ∧ xs[a]? = some v ∧ ∀ (m : Mem) (k : D → Mem → Rs β), K2 gIndex (.lst (xs.map D.int)) (.int v) m k = k (.int (a : Nat)) m := by
  have hf : (xs.map D.int).all D.isFlat = true := flat_ints xs
  cases hj : (xs.map D.int).findIdx? fun z => z.eqv (.int v) with
  | none =>
    rw [List.findIdx?_eq_none_iff] at hj
    have z := hj (.int v) (List.mem_map.mpr ⟨v, h, rfl⟩)
    have z2 : (v == v) = false := z
    rw [beq_self_eq_true] at z2
    cases z2
  | some a =>
    have hj2 := hj
    rw [List.findIdx?_eq_some_iff_getElem] at hj
    obtain ⟨hl, h1, _⟩ := hj
    have hl2 : a < xs.length := by rw [List.length_map] at hl; exact hl
    refine ⟨a, hl2, ?_, fun m k => KO_of ?_ m k⟩
    · rw [List.getElem?_eq_getElem hl2]
      have e : (xs.map D.int)[a] = D.int xs[a] := List.getElem_map _
      rw [e] at h1
      have h2 : (xs[a] == v) = true := h1
      rw [beq_iff_eq.mp h2]
    · show (if (D.int v).isFlat = true ∧ (xs.map D.int).all D.isFlat = true then ((xs.map D.int).findIdx? fun z => z.eqv (.int v)).map fun j => D.int (j : Nat) else none) = _
      rw [if_pos ⟨rfl, hf⟩, hj2]
      rfl
/-- a comprehension whose items change the store -/
theorem W_comp {w : Wk} {g : SG} {e : SE} {ρ0 : Ev} {ys : List Y} {enc : Y → D} {n : Nat} {m : Mem} {k : List D → Mem → Rs β} {q : β → Mem → Prop} {E : Er → Mem → Prop} (I : Nat → List D → Mem → Prop) (hn : n = ys.length) (hw : ∀ i acc m, I i acc m → w i m = some ((ys.map enc)[i]?)) (h0 : I 0 [] m)
    (hs : ∀ i y acc m, ys[i]? = some y → I i acc m → WP (K (exG g e (enc y) ρ0) m Rs.ok) (fun d m1 => acc.length < sizeLine ∧ I (i + 1) (acc ++ [d]) m1) fun _ _ => False) (hq : ∀ acc m, I ys.length acc m → WP (k acc m) q E) : WP (K (compG w g LB.tYes e ρ0 n 0 []) m k) q E := by
  subst hn
  refine WP_K ((compG_wp (xs := ys.map enc) (I := I) hw (fun i x acc m hx hI => ?_) (E := E) _ 0 [] m (by rw [List.length_map]; exact Nat.le_refl _) (Nat.zero_le _) h0).mono fun acc m2 h => ?_)
  · rw [List.getElem?_map] at hx
    cases hy : ys[i]? with
    | none => rw [hy] at hx; cases hx
    | some y =>
      rw [hy] at hx
      cases hx
      have z := hs i y acc m hy hI
      rw [← K_start] at z
      unfold exG at z
      cases hg : g (enc y) ρ0 with
      | none =>
        rw [hg] at z
        exact z.h.elim
      | some ρ1 =>
        rw [hg] at z
        exact ⟨ρ1, rfl, z⟩
  · rw [List.length_map] at h
    exact hq acc m2 h
theorem K1_lenset {d : D} {ns : List Int} {m : Mem} (h : lstOf m d = some (ns.map D.int)) (hl : ns.length < 4000) (k : D → Mem → Rs β) : K1 gLenSet d m k = k (.int (ddup ns).length) m := by
  refine KO_of ?_ m k
  show (lstOf m d).bind (fun xs => (intsOf xs).bind fun ns => if ns.length < 4000 then some (D.int (ddup ns).length) else none) = _
  rw [h]
  show (intsOf (ns.map D.int)).bind (fun ns => if ns.length < 4000 then some (D.int (ddup ns).length) else none) = _
  rw [intsOf_map]
  exact if_pos hl
def kIsiL (T : String) (k : D → Mem → Rs β) : MO → Mem → Rs β := fun o m => match o with
  | .lst _ => k (.bl (T == "list")) m
  | _ => .bad
theorem K1_isi_c (T : String) (c : Nat) (m : Mem) (k : D → Mem → Rs β) : K1 (gIsi T) (.loc c) m k = KG c m m (kIsiL T k) := by
  have e : isTy m T (.loc c) = (lstOf m (.loc c)).bind fun _ => some (T == "list") := by
    show (if c < m.n then (match m.get c with
      | some (.lst _) => some (T == "list")
      | _ => none) else none) = (if c < m.n then (match m.get c with
      | some (.lst xs) => some xs
      | _ => none) else none).bind _
    by_cases h : c < m.n
    · rw [if_pos h, if_pos h]
      cases m.get c with
      | none => rfl
      | some o => cases o <;> rfl
    · rw [if_neg h, if_neg h]
      rfl
  have h := lst_KG c m (fun _ => some (D.bl (T == "list"))) k
  unfold K1
  rw [show gIsi T (.loc c) m = (lstOf m (.loc c)).bind fun _ => some (D.bl (T == "list")) from by
    show (isTy m T (.loc c)).map D.bl = _
    rw [e]
    cases lstOf m (.loc c) <;> rfl, h]
  refine KG_congr fun o => ?_
  cases o <;> rfl
theorem kIsiL_at (T : String) (k : D → Mem → Rs β) (xs : List D) (m : Mem) : kIsiL T k (.lst xs) m = k (.bl (T == "list")) m := rfl
theorem KN_minl (ns : List Int) (m : Mem) (k : D → Mem → Rs β) : KN gMin [.lst (ns.map D.int)] m k = KO ((minL ns).map D.int) m k := by
  unfold KN
  congr 1
  show (intsOf (ns.map D.int)).bind (fun ns => (minL ns).map D.int) = _
  rw [intsOf_map]
  rfl
end
end LB

set_option Elab.async false
set_option linter.all false
set_option autoImplicit false
set_option maxRecDepth 100000
set_option maxHeartbeats 1000000
/-! Pure: the laws' own draws. -/
namespace LB
open PySem
noncomputable section
/-! ### steps of a run that draws -/
section
variable {ρ : Ev} {m : Mem} {e : Er → Mem → Prop}
theorem asg_wp {a : SE} {g : SG} {q : Fl × Ev → Mem → Prop} (h : WP (a ρ m) (fun d m1 => ∃ ρ1, g d ρ = some ρ1 ∧ q (.nx, ρ1) m1) e) : WP (sAsg a g ρ m) q e := by
  unfold sAsg
  refine .bind (h.mono fun d m1 z => ?_)
  obtain ⟨ρ1, h1, h2⟩ := z
  rw [h1]
  exact .ok h2
theorem ret_wp {a : SE} {q : Fl × Ev → Mem → Prop} (h : WP (a ρ m) (fun d m1 => q (.rt d, ρ) m1) e) : WP (sRet a ρ m) q e := .bind (h.mono fun d m1 z => .ok z)
theorem exp_wp {a : SE} {q : Fl × Ev → Mem → Prop} (h : WP (a ρ m) (fun d m1 => q (.nx, ρ) m1) e) : WP (sExp a ρ m) q e := .bind (h.mono fun d m1 z => .ok z)
theorem if_wp {t : SB} {a b : SS} {q : Fl × Ev → Mem → Prop} (h : WP (t ρ m) (fun c m1 => WP ((if c = true then a ρ else b ρ) m1) q e) e) : WP (sIf t a b ρ m) q e := .bind h
theorem if_yes_wp {t : SB} {a b : SS} {m1 : Mem} {q : Fl × Ev → Mem → Prop} (h : t ρ m = .ok true m1) (ha : WP (a ρ m1) q e) : WP (sIf t a b ρ m) q e := by
  rw [if_yes h]
  exact ha
theorem if_no_wp {t : SB} {a b : SS} {m1 : Mem} {q : Fl × Ev → Mem → Prop} (h : t ρ m = .ok false m1) (hb : WP (b ρ m1) q e) : WP (sIf t a b ρ m) q e := by
  rw [if_no h]
  exact hb
theorem ifE_wp {t : SB} {a b : SE} {q : D → Mem → Prop} (h : WP (t ρ m) (fun c m1 => WP ((if c = true then a ρ else b ρ) m1) q e) e) : WP (ifE t a b ρ m) q e := .bind h
theorem tV_wp {a : SE} {q : Bool → Mem → Prop} (h : WP (a ρ m) (fun d m1 => ∃ b, d = .bl b ∧ q b m1) e) : WP (tV a ρ m) q e := by
  unfold tV
  refine .bind (h.mono fun d m1 z => ?_)
  obtain ⟨b, rfl, h1⟩ := z
  exact .ok h1
theorem op2_wp {g : O2} {a b : SE} {q : D → Mem → Prop} (h : WP (a ρ m) (fun x m1 => WP (b ρ m1) (fun y m2 => ∃ d, g x y m2 = some d ∧ q d m2) e) e) : WP (op2 g a b ρ m) q e := by
  unfold op2
  refine .bind (h.mono fun x m1 z => .bind (z.mono fun y m2 z => ?_))
  obtain ⟨d, h1, h2⟩ := z
  rw [h1]
  exact .ok h2
theorem opN_wp {g : ON} {a : SA} {q : D → Mem → Prop} (h : WP (a ρ m) (fun xs m1 => ∃ d, g xs m1 = some d ∧ q d m1) e) : WP (opN g a ρ m) q e := by
  unfold opN
  refine .bind (h.mono fun x m1 z => ?_)
  obtain ⟨d, h1, h2⟩ := z
  rw [h1]
  exact .ok h2
theorem argC_wp {a : SE} {r : SA} {q : List D → Mem → Prop} (h : WP (a ρ m) (fun x m1 => WP (r ρ m1) (fun xs m2 => q (x :: xs) m2) e) e) : WP (argC a r ρ m) q e := by
  unfold argC
  exact .bind (h.mono fun x m1 z => .bind (z.mono fun xs m2 z => .ok z))
theorem argN_wp {q : List D → Mem → Prop} (h : q [] m) : WP (argN ρ m) q e := .ok h
theorem callN_wp {np : Nat} {f : Fn} {a : SA} {q : D → Mem → Prop} (h : WP (a ρ m) (fun xs m1 => xs.length = np ∧ WP (f xs m1) q e) e) : WP (callN np f a ρ m) q e := by
  unfold callN
  refine .bind (h.mono fun xs m1 z => ?_)
  rw [if_pos z.1]
  exact z.2
theorem tpl_wp {a : SA} {q : D → Mem → Prop} (h : WP (a ρ m) (fun xs m1 => xs.length ≤ 1000 ∧ q (.tup xs) m1) e) : WP (tpl a ρ m) q e := by
  unfold tpl capE
  refine .bind (h.mono fun xs m1 z => ?_)
  rw [if_pos z.1]
  exact .ok z.2
theorem lsl_wp {a : SA} {q : D → Mem → Prop} (h : WP (a ρ m) (fun xs m1 => xs.length ≤ 1000 ∧ q (.lst xs) m1) e) : WP (lsl a ρ m) q e := by
  unfold lsl capE
  refine .bind (h.mono fun xs m1 z => ?_)
  rw [if_pos z.1]
  exact .ok z.2
theorem comp_wp {it : SI} {g : SG} {t : SB} {f : SE} {own : List Nat} {q : D → Mem → Prop} (h : WP (compL it g t f own ρ m) (fun ys m1 => q (.lst ys) m1) e) : WP (comp it g t f own ρ m) q e := .bind (h.mono fun ys m1 z => .ok z)
theorem compM_wp {it : SI} {g : SG} {t : SB} {f : SE} {own : List Nat} {q : D → Mem → Prop} (h : WP (compL it g t f own ρ m) (fun ys m1 => q (.loc m1.n) (m1.new (.lst ys))) e) : WP (compM it g t f own ρ m) q e := .bind (h.mono fun ys m1 z => .ok z)
theorem asgU_wp {a : SE} {is : List Nat} {q : Fl × Ev → Mem → Prop} (h : WP (a ρ m) (fun d m1 => ∃ ρ1, gUl is m1 d ρ = some ρ1 ∧ q (.nx, ρ1) m1) e) : WP (sAsgU a is ρ m) q e := by
  unfold sAsgU
  refine .bind (h.mono fun d m1 z => ?_)
  obtain ⟨ρ1, h1, h2⟩ := z
  rw [h1]
  exact .ok h2
theorem prN_wp {q : List (D × D) → Mem → Prop} (h : q [] m) : WP (prE [] ρ m) q e := .ok h
theorem prC_wp {k v : SE} {r : List (SE × SE)} {q : List (D × D) → Mem → Prop} (h : WP (k ρ m) (fun kd m1 => WP (v ρ m1) (fun vd m2 => WP (prE r ρ m2) (fun xs m3 => q ((kd, vd) :: xs) m3) e) e) e) : WP (prE ((k, v) :: r) ρ m) q e :=
  .bind (h.mono fun kd m1 z => .bind (z.mono fun vd m2 z => .bind (z.mono fun xs m3 z => .ok z)))
theorem dget2_wp {ps : List (SE × SE)} {k x : SE} {q : D → Mem → Prop} (h : WP (prE ps ρ m) (fun xs m1 => ∃ (kvs : List (KeyS × D)) (kd xd : D) (key : KeyS), keysOf xs = some kvs ∧ kvs.length ≤ 15 ∧ k ρ (m1.new (.dct (mergeD [] kvs))) = .ok kd (m1.new (.dct (mergeD [] kvs))) ∧ keyOf kd = some key ∧
      x ρ (m1.new (.dct (mergeD [] kvs))) = .ok xd (m1.new (.dct (mergeD [] kvs))) ∧ q ((valK (mergeD [] kvs) key).getD xd) (m1.new (.dct (mergeD [] kvs)))) e) : WP (dget2 (dspE ps) k x ρ m) q e := by
  have e1 : dget2 (dspE ps) k x ρ m = M.bind (prE ps ρ) (fun xs => M.bind (dspK xs) fun dd => M.bind (fun m => if isDct m dd = true then .ok () m else .bad) fun _ => M.bind (k ρ) fun kk => M.bind (x ρ) fun xx => fun m => lift ((dctOf m dd).bind fun kvs => (keyOf kk).map fun k => (valK kvs k).getD xx) m) m := by
    unfold dget2 dspE M.bind
    cases prE ps ρ m <;> rfl
  rw [e1]
  refine .bind (h.mono fun xs m1 z => ?_)
  obtain ⟨kvs, kd, xd, key, h1, h2, h3, h4, h5, h6⟩ := z
  have hd : dspK xs m1 = .ok (.loc m1.n) (m1.new (.dct (mergeD [] kvs))) := by
    unfold dspK
    rw [h1]
    exact if_pos h2
  have hi : (fun m => if isDct m (.loc m1.n) = true then Rs.ok () m else .bad) (m1.new (.dct (mergeD [] kvs))) = .ok () (m1.new (.dct (mergeD [] kvs))) := by
    refine if_pos ?_
    unfold isDct
    rw [dctOf_new]
    rfl
  rw [bind_ok hd, bind_ok hi, bind_ok h3, bind_ok h5, dctOf_new, h4]
  exact .ok h6
theorem sNext_wp {q : Fl × Ev → Mem → Prop} (h : q (.nx, ρ) m) : WP (sNext ρ m) q e := .ok h
end
/-! ### what is drawn from -/
structure Drw (k c : Nat) (m : Mem) : Prop where
  kn : k < m.n
  cn : c < m.n
  ne : k ≠ c
  at_ : ∃ (a p : Int) (xs : List Int), 0 ≤ a ∧ 0 ≤ p ∧ xs.length ≤ 1000 ∧ m.get k = some (.lst [.int a, .loc c, .int p]) ∧ m.get c = some (.lst (xs.map D.int))
structure Same (k c : Nat) (m m2 : Mem) : Prop where
  n : m.n ≤ m2.n
  at_ : ∀ j, j < m.n → j ≠ k → j ≠ c → m2.get j = m.get j
theorem Same.refl (k c : Nat) (m : Mem) : Same k c m m := ⟨Nat.le_refl _, fun _ _ _ _ => rfl⟩
theorem Same.trans {k c : Nat} {m1 m2 m3 : Mem} (a : Same k c m1 m2) (b : Same k c m2 m3) : Same k c m1 m3 := ⟨Nat.le_trans a.n b.n, fun j h h1 h2 => (b.at_ j (Nat.lt_of_lt_of_le h a.n) h1 h2).trans (a.at_ j h h1 h2)⟩
theorem Same.new {k c : Nat} {m1 m2 : Mem} {o : MO} (a : Same k c m1 m2) : Same k c m1 (m2.new o) := ⟨Nat.le_trans a.n (Nat.le_succ _), fun j h h1 h2 => ((Keep.new m2 o).at_ j (Nat.lt_of_lt_of_le h a.n)).trans (a.at_ j h h1 h2)⟩
theorem Keep.same {k c : Nat} {m1 m2 : Mem} (a : Keep m1 m2) : Same k c m1 m2 := ⟨a.n, fun j h _ _ => a.at_ j h⟩
theorem Drw.keep {k c : Nat} {m m2 : Mem} (d : Drw k c m) (a : Keep m m2) : Drw k c m2 := by
  obtain ⟨x, p, xs, h1, h2, h3, h4, h5⟩ := d.at_
  exact ⟨Nat.lt_of_lt_of_le d.kn a.n, Nat.lt_of_lt_of_le d.cn a.n, d.ne, x, p, xs, h1, h2, h3, (a.at_ _ d.kn).trans h4, (a.at_ _ d.cn).trans h5⟩
theorem lstOf_at {m : Mem} {k : Nat} {xs : List D} (h : k < m.n) (g : m.get k = some (.lst xs)) : lstOf m (.loc k) = some xs := by
  show (if k < m.n then (match m.get k with
    | some (.lst xs) => some xs
    | _ => none) else none) = some xs
  rw [if_pos h, g]
theorem gIx_lst {m : Mem} {d : D} {xs : List D} {i : Nat} {x : D} (h : sqOf m d = some xs) (hd : ∀ z, d ≠ .str z) (hx : xs[i]? = some x) : gIx d (.int i) m = some x := by
  have hi : i < xs.length := by
    by_cases c : i < xs.length
    · exact c
    · rw [List.getElem?_eq_none (by omega)] at hx
      cases hx
  have e : gIx d (.int i) m = (sqOf m d).bind fun xs => atD xs (i : Int) := by
    cases d <;> first
      | rfl
      | exact absurd rfl (hd _)
  rw [e, h]
  show (ixD xs.length (i : Int)).bind (fun j => xs[j]?) = some x
  unfold ixD
  rw [if_pos (Int.natCast_nonneg i), if_pos (by omega)]
  exact hx
theorem gIx_loc {m : Mem} {k : Nat} {xs : List D} {i : Nat} {x : D} (h : k < m.n) (g : m.get k = some (.lst xs)) (hx : xs[i]? = some x) : gIx (.loc k) (.int i) m = some x := gIx_lst (lstOf_at h g) (fun _ h => by cases h) hx
theorem put_at (m : Mem) (k : Nat) (o : MO) : (m.put k o).get k = some o := if_pos rfl
theorem put_ne {m : Mem} {k j : Nat} {o : MO} (h : j ≠ k) : (m.put k o).get j = m.get j := if_neg h
theorem lput_ok {l i f : SE} {ρ : Ev} {m : Mem} {k j : Nat} {xs : List D} {d : D} {v : Int} (hf : f ρ m = .ok d m) (hl : l ρ m = .ok (.loc k) m) (hi : i ρ m = .ok (.int v) m) (hk : k < m.n) (hg : m.get k = some (.lst xs)) (hx : ixD xs.length v = some j) : sLput l i f ρ m = .ok (.nx, ρ) (m.put k (.lst (xs.set j d))) := by
  unfold sLput
  rw [bind_ok hf, bind_ok hl, bind_ok hi]
  have h : lputK (.loc k) (.int v) d m = .ok () (m.put k (.lst (xs.set j d))) := by
    show (if k < m.n then (match m.get k with
      | some (.lst xs) => match (ixD xs.length v).map fun j => xs.set j d with
        | some ys => (Rs.ok () (m.put k (.lst ys)) : Rs Unit)
        | none => Rs.bad
      | _ => Rs.bad) else Rs.bad) = _
    rw [if_pos hk, hg]
    simp only [hx, Option.map_some]
  rw [bind_ok h]
  rfl
theorem ixD_nat {n i : Nat} (h : i < n) : ixD n (i : Int) = some i := by
  unfold ixD
  rw [if_pos (Int.natCast_nonneg i), if_pos (by omega)]
  rfl
theorem gMod_ok (i j : Int) (m : Mem) (h : 0 < j) : gMod (.int i) (.int j) m = some (.int (i % j)) := by
  show (if decide (j ≠ 0) = true then some (D.int (i.fmod j)) else none) = _
  rw [decide_eq_true (by omega), if_pos rfl, Int.fmod_eq_emod_of_nonneg _ (by omega)]
theorem gFdiv_ok (i j : Int) (m : Mem) (h : 0 < j) (h2 : j < 1073741824) : gFdiv (.int i) (.int j) m = some (.int (i / j)) := by
  show (if (decide (j ≠ 0) && decide (j.natAbs < 1073741824)) = true then some (D.int (i.fdiv j)) else none) = _
  rw [decide_eq_true (by omega), decide_eq_true (by omega), Bool.and_self, if_pos rfl, Int.fdiv_eq_ediv_of_nonneg _ (by omega)]
theorem gMul_r (i j : Int) (m : Mem) (h : small64 j = true) : gMul (.int i) (.int j) m = some (.int (i * j)) := by
  show (if (small64 i || small64 j) = true then some (D.int (i * j)) else none) = _
  rw [h, Bool.or_true, if_pos rfl]
/-! ### _law_next -/
def f_l_next : SS := sSeq (sAsg (op2 gMod (op2 gIx (vr 0) (cn (.int 2))) (opN gMax2 (argC (cn (.int 1)) (argC (opN gLen (argC (op2 gIx (vr 0) (cn (.int 1))) (argN))) (argN))))) (gNm 2)) (sSeq (sAsg (ifE (tV (op2 gNe (op2 gIx (vr 0) (cn (.int 1))) (lsl (argN)))) (op2 gIx (op2 gIx (vr 0) (cn (.int 1))) (vr 2)) (cn (.int 0))) (gNm 3)) (sSeq (sIf (tV (op2 gGe (vr 3) (op2 gPow (cn (.int 10)) (cn (.int 18))))) (sSeq (sLput (op2 gIx (vr 0) (cn (.int 1))) (vr 2) (op2 gFdiv (vr 3) (vr 1))) (sRet (op2 gMod (vr 3) (vr 1)))) (sNext)) (sSeq (sLput (vr 0) (cn (.int 0)) (op2 gMod (op2 gAdd (op2 gAdd (op2 gMul (op2 gIx (vr 0) (cn (.int 0))) (cn (.int 48271))) (op2 gMul (vr 3) (cn (.int 69621)))) (cn (.int 11))) (cn (.int 2147483647)))) (sSeq (sLput (vr 0) (cn (.int 2)) (op2 gAdd (op2 gIx (vr 0) (cn (.int 2))) (cn (.int 1)))) (sRet (op2 gMod (op2 gFdiv (op2 gIx (vr 0) (cn (.int 0))) (cn (.int 7))) (vr 1)))))))
def m_l_next : Fn := run 4 f_l_next
theorem le_l_next (ds : List D) (m : Mem) : LeR m (m_l_next ds m) (run 4 f_l_next ds m) := .same _
def Dq (k c : Nat) (m : Mem) (n : Int) : D → Mem → Prop := fun d m2 => ∃ v : Int, d = .int v ∧ 0 ≤ v ∧ v < n ∧ Drw k c m2 ∧ Same k c m m2 ∧ m2.n = m.n
theorem next_wp {k c : Nat} {m : Mem} {n : Int} (h : Drw k c m) (h0 : 0 < n) (h1 : n < 1073741824) : WP (m_l_next [.loc k, .int n] m) (Dq k c m n) fun _ _ => False := by
  obtain ⟨hk, hc, hne, a, p, xs, ha, hp, hlen, gk, gc⟩ := h
  unfold m_l_next
  refine run_wp ?_
  unfold f_l_next
  have hsz : (1000 : Nat) < sizeLine := by decide
  have i0 : gIx (.loc k) (.int 0) m = some (.int a) := gIx_loc (i := 0) hk gk rfl
  have i1 : gIx (.loc k) (.int 1) m = some (.loc c) := gIx_loc (i := 1) hk gk rfl
  have i2 : gIx (.loc k) (.int 2) m = some (.int p) := gIx_loc (i := 2) hk gk rfl
  have lc : lstOf m (.loc c) = some (xs.map D.int) := lstOf_at hc gc
  have gl : gLen [.loc c] m = some (.int xs.length) := by
    show (if c < m.n then (match m.get c with
      | some (.lst xs) => some (D.int xs.length)
      | some (.dct kvs) => some (D.int kvs.length)
      | _ => none) else none) = _
    rw [if_pos hc, gc]
    simp only [List.length_map]
  let mx : Int := if (xs.length : Int) > 1 then (xs.length : Int) else 1
  have hmx : 0 < mx := by
    show 0 < (if (xs.length : Int) > 1 then (xs.length : Int) else 1)
    split <;> omega
  let at_ : Int := p % mx
  have hat : 0 ≤ at_ := Int.emod_nonneg _ (by omega)
  have hat2 : at_ < mx := Int.emod_lt_of_pos _ hmx
  refine seq_then (asg_ok (d := .int at_) (op2_ok (x := .int p) (y := .int mx) (m1 := m) (m2 := m) (op2_ok rfl rfl i2) (opN_ok (arg2_ok (y := .int xs.length) rfl (opN_ok (arg1_ok (op2_ok rfl rfl i1)) gl)) rfl) (gMod_ok _ _ _ hmx)) rfl) ?_
  have hcell : ∃ cell : Int, ifE (tV (op2 gNe (op2 gIx (vr 0) (cn (.int 1))) (lsl (argN)))) (op2 gIx (op2 gIx (vr 0) (cn (.int 1))) (vr 2)) (cn (.int 0)) [some (.loc k), some (.int n), some (.int at_), none] m = .ok (.int cell) m ∧ (xs ≠ [] → at_.toNat < xs.length) ∧ (xs = [] → cell = 0) := by
    have ht : tV (op2 gNe (op2 gIx (vr 0) (cn (.int 1))) (lsl (argN))) [some (.loc k), some (.int n), some (.int at_), none] m = .ok (!xs.isEmpty) m := by
      refine tV_ok (op2_ok (op2_ok rfl rfl i1) (lsl_ok (xs := []) rfl (by decide)) ?_)
      show (eqOf m (.loc c) (.lst [])).map (fun b => D.bl (!b)) = _
      rw [eqOf_nil lc]
      rfl
    rw [ifE_ok ht]
    by_cases hx : xs = []
    · subst hx
      exact ⟨0, rfl, fun h => absurd rfl h, fun _ => rfl⟩
    · have hpos : 0 < xs.length := List.length_pos_iff.mpr hx
      have hlt : at_.toNat < xs.length := by
        have h3 : mx ≤ xs.length := by
          show (if (xs.length : Int) > 1 then (xs.length : Int) else 1) ≤ _
          split <;> omega
        omega
      have he : (!xs.isEmpty) = true := by
        cases xs with
        | nil => exact absurd rfl hx
        | cons _ _ => rfl
      rw [he]
      simp only [if_true]
      refine ⟨xs[at_.toNat], op2_ok (x := .loc c) (y := .int (at_.toNat : Nat)) (m1 := m) (op2_ok rfl rfl i1) ?_ (gIx_loc hc gc (by rw [List.getElem?_map, List.getElem?_eq_getElem hlt]; rfl)), fun _ => hlt, fun h => absurd h hx⟩
      rw [Int.toNat_of_nonneg hat]
      rfl
  obtain ⟨cell, hce, hin, h00⟩ := hcell
  refine seq_then (asg_ok hce rfl) ?_
  have hge : tV (op2 gGe (vr 3) (op2 gPow (cn (.int 10)) (cn (.int 18)))) [some (.loc k), some (.int n), some (.int at_), some (.int cell)] m = .ok (decide ((1000000000000000000 : Int) ≤ cell)) m := tV_ok (op2_ok rfl (op2_ok rfl rfl (d := .int 1000000000000000000) rfl) rfl)
  by_cases hbig : (1000000000000000000 : Int) ≤ cell
  · rw [decide_eq_true hbig] at hge
    have hx : xs ≠ [] := fun h => by have := h00 h; omega
    have hlt := hin hx
    refine seq_wp (if_yes_wp hge ?_)
    have hput := lput_ok (l := op2 gIx (vr 0) (cn (.int 1))) (i := vr 2) (f := op2 gFdiv (vr 3) (vr 1)) (ρ := [some (.loc k), some (.int n), some (.int at_), some (.int cell)]) (m := m) (k := c) (j := at_.toNat) (xs := xs.map D.int) (d := .int (cell / n)) (v := (at_.toNat : Nat)) (op2_ok rfl rfl (gFdiv_ok _ _ _ h0 h1)) (op2_ok rfl rfl i1) (by rw [Int.toNat_of_nonneg hat]; rfl) hc gc (ixD_nat (by rw [List.length_map]; exact hlt))
    refine seq_then hput ?_
    refine .eq (ret_ok (op2_ok rfl rfl (gMod_ok cell n _ h0))) ?_
    refine ⟨cell % n, rfl, Int.emod_nonneg _ (by omega), Int.emod_lt_of_pos _ h0, ⟨hk, hc, hne, a, p, xs.set at_.toNat (cell / n), ha, hp, by rw [List.length_set]; exact hlen, ?_, ?_⟩, ⟨Nat.le_refl _, fun j _ _ h2 => put_ne h2⟩, rfl⟩
    · rw [put_ne hne]
      exact gk
    · rw [put_at, List.map_set]
  · rw [decide_eq_false hbig] at hge
    refine seq_wp (if_no_wp hge (sNext_wp ?_))
    show WP _ _ _
    let a2 : Int := (a * 48271 + cell * 69621 + 11) % 2147483647
    have ha2 : 0 ≤ a2 := Int.emod_nonneg _ (by decide)
    have hput := lput_ok (l := vr 0) (i := cn (.int 0)) (f := op2 gMod (op2 gAdd (op2 gAdd (op2 gMul (op2 gIx (vr 0) (cn (.int 0))) (cn (.int 48271))) (op2 gMul (vr 3) (cn (.int 69621)))) (cn (.int 11))) (cn (.int 2147483647))) (ρ := [some (.loc k), some (.int n), some (.int at_), some (.int cell)]) (m := m) (k := k) (j := 0) (xs := [.int a, .loc c, .int p]) (d := .int a2) (v := 0)
      (op2_ok (op2_ok (op2_ok (op2_ok (op2_ok rfl rfl i0) rfl (gMul_r _ _ _ (by decide))) (op2_ok rfl rfl (gMul_r _ _ _ (by decide))) rfl) rfl rfl) rfl (gMod_ok _ _ _ (by decide))) rfl rfl hk gk rfl
    refine seq_then hput ?_
    have gk2 : (m.put k (.lst [.int a2, .loc c, .int p])).get k = some (.lst [.int a2, .loc c, .int p]) := put_at _ _ _
    have hput2 := lput_ok (l := vr 0) (i := cn (.int 2)) (f := op2 gAdd (op2 gIx (vr 0) (cn (.int 2))) (cn (.int 1))) (ρ := [some (.loc k), some (.int n), some (.int at_), some (.int cell)]) (m := m.put k (.lst [.int a2, .loc c, .int p])) (k := k) (j := 2) (xs := [.int a2, .loc c, .int p]) (d := .int (p + 1)) (v := 2) (op2_ok (op2_ok rfl rfl (gIx_loc (i := 2) hk gk2 rfl)) rfl rfl) rfl rfl hk gk2 rfl
    refine seq_then hput2 ?_
    have gk3 : ((m.put k (.lst [.int a2, .loc c, .int p])).put k (.lst [.int a2, .loc c, .int (p + 1)])).get k = some (.lst [.int a2, .loc c, .int (p + 1)]) := put_at _ _ _
    refine .eq (ret_ok (op2_ok (op2_ok (op2_ok rfl rfl (gIx_loc (i := 0) hk gk3 rfl)) rfl (gFdiv_ok _ _ _ (by decide) (by decide))) rfl (gMod_ok _ n _ h0))) ?_
    refine ⟨(a2 / 7) % n, rfl, Int.emod_nonneg _ (by omega), Int.emod_lt_of_pos _ h0, ⟨hk, hc, hne, a2, p + 1, xs, ha2, by omega, hlen, gk3, ?_⟩, ⟨Nat.le_refl _, fun j _ h2 _ => (put_ne h2).trans (put_ne h2)⟩, rfl⟩
    rw [put_ne (Ne.symm hne), put_ne (Ne.symm hne)]
    exact gc
theorem draw_e {k c : Nat} {m : Mem} {n : Int} {vh vn : SE} {ρ : Ev} {e : Er → Mem → Prop} {q : D → Mem → Prop} (hh : vh ρ m = .ok (.loc k) m) (hn : vn ρ m = .ok (.int n) m) (h : Drw k c m) (h0 : 0 < n) (h1 : n < 1073741824)
    (hq : ∀ (v : Int) (m2 : Mem), 0 ≤ v → v < n → Drw k c m2 → Same k c m m2 → m2.n = m.n → q (.int v) m2) : WP (callN 2 m_l_next (argC vh (argC vn (argN))) ρ m) q e := by
  rw [callN_ok (np := 2) (arg2_ok hh hn) rfl]
  refine (next_wp h h0 h1).any fun d m2 z => ?_
  obtain ⟨v, rfl, a1, a2, a3, a4, a5⟩ := z
  exact hq v m2 a1 a2 a3 a4 a5
/-! ### _law_mill -/
def f_l_mill : SS := sSeq (sAsg (callN 2 m_l_next (argC (vr 0) (argC (cn (.int 9)) (argN)))) (gNm 1)) (sSeq (sIf (tV (op2 gLt (vr 1) (cn (.int 2)))) (sRet (op2 gIx (lsl (argC (tpl (argC (cn (.int 0)) (argC (cn (.int 0)) (argC (cn (.int 0)) (argC (cn (.int 0)) (argN)))))) (argC (tpl (argC (cn (.int 2)) (argC (cn (.int 4)) (argC (cn (.int 4)) (argC (cn (.int 3)) (argN)))))) (argN)))) (vr 1))) (sNext)) (sRet (opN gTuple (argC (comp (itSeq (tpl (argC (cn (.int 2)) (argC (cn (.int 4)) (argC (cn (.int 4)) (argC (cn (.int 3)) (argN))))))) (gNm 2) (LB.tYes) (callN 2 m_l_next (argC (vr 0) (argC (op2 gAdd (vr 2) (cn (.int 1))) (argN)))) [2]) (argN)))))
def m_l_mill : Fn := run 3 f_l_mill
theorem le_l_mill (ds : List D) (m : Mem) : LeR m (m_l_mill ds m) (run 3 f_l_mill ds m) := .same _
def Rq {α : Type} (k c : Nat) (m : Mem) (enc : α → D) (P : α → Prop) : D → Mem → Prop := fun d m2 => ∃ a, d = enc a ∧ P a ∧ Drw k c m2 ∧ Same k c m m2
theorem mill_wp {k c : Nat} {m : Mem} (h : Drw k c m) : WP (m_l_mill [.loc k] m) (Rq k c m Mill.enc Mill.ok) fun _ _ => False := by
  unfold m_l_mill
  refine run_wp ?_
  unfold f_l_mill
  refine seq_wp (asg_wp (draw_e rfl rfl h (by decide) (by decide) fun v m2 v0 v1 d2 s2 _ => ⟨[some (.loc k), some (.int v), none], rfl, ?_⟩))
  show WP _ _ _
  by_cases hv : v < 2
  · refine seq_wp (if_yes_wp (m1 := m2) (tV_ok (op2_ok (x := .int v) (y := .int 2) rfl rfl (show gLt (.int v) (.int 2) m2 = _ from by
      show some (D.bl (decide (v < 2))) = _
      rw [decide_eq_true hv]))) ?_)
    have hz : v = 0 ∨ v = 1 := by omega
    rcases hz with rfl | rfl
    · exact .eq (ret_ok rfl) ⟨⟨0, 0, 0, 0⟩, rfl, ⟨by decide, by decide, by decide, by decide⟩, d2, s2⟩
    · exact .eq (ret_ok rfl) ⟨⟨2, 4, 4, 3⟩, rfl, ⟨by decide, by decide, by decide, by decide⟩, d2, s2⟩
  · refine seq_wp (if_no_wp (m1 := m2) (tV_ok (op2_ok (x := .int v) (y := .int 2) rfl rfl (show gLt (.int v) (.int 2) m2 = _ from by
      show some (D.bl (decide (v < 2))) = _
      rw [decide_eq_false hv]))) (sNext_wp ?_))
    show WP _ _ _
    refine ret_wp (opN_wp (argC_wp (comp_wp ((compL_wp (m := m2) (xs := [.int 2, .int 4, .int 4, .int 3]) (I := fun i acc m3 => Drw k c m3 ∧ Same k c m m3 ∧ ∃ vs : List Nat, acc = vs.map (fun v : Nat => D.int v) ∧ vs.length = i ∧ (∀ (j x : Nat), vs[j]? = some x → ∃ b : Nat, ([2, 4, 4, 3] : List Nat)[j]? = some b ∧ x ≤ b)) (itSeq_ok (d := .tup [.int 2, .int 4, .int 4, .int 3]) rfl rfl) (fun i acc m3 _ => wkSeq_const rfl i) ⟨d2, s2, [], rfl, rfl, fun j x h => by simp at h⟩ ?_).mono ?_))))
    · intro i x acc m3 hx hI
      obtain ⟨d3, s3, vs, rfl, hl, hvs⟩ := hI
      have hb : ∃ b : Nat, ([2, 4, 4, 3] : List Nat)[i]? = some b ∧ x = .int b ∧ b ≤ 4 := by
        match i, hx with
        | 0, hx => cases hx; exact ⟨2, rfl, rfl, by decide⟩
        | 1, hx => cases hx; exact ⟨4, rfl, rfl, by decide⟩
        | 2, hx => cases hx; exact ⟨4, rfl, rfl, by decide⟩
        | 3, hx => cases hx; exact ⟨3, rfl, rfl, by decide⟩
      obtain ⟨b, hb1, rfl, hb4⟩ := hb
      refine ⟨[some (.loc k), some (.int v), some (.int b)], rfl, draw_e (n := (b : Int) + 1) rfl (op2_ok rfl rfl rfl) d3 (by omega) (by omega) fun u m4 u0 u1 d4 s4 _ => ⟨?_, d4, s3.trans s4, vs ++ [u.toNat], ?_, by rw [List.length_append, hl]; rfl, ?_⟩⟩
      · rw [List.length_map, hl]
        have : i < 4 := by
          by_cases hi : i < 4
          · exact hi
          · rw [List.getElem?_eq_none (by show 4 ≤ i; omega)] at hb1
            cases hb1
        exact Nat.lt_trans this (by decide)
      · rw [List.map_append]
        show _ = _ ++ [D.int (u.toNat : Nat)]
        rw [Int.toNat_of_nonneg u0]
      · intro j x hj
        by_cases hji : j < vs.length
        · rw [List.getElem?_append_left hji] at hj
          exact hvs j x hj
        · rw [List.getElem?_append_right (by omega)] at hj
          have e0 : j - vs.length = 0 := by
            by_cases q0 : j - vs.length = 0
            · exact q0
            · rw [List.getElem?_eq_none (by show 1 ≤ _; omega)] at hj
              cases hj
          rw [e0] at hj
          cases hj
          have e1 : j = i := by omega
          exact ⟨b, e1 ▸ hb1, by omega⟩
    · intro ys m3 hI
      obtain ⟨d3, s3, vs, rfl, hl, hvs⟩ := hI
      refine argN_wp ⟨.tup (vs.map fun v : Nat => D.int v), rfl, ?_⟩
      have hl4 : vs.length = 4 := hl
      match vs, hl4, hvs with
      | [a, b, x, j], _, hvs =>
        have h0 := hvs 0 a rfl
        have h1 := hvs 1 b rfl
        have h2 := hvs 2 x rfl
        have h3 := hvs 3 j rfl
        simp at h0 h1 h2 h3
        exact ⟨⟨a, b, x, j⟩, rfl, ⟨h0, h1, h2, h3⟩, d3, s3⟩
/-! ### _law_number, _law_boxes -/
def f_l_number : SS := sRet (op2 gIx (lsl (argC (callN 2 m_l_next (argC (vr 0) (argC (cn (.int 4)) (argN)))) (argC (callN 2 m_l_next (argC (vr 0) (argC (cn (.int 1000)) (argN)))) (argN)))) (callN 2 m_l_next (argC (vr 0) (argC (cn (.int 2)) (argN)))))
def m_l_number : Fn := run 1 f_l_number
theorem le_l_number (ds : List D) (m : Mem) : LeR m (m_l_number ds m) (run 1 f_l_number ds m) := .same _
theorem number_wp {k c : Nat} {m : Mem} (h : Drw k c m) : WP (m_l_number [.loc k] m) (Dq k c m 1000) fun _ _ => False := by
  unfold m_l_number
  refine run_wp ?_
  unfold f_l_number
  refine ret_wp (op2_wp (lsl_wp (argC_wp (draw_e rfl rfl h (by decide) (by decide) fun v m2 v0 v1 d2 s2 n2 => argC_wp (draw_e rfl rfl d2 (by decide) (by decide) fun u m3 u0 u1 d3 s3 n3 => argN_wp ⟨(by decide : 2 ≤ 1000), ?_⟩)))))
  refine draw_e rfl rfl d3 (by decide) (by decide) fun w m4 w0 w1 d4 s4 n4 => ?_
  have hz : w = 0 ∨ w = 1 := by omega
  rcases hz with rfl | rfl
  · exact ⟨.int v, rfl, v, rfl, v0, by omega, d4, (s2.trans s3).trans s4, by rw [n4, n3, n2]⟩
  · exact ⟨.int u, rfl, u, rfl, u0, u1, d4, (s2.trans s3).trans s4, by rw [n4, n3, n2]⟩
def f_l_boxes : SS := sRet (tpl (argC (callN 2 m_l_next (argC (vr 0) (argC (cn (.int 8)) (argN)))) (argC (op2 gIx (lsl (argC (cn (.int 2)) (argC (cn (.int 3)) (argC (cn (.int 8)) (argN))))) (callN 2 m_l_next (argC (vr 0) (argC (cn (.int 3)) (argN))))) (argN))))
def m_l_boxes : Fn := run 1 f_l_boxes
theorem le_l_boxes (ds : List D) (m : Mem) : LeR m (m_l_boxes ds m) (run 1 f_l_boxes ds m) := .same _
structure Bx where
  b : Int
  w : Int
def Bx.enc (x : Bx) : D := .tup [.int x.b, .int x.w]
def Bx.ok (x : Bx) : Prop := 0 ≤ x.b ∧ x.b < 8 ∧ 0 < x.w ∧ x.w ≤ 8
theorem boxes_wp {k c : Nat} {m : Mem} (h : Drw k c m) : WP (m_l_boxes [.loc k] m) (Rq k c m Bx.enc Bx.ok) fun _ _ => False := by
  unfold m_l_boxes
  refine run_wp ?_
  unfold f_l_boxes
  refine ret_wp (tpl_wp (argC_wp (draw_e rfl rfl h (by decide) (by decide) fun v m2 v0 v1 d2 s2 n2 => argC_wp (op2_wp (.eq (x := .lst [.int 2, .int 3, .int 8]) (m := m2) rfl ?_)))))
  refine draw_e rfl rfl d2 (by decide) (by decide) fun w m4 w0 w1 d4 s4 n4 => ?_
  have hz : w = 0 ∨ w = 1 ∨ w = 2 := by omega
  rcases hz with rfl | rfl | rfl
  · exact ⟨.int 2, rfl, argN_wp ⟨(show 2 ≤ 1000 by decide), ⟨v, 2⟩, rfl, ⟨v0, v1, (show (0 : Int) < 2 by decide), (show (2 : Int) ≤ 8 by decide)⟩, d4, s2.trans s4⟩⟩
  · exact ⟨.int 3, rfl, argN_wp ⟨(show 2 ≤ 1000 by decide), ⟨v, 3⟩, rfl, ⟨v0, v1, (show (0 : Int) < 3 by decide), (show (3 : Int) ≤ 8 by decide)⟩, d4, s2.trans s4⟩⟩
  · exact ⟨.int 8, rfl, argN_wp ⟨(show 2 ≤ 1000 by decide), ⟨v, 8⟩, rfl, ⟨v0, v1, (show (0 : Int) < 8 by decide), (show (8 : Int) ≤ 8 by decide)⟩, d4, s2.trans s4⟩⟩
theorem lput_wp {l i f : SE} {ρ : Ev} {m : Mem} {e : Er → Mem → Prop} {q : Fl × Ev → Mem → Prop} (h : WP (f ρ m) (fun d m1 => ∃ (k j : Nat) (xs : List D) (v : Int), l ρ m1 = .ok (.loc k) m1 ∧ i ρ m1 = .ok (.int v) m1 ∧ k < m1.n ∧ m1.get k = some (.lst xs) ∧ ixD xs.length v = some j ∧ q (.nx, ρ) (m1.put k (.lst (xs.set j d)))) e) : WP (sLput l i f ρ m) q e := by
  unfold sLput
  refine .bind (h.mono fun d m1 z => ?_)
  obtain ⟨k, j, xs, v, hl, hi, hk, hg, hx, hq⟩ := z
  rw [bind_ok hl, bind_ok hi]
  have h : lputK (.loc k) (.int v) d m1 = .ok () (m1.put k (.lst (xs.set j d))) := by
    show (if k < m1.n then (match m1.get k with
      | some (.lst xs) => match (ixD xs.length v).map fun j => xs.set j d with
        | some ys => (Rs.ok () (m1.put k (.lst ys)) : Rs Unit)
        | none => Rs.bad
      | _ => Rs.bad) else Rs.bad) = _
    rw [if_pos hk, hg]
    simp only [hx, Option.map_some]
  rw [bind_ok h]
  exact .ok hq
/-! ### _law_deed -/
def f_l_deed : SS := sSeq (sAsg (lsl (argC (cn (.str (Str.ofString "put"))) (argC (cn (.str (Str.ofString "put"))) (argC (cn (.str (Str.ofString "move"))) (argC (cn (.str (Str.ofString "add"))) (argC (cn (.str (Str.ofString "add"))) (argC (cn (.str (Str.ofString "take"))) (argC (cn (.str (Str.ofString "times"))) (argC (cn (.str (Str.ofString "times"))) (argC (cn (.str (Str.ofString "get"))) (argC (cn (.str (Str.ofString "get"))) (argC (cn (.str (Str.ofString "set"))) (argC (cn (.str (Str.ofString "set"))) (argC (cn (.str (Str.ofString "say"))) (argC (cn (.str (Str.ofString "say"))) (argN)))))))))))))))) (gNm 2)) (sSeq (sAsg (op2 gIx (op2 gAdd (vr 2) (lsl (argC (cn (.str (Str.ofString "rest"))) (argN)))) (callN 2 m_l_next (argC (vr 0) (argC (cn (.int 15)) (argN))))) (gNm 3)) (sSeq (sAsgU (comp (itRng1 (argC (cn (.int 3)) (argN))) (gNm 7) (LB.tYes) (op2 gMod (op2 gAdd (op2 gIx (vr 1) (cn (.int 0))) (callN 2 m_l_next (argC (vr 0) (argC (op2 gIx (vr 1) (cn (.int 1))) (argN))))) (cn (.int 8))) [7]) [4, 5, 6]) (sSeq (sIf (tV (op2 gIn (vr 3) (tpl (argC (cn (.str (Str.ofString "add"))) (argC (cn (.str (Str.ofString "take"))) (argC (cn (.str (Str.ofString "times"))) (argN))))))) (sRet (tpl (argC (vr 3) (argC (vr 4) (argC (vr 5) (argC (vr 6) (argN))))))) (sNext)) (sRet (dget2 (dspE [(cn (.str (Str.ofString "put")), tpl (argC (vr 3) (argC (vr 4) (argC (callN 1 m_l_number (argC (vr 0) (argN))) (argN))))), (cn (.str (Str.ofString "say")), tpl (argC (vr 3) (argC (vr 5) (argN)))), (cn (.str (Str.ofString "rest")), tpl (argC (vr 3) (argN)))]) (vr 3) (tpl (argC (vr 3) (argC (vr 4) (argC (vr 5) (argN))))))))))
def m_l_deed : Fn := run 8 f_l_deed
theorem le_l_deed (ds : List D) (m : Mem) : LeR m (m_l_deed ds m) (run 8 f_l_deed ds m) := .same _
def words15 : List D := [.str "put", .str "put", .str "move", .str "add", .str "add", .str "take", .str "times", .str "times", .str "get", .str "get", .str "set", .str "set", .str "say", .str "say", .str "rest"]
theorem word15 {v : Int} (h0 : 0 ≤ v) (h1 : v < 15) : ∃ i, i < 9 ∧ ∀ m, gIx (.lst words15) (.int v) m = some (.str (wordAt i)) := by
  have hz : v = 0 ∨ v = 1 ∨ v = 2 ∨ v = 3 ∨ v = 4 ∨ v = 5 ∨ v = 6 ∨ v = 7 ∨ v = 8 ∨ v = 9 ∨ v = 10 ∨ v = 11 ∨ v = 12 ∨ v = 13 ∨ v = 14 := by omega
  rcases hz with rfl | rfl | rfl | rfl | rfl | rfl | rfl | rfl | rfl | rfl | rfl | rfl | rfl | rfl | rfl
  · exact ⟨0, by decide, fun _ => rfl⟩
  · exact ⟨0, by decide, fun _ => rfl⟩
  · exact ⟨1, by decide, fun _ => rfl⟩
  · exact ⟨2, by decide, fun _ => rfl⟩
  · exact ⟨2, by decide, fun _ => rfl⟩
  · exact ⟨3, by decide, fun _ => rfl⟩
  · exact ⟨4, by decide, fun _ => rfl⟩
  · exact ⟨4, by decide, fun _ => rfl⟩
  · exact ⟨5, by decide, fun _ => rfl⟩
  · exact ⟨5, by decide, fun _ => rfl⟩
  · exact ⟨6, by decide, fun _ => rfl⟩
  · exact ⟨6, by decide, fun _ => rfl⟩
  · exact ⟨7, by decide, fun _ => rfl⟩
  · exact ⟨7, by decide, fun _ => rfl⟩
  · exact ⟨8, by decide, fun _ => rfl⟩
structure DeedOk (r : Row) : Prop where
  ok : ∀ rows, r.okB rows = true
  ends : r.ends = false
def in8 (v : Int) : Prop := 0 ≤ v ∧ v < 8
theorem okB8 {rows v : Int} {s : Nat} (h : in8 v) (hs : s < 2) : (decide (0 ≤ v) && decide (v ≤ most rows s - 1)) = true := by
  have e : most rows s = 8 := by
    have hz : s = 0 ∨ s = 1 := by omega
    rcases hz with rfl | rfl <;> rfl
  rw [e, decide_eq_true h.1, decide_eq_true (by have := h.2; omega)]
  rfl
theorem ok1 {rows a : Int} {s : Nat} (ha : in8 a) (hs : s < 2) : (([a] : List Int).zip [s]).all (fun q => decide (0 ≤ q.1) && decide (q.1 ≤ most rows q.2 - 1)) = true := by
  show ((decide (0 ≤ a) && decide (a ≤ most rows s - 1)) && true) = true
  rw [okB8 ha hs]
  rfl
theorem ok2 {rows a b : Int} {s t : Nat} (ha : in8 a) (hb : in8 b) (hs : s < 2) (ht : t < 2) : (([a, b] : List Int).zip [s, t]).all (fun q => decide (0 ≤ q.1) && decide (q.1 ≤ most rows q.2 - 1)) = true := by
  show ((decide (0 ≤ a) && decide (a ≤ most rows s - 1)) && ((decide (0 ≤ b) && decide (b ≤ most rows t - 1)) && true)) = true
  rw [okB8 ha hs, okB8 hb ht]
  rfl
theorem ok3 {rows a b c : Int} {s t u : Nat} (ha : in8 a) (hb : in8 b) (hc : in8 c) (hs : s < 2) (ht : t < 2) (hu : u < 2) : (([a, b, c] : List Int).zip [s, t, u]).all (fun q => decide (0 ≤ q.1) && decide (q.1 ≤ most rows q.2 - 1)) = true := by
  show ((decide (0 ≤ a) && decide (a ≤ most rows s - 1)) && ((decide (0 ≤ b) && decide (b ≤ most rows t - 1)) && ((decide (0 ≤ c) && decide (c ≤ most rows u - 1)) && true))) = true
  rw [okB8 ha hs, okB8 hb ht, okB8 hc hu]
  rfl
theorem mod8 (v : Int) : in8 (v % 8) := ⟨Int.emod_nonneg _ (by decide), Int.emod_lt_of_pos _ (by decide)⟩
abbrev deedE : SE := dget2 (dspE [(cn (.str (Str.ofString "put")), tpl (argC (vr 3) (argC (vr 4) (argC (callN 1 m_l_number (argC (vr 0) (argN))) (argN))))), (cn (.str (Str.ofString "say")), tpl (argC (vr 3) (argC (vr 5) (argN)))), (cn (.str (Str.ofString "rest")), tpl (argC (vr 3) (argN)))]) (vr 3) (tpl (argC (vr 3) (argC (vr 4) (argC (vr 5) (argN)))))
theorem deed_tail {k c : Nat} {m : Mem} {ρ : Ev} {w : Str} {p q : Int} {e : Er → Mem → Prop} (h : Drw k c m) (h0 : ρ[0]? = some (some (.loc k))) (h3 : ρ[3]? = some (some (.str w))) (h4 : ρ[4]? = some (some (.int p))) (h5 : ρ[5]? = some (some (.int q))) (_ : True = True) :
    WP (deedE ρ m) (fun d m2 => ∃ u : Int, 0 ≤ u ∧ u < 1000 ∧ d = (valK (mergeD [] [(.inr "put", .tup [.str w, .int p, .int u]), (.inr "say", .tup [.str w, .int q]), (.inr "rest", .tup [.str w])]) (.inr w)).getD (.tup [.str w, .int p, .int q]) ∧ Drw k c m2 ∧ Same k c m m2) e := by
  have v0 (m : Mem) : vr 0 ρ m = .ok (.loc k) m := vr_ok h0
  have v3 (m : Mem) : vr 3 ρ m = .ok (.str w) m := vr_ok h3
  have v4 (m : Mem) : vr 4 ρ m = .ok (.int p) m := vr_ok h4
  have v5 (m : Mem) : vr 5 ρ m = .ok (.int q) m := vr_ok h5
  refine dget2_wp ?_
  refine prC_wp (.eq (x := .str "put") (m := m) rfl ?_)
  refine tpl_wp (argC_wp (.eq (v3 m) ?_))
  refine argC_wp (.eq (v4 m) ?_)
  refine argC_wp (callN_wp (.eq (arg1_ok (v0 m)) ⟨rfl, ?_⟩))
  refine (number_wp h).any fun d m4 z => ?_
  obtain ⟨u, rfl, u0, u1, d4, s4, _⟩ := z
  refine argN_wp ⟨(show 3 ≤ 1000 by decide), ?_⟩
  refine prC_wp (.eq (x := .str "say") (m := m4) rfl ?_)
  refine .eq (tpl_ok (arg2_ok (v3 m4) (v5 m4)) (show 2 ≤ 1000 by decide)) ?_
  refine prC_wp (.eq (x := .str "rest") (m := m4) rfl ?_)
  refine .eq (tpl_ok (arg1_ok (v3 m4)) (show 1 ≤ 1000 by decide)) ?_
  refine prN_wp ⟨[(.inr "put", .tup [.str w, .int p, .int u]), (.inr "say", .tup [.str w, .int q]), (.inr "rest", .tup [.str w])], .str w, .tup [.str w, .int p, .int q], .inr w, rfl, (show 3 ≤ 15 by decide), v3 _, rfl, tpl_ok (arg3_ok (v3 _) (v4 _) (v5 _)) (show 3 ≤ 1000 by decide), u, u0, u1, rfl, d4.keep (.new _ _), s4.new⟩
theorem deed_wp {k c : Nat} {m : Mem} {x : Bx} (h : Drw k c m) (hx : x.ok) : WP (m_l_deed [.loc k, x.enc] m) (Rq k c m Row.enc DeedOk) fun _ _ => False := by
  have hw8 : x.w ≤ 8 := hx.2.2.2
  unfold m_l_deed
  refine run_wp ?_
  unfold f_l_deed
  refine seq_then (asg_ok (d := .lst [.str "put", .str "put", .str "move", .str "add", .str "add", .str "take", .str "times", .str "times", .str "get", .str "get", .str "set", .str "set", .str "say", .str "say"]) rfl rfl) ?_
  refine seq_wp (asg_wp (op2_wp (.eq (x := .lst words15) (m := m) rfl (draw_e rfl rfl h (by decide) (by decide) fun v m2 v0 v1 d2 s2 _ => ?_))))
  obtain ⟨i, hi, hg⟩ := word15 v0 v1
  refine ⟨.str (wordAt i), hg m2, _, rfl, ?_⟩
  show WP _ _ _
  refine seq_wp (asgU_wp (comp_wp ((compL_wp (m := m2) (xs := (List.range 3).map fun j => D.int (0 + (j : Nat))) (I := fun i acc m3 => Drw k c m3 ∧ Same k c m m3 ∧ ∃ vs : List Int, acc = vs.map D.int ∧ vs.length = i ∧ i ≤ 3 ∧ ∀ v, v ∈ vs → in8 v) (it1_ok (hi := 3) rfl rfl) (fun i acc m3 _ => wkRng_eq 0 3 i m3) ⟨d2, s2, [], rfl, rfl, by decide, fun v h => by cases h⟩ ?_).mono ?_)))
  · intro j y acc m3 hy hI
    obtain ⟨d3, s3, vs, rfl, hl, hj, hvs⟩ := hI
    have hj3 : j < 3 := by
      by_cases q : j < 3
      · exact q
      · rw [List.getElem?_eq_none (by rw [List.length_map, List.length_range]; omega)] at hy
        cases hy
    refine ⟨_, rfl, op2_wp (op2_wp (.eq (x := .int x.b) (m := m3) rfl ?_))⟩
    refine callN_wp (.eq (x := [.loc k, .int x.w]) (m := m3) rfl ⟨rfl, (next_wp d3 hx.2.2.1 (by omega)).any fun d m4 z => ?_⟩)
    obtain ⟨u, rfl, u0, u1, d4, s4, _⟩ := z
    refine ⟨.int (x.b + u), rfl, .eq (x := .int 8) (m := m4) rfl ⟨.int ((x.b + u) % 8), gMod_ok _ _ _ (by decide), ?_⟩⟩
    refine ⟨by rw [List.length_map, hl]; exact Nat.lt_trans hj3 (by decide), d4, s3.trans s4, vs ++ [(x.b + u) % 8], by rw [List.map_append]; rfl, by rw [List.length_append, hl]; rfl, hj3, fun v hv => ?_⟩
    rcases List.mem_append.mp hv with q | q
    · exact hvs v q
    · cases List.mem_singleton.mp q
      exact mod8 _
  · intro ys m3 hI
    obtain ⟨d3, s3, vs, rfl, hl, _, hvs⟩ := hI
    have hl3 : vs.length = 3 := by rw [hl, List.length_map, List.length_range]
    match vs, hl3, hvs with
    | [p, q, r], _, hvs =>
      have hp := hvs p (by simp)
      have hq := hvs q (by simp)
      have hr := hvs r (by simp)
      refine ⟨[some (.loc k), some x.enc, some (.lst [.str "put", .str "put", .str "move", .str "add", .str "add", .str "take", .str "times", .str "times", .str "get", .str "get", .str "set", .str "set", .str "say", .str "say"]), some (.str (wordAt i)), some (.int p), some (.int q), some (.int r), none], rfl, ?_⟩
      show WP _ _ _
      match i, hi with
      | 2, _ => exact seq_wp (if_yes_wp (m1 := m3) rfl (.eq (ret_ok rfl) ⟨.add p q r, rfl, ⟨fun _ => ok3 hp hq hr (by decide) (by decide) (by decide), rfl⟩, d3, s3⟩))
      | 3, _ => exact seq_wp (if_yes_wp (m1 := m3) rfl (.eq (ret_ok rfl) ⟨.take p q r, rfl, ⟨fun _ => ok3 hp hq hr (by decide) (by decide) (by decide), rfl⟩, d3, s3⟩))
      | 4, _ => exact seq_wp (if_yes_wp (m1 := m3) rfl (.eq (ret_ok rfl) ⟨.times p q r, rfl, ⟨fun _ => ok3 hp hq hr (by decide) (by decide) (by decide), rfl⟩, d3, s3⟩))
      | 0, _ =>
        refine seq_wp (if_no_wp (m1 := m3) rfl (sNext_wp ?_))
        refine ret_wp ((deed_tail d3 rfl rfl rfl rfl rfl).mono fun d m4 z => ?_)
        obtain ⟨u, u0, u1, rfl, d4, s4⟩ := z
        refine ⟨.put p u, rfl, ⟨fun rows => ?_, rfl⟩, d4, s3.trans s4⟩
        show ((decide (0 ≤ p) && decide (p ≤ most rows 0 - 1)) && ((decide (0 ≤ u) && decide (u ≤ most rows 2 - 1)) && true)) = true
        rw [okB8 hp (by decide), decide_eq_true u0, decide_eq_true (show u ≤ most rows 2 - 1 by show u ≤ (1000 : Int) - 1; omega)]
        rfl
      | 1, _ =>
        refine seq_wp (if_no_wp (m1 := m3) rfl (sNext_wp ?_))
        refine ret_wp ((deed_tail d3 rfl rfl rfl rfl rfl).mono fun d m4 z => ?_)
        obtain ⟨u, u0, u1, rfl, d4, s4⟩ := z
        exact ⟨.move p q, rfl, ⟨fun rows => ok2 hp hq (by decide) (by decide), rfl⟩, d4, s3.trans s4⟩
      | 5, _ =>
        refine seq_wp (if_no_wp (m1 := m3) rfl (sNext_wp ?_))
        refine ret_wp ((deed_tail d3 rfl rfl rfl rfl rfl).mono fun d m4 z => ?_)
        obtain ⟨u, u0, u1, rfl, d4, s4⟩ := z
        exact ⟨.get p q, rfl, ⟨fun rows => ok2 hp hq (by decide) (by decide), rfl⟩, d4, s3.trans s4⟩
      | 6, _ =>
        refine seq_wp (if_no_wp (m1 := m3) rfl (sNext_wp ?_))
        refine ret_wp ((deed_tail d3 rfl rfl rfl rfl rfl).mono fun d m4 z => ?_)
        obtain ⟨u, u0, u1, rfl, d4, s4⟩ := z
        exact ⟨.set p q, rfl, ⟨fun rows => ok2 hp hq (by decide) (by decide), rfl⟩, d4, s3.trans s4⟩
      | 7, _ =>
        refine seq_wp (if_no_wp (m1 := m3) rfl (sNext_wp ?_))
        refine ret_wp ((deed_tail d3 rfl rfl rfl rfl rfl).mono fun d m4 z => ?_)
        obtain ⟨u, u0, u1, rfl, d4, s4⟩ := z
        exact ⟨.say q, rfl, ⟨fun rows => ok1 hq (by decide), rfl⟩, d4, s3.trans s4⟩
      | 8, _ =>
        refine seq_wp (if_no_wp (m1 := m3) rfl (sNext_wp ?_))
        refine ret_wp ((deed_tail d3 rfl rfl rfl rfl rfl).mono fun d m4 z => ?_)
        obtain ⟨u, u0, u1, rfl, d4, s4⟩ := z
        exact ⟨.rest, rfl, ⟨fun rows => rfl, rfl⟩, d4, s3.trans s4⟩
/-! ### _law_jump -/
def f_l_jump : SS := sSeq (sAsg (opN gMin2 (argC (op2 gSub (vr 3) (cn (.int 1))) (argC (op2 gAdd (op2 gAdd (vr 2) (cn (.int 1))) (callN 2 m_l_next (argC (vr 0) (argC (op2 gSub (vr 3) (vr 2)) (argN))))) (argN)))) (gNm 4)) (sSeq (sIf (tV (op2 gEq (callN 2 m_l_next (argC (vr 0) (argC (cn (.int 4)) (argN)))) (cn (.int 0)))) (sAsg (callN 2 m_l_next (argC (vr 0) (argC (vr 3) (argN)))) (gNm 4)) (sNext)) (sSeq (sAsg (op2 gMod (op2 gAdd (op2 gIx (vr 1) (cn (.int 0))) (callN 2 m_l_next (argC (vr 0) (argC (op2 gIx (vr 1) (cn (.int 1))) (argN))))) (cn (.int 8))) (gNm 5)) (sRet (op2 gIx (lsl (argC (tpl (argC (cn (.str (Str.ofString "go"))) (argC (vr 4) (argN)))) (argC (tpl (argC (cn (.str (Str.ofString "if"))) (argC (vr 5) (argC (vr 4) (argN))))) (argC (tpl (argC (cn (.str (Str.ofString "if"))) (argC (vr 5) (argC (vr 4) (argN))))) (argC (tpl (argC (cn (.str (Str.ofString "stop"))) (argN))) (argN)))))) (callN 2 m_l_next (argC (vr 0) (argC (cn (.int 4)) (argN))))))))
def m_l_jump : Fn := run 6 f_l_jump
theorem le_l_jump (ds : List D) (m : Mem) : LeR m (m_l_jump ds m) (run 6 f_l_jump ds m) := .same _
structure JumpOk (rows : Int) (r : Row) : Prop where
  ok : r.okB rows = true
theorem inR {rows v : Int} (h0 : 0 ≤ v) (h1 : v < rows) : (decide (0 ≤ v) && decide (v ≤ most rows 3 - 1)) = true := by
  rw [decide_eq_true h0, decide_eq_true (show v ≤ most rows 3 - 1 by show v ≤ rows - 1; omega)]
  rfl
theorem jump_wp {k c : Nat} {m : Mem} {x : Bx} {at_ rows : Int} (h : Drw k c m) (hx : x.ok) (h0 : 0 ≤ at_) (h1 : at_ < rows) (h2 : rows < 1073741824) : WP (m_l_jump [.loc k, x.enc, .int at_, .int rows] m) (Rq k c m Row.enc (JumpOk rows)) fun _ _ => False := by
  have hw8 : x.w ≤ 8 := hx.2.2.2
  unfold m_l_jump
  refine run_wp ?_
  unfold f_l_jump
  refine seq_wp (asg_wp ?_)
  refine opN_wp (argC_wp (.eq (x := .int (rows - 1)) (m := m) rfl (argC_wp (op2_wp (.eq (x := .int (at_ + 1)) (m := m) rfl ?_)))))
  refine draw_e (n := rows - at_) rfl (op2_ok rfl rfl rfl) h (by omega) (by omega) fun v m2 v0 v1 d2 s2 _ => ⟨.int (at_ + 1 + v), rfl, argN_wp ?_⟩
  have hgoal : ∃ g : Int, gMin2 [.int (rows - 1), .int (at_ + 1 + v)] m2 = some (.int g) ∧ 0 ≤ g ∧ g < rows := by
    refine ⟨if at_ + 1 + v < rows - 1 then at_ + 1 + v else rows - 1, rfl, ?_, ?_⟩ <;> split <;> omega
  obtain ⟨g, hg, g0, g1⟩ := hgoal
  refine ⟨.int g, hg, [some (.loc k), some x.enc, some (.int at_), some (.int rows), some (.int g), none], rfl, ?_⟩
  show WP _ _ _
  have rest : ∀ (g : Int) (m3 : Mem), 0 ≤ g → g < rows → Drw k c m3 → Same k c m m3 → WP (sSeq (sAsg (op2 gMod (op2 gAdd (op2 gIx (vr 1) (cn (.int 0))) (callN 2 m_l_next (argC (vr 0) (argC (op2 gIx (vr 1) (cn (.int 1))) (argN))))) (cn (.int 8))) (gNm 5)) (sRet (op2 gIx (lsl (argC (tpl (argC (cn (.str (Str.ofString "go"))) (argC (vr 4) (argN)))) (argC (tpl (argC (cn (.str (Str.ofString "if"))) (argC (vr 5) (argC (vr 4) (argN))))) (argC (tpl (argC (cn (.str (Str.ofString "if"))) (argC (vr 5) (argC (vr 4) (argN))))) (argC (tpl (argC (cn (.str (Str.ofString "stop"))) (argN))) (argN)))))) (callN 2 m_l_next (argC (vr 0) (argC (cn (.int 4)) (argN)))))) [some (.loc k), some x.enc, some (.int at_), some (.int rows), some (.int g), none] m3) (runQ (Rq k c m Row.enc (JumpOk rows))) fun _ _ => False := by
    intro g m3 g0 g1 d3 s3
    refine seq_wp (asg_wp (op2_wp (op2_wp (.eq (x := .int x.b) (m := m3) rfl ?_))))
    refine draw_e (n := x.w) rfl rfl d3 hx.2.2.1 (by omega) fun u m4 u0 u1 d4 s4 _ => ⟨.int (x.b + u), rfl, .eq (x := .int 8) (m := m4) rfl ⟨.int ((x.b + u) % 8), gMod_ok _ _ _ (by decide), _, rfl, ?_⟩⟩
    have hb := mod8 (x.b + u)
    show WP _ _ _
    refine ret_wp (op2_wp (.eq (x := .lst [.tup [.str "go", .int g], .tup [.str "if", .int ((x.b + u) % 8), .int g], .tup [.str "if", .int ((x.b + u) % 8), .int g], .tup [.str "stop"]]) (m := m4) rfl ?_))
    refine draw_e rfl rfl d4 (by decide) (by decide) fun w m5 w0 w1 d5 s5 _ => ?_
    have s15 := (s3.trans s4).trans s5
    have hz : w = 0 ∨ w = 1 ∨ w = 2 ∨ w = 3 := by omega
    rcases hz with rfl | rfl | rfl | rfl
    · refine ⟨_, rfl, .go g, rfl, ⟨?_⟩, d5, s15⟩
      show ((decide (0 ≤ g) && decide (g ≤ most rows 3 - 1)) && true) = true
      rw [inR g0 g1]
      rfl
    · refine ⟨_, rfl, .ifr ((x.b + u) % 8) g, rfl, ⟨?_⟩, d5, s15⟩
      show ((decide (0 ≤ (x.b + u) % 8) && decide ((x.b + u) % 8 ≤ most rows 1 - 1)) && ((decide (0 ≤ g) && decide (g ≤ most rows 3 - 1)) && true)) = true
      rw [okB8 hb (by decide), inR g0 g1]
      rfl
    · refine ⟨_, rfl, .ifr ((x.b + u) % 8) g, rfl, ⟨?_⟩, d5, s15⟩
      show ((decide (0 ≤ (x.b + u) % 8) && decide ((x.b + u) % 8 ≤ most rows 1 - 1)) && ((decide (0 ≤ g) && decide (g ≤ most rows 3 - 1)) && true)) = true
      rw [okB8 hb (by decide), inR g0 g1]
      rfl
    · exact ⟨_, rfl, .stop, rfl, ⟨rfl⟩, d5, s15⟩
  refine seq_wp (if_wp (tV_wp (op2_wp (draw_e (n := 4) rfl rfl d2 (by decide) (by decide) fun u m3 u0 u1 d3 s3 _ => .eq (x := .int 0) (m := m3) rfl ⟨.bl (decide (u = 0)), rfl, _, rfl, ?_⟩))))
  cases decide (u = 0) with
  | true =>
    simp only [if_true]
    refine asg_wp (draw_e (n := rows) rfl rfl d3 (by omega) h2 fun y m4 y0 y1 d4 s4 _ => ⟨_, rfl, ?_⟩)
    exact rest y m4 y0 y1 d4 ((s2.trans s3).trans s4)
  | false =>
    simp only [Bool.false_eq_true, if_false]
    exact sNext_wp (rest g m3 g0 g1 d3 (s2.trans s3))
/-! ### _law_piece -/
def f_l_piece : SS := sSeq (sAsg (callN 1 m_l_boxes (argC (vr 0) (argN))) (gNm 2)) (sSeq (sAsg (op2 gAdd (cn (.int 1)) (callN 2 m_l_next (argC (vr 0) (argC (vr 1) (argN))))) (gNm 3)) (sSeq (sAsg (compM (itRng1 (argC (vr 3) (argN))) (gNm 5) (LB.tYes) (callN 2 m_l_deed (argC (vr 0) (argC (vr 2) (argN)))) [5]) (gNm 4)) (sSeq (sIf (tV (op2 gEq (callN 2 m_l_next (argC (vr 0) (argC (cn (.int 2)) (argN)))) (cn (.int 0)))) (sLput (vr 4) (op1 gNeg (cn (.int 1))) (callN 4 m_l_jump (argC (vr 0) (argC (vr 2) (argC (cn (.int 0)) (argC (cn (.int 200)) (argN))))))) (sNext)) (sRet (opN gTuple (argC (vr 4) (argN)))))))
def m_l_piece : Fn := run 6 f_l_piece
theorem le_l_piece (ds : List D) (m : Mem) : LeR m (m_l_piece ds m) (run 6 f_l_piece ds m) := .same _
structure PieceP (n : Nat) (p : List Row) : Prop where
  one : 1 ≤ p.length
  most : p.length ≤ n
  rows : ∀ r, r ∈ p → r.okB 200 = true
  ends : ∀ r, r ∈ p.take (p.length - 1) → r.ends = false
theorem PieceP.ok {n : Nat} {p : List Row} (h : PieceP n p) (hn : n ≤ 12) : PieceOk p := ⟨h.one, Nat.le_trans h.most hn, h.rows, h.ends⟩
theorem piece_wp {k c : Nat} {m : Mem} {n : Nat} (h : Drw k c m) (h0 : 0 < n) (h1 : n ≤ 1000) : WP (m_l_piece [.loc k, .int n] m) (Rq k c m encP (PieceP n)) fun _ _ => False := by
  unfold m_l_piece
  refine run_wp ?_
  unfold f_l_piece
  refine seq_wp ?_
  refine asg_wp ?_
  refine callN_wp ?_
  refine .eq (x := [.loc k]) (m := m) rfl ?_
  refine ⟨rfl, ?_⟩
  refine (boxes_wp h).any fun d m2 z => ?_
  obtain ⟨x, rfl, hx, d2, s2⟩ := z
  refine ⟨_, rfl, ?_⟩
  show WP _ _ _
  refine seq_wp (asg_wp (op2_wp (.eq (x := .int 1) (m := m2) rfl ?_)))
  refine draw_e (n := (n : Int)) rfl rfl d2 (by omega) (by omega) fun v m3 v0 v1 d3 s3 _ => ?_
  refine ⟨.int (1 + v), rfl, ?_⟩
  refine ⟨[some (.loc k), some (.int n), some x.enc, some (.int (1 + v)), none, none], rfl, ?_⟩
  show WP _ _ _
  obtain ⟨u, rfl⟩ : ∃ u : Nat, v = (u : Int) := ⟨v.toNat, by omega⟩
  have eN : (1 + (u : Int)).toNat = u + 1 := by omega
  have s13 := s2.trans s3
  refine seq_wp (asg_wp (compM_wp ((compL_wp (m := m3) (w := wkRng 0 (u + 1)) (xs := (List.range (u + 1)).map fun j => D.int (0 + (j : Nat))) (I := fun i acc m4 => Drw k c m4 ∧ Same k c m m4 ∧ ∃ p : List Row, acc = p.map Row.enc ∧ p.length = i ∧ i ≤ u + 1 ∧ ∀ r, r ∈ p → DeedOk r) ?_ (fun i acc m3 _ => wkRng_eq 0 (u + 1) i m3) ⟨d3, s13, [], rfl, rfl, by omega, fun v h => by cases h⟩ ?_).mono ?_)))
  · have z := it1_ok (a := argC (vr 3) (argN)) (ρ := [some (.loc k), some (.int n), some x.enc, some (.int (1 + (u : Int))), none, none]) (m := m3) (m1 := m3) (hi := 1 + (u : Int)) rfl (by
      have e : (1 + (u : Int)) = ((u + 1 : Nat) : Int) := by omega
      rw [e]
      exact small62_nat (by omega))
    rw [eN] at z
    rw [List.length_map, List.length_range]
    exact z
  · intro j y acc m4 hy hI
    obtain ⟨d4, s4, p, rfl, hl, hj, hp⟩ := hI
    have hj3 : j < u + 1 := by
      by_cases q : j < u + 1
      · exact q
      · rw [List.getElem?_eq_none (by rw [List.length_map, List.length_range]; omega)] at hy
        cases hy
    refine ⟨[some (.loc k), some (.int n), some x.enc, some (.int (1 + (u : Int))), none, some y], rfl, ?_⟩
    refine callN_wp ?_
    refine .eq (x := [.loc k, x.enc]) (m := m4) rfl ?_
    refine ⟨rfl, ?_⟩
    refine (deed_wp d4 hx).any fun d m5 z => ?_
    obtain ⟨r, rfl, hr, d5, s5⟩ := z
    refine ⟨by rw [List.length_map, hl]; exact Nat.lt_of_le_of_lt (show j ≤ 1000 by omega) (by decide), d5, s4.trans s5, p ++ [r], by rw [List.map_append]; rfl, by rw [List.length_append, hl]; rfl, hj3, fun r2 hv => ?_⟩
    rcases List.mem_append.mp hv with q | q
    · exact hp r2 q
    · cases List.mem_singleton.mp q
      exact hr
  · intro ys m4 hI
    obtain ⟨d4, s4, p, rfl, hl, _, hp⟩ := hI
    have hpl : p.length = u + 1 := by rw [hl, List.length_map, List.length_range]
    have hfk : m4.n ≠ k := Nat.ne_of_gt d4.kn
    have hfc : m4.n ≠ c := Nat.ne_of_gt d4.cn
    let m5 : Mem := m4.new (.lst (p.map Row.enc))
    have d5 : Drw k c m5 := d4.keep (.new _ _)
    refine ⟨[some (.loc k), some (.int n), some x.enc, some (.int (1 + (u : Int))), some (.loc m4.n), none], rfl, ?_⟩
    show WP _ _ _
    have fin : ∀ (p2 : List Row) (m6 : Mem), Drw k c m6 → Same k c m m6 → lstOf m6 (.loc m4.n) = some (p2.map Row.enc) → PieceP n p2 → WP (sRet (opN gTuple (argC (vr 4) (argN))) [some (.loc k), some (.int n), some x.enc, some (.int (1 + (u : Int))), some (.loc m4.n), none] m6) (runQ (Rq k c m encP (PieceP n))) fun _ _ => False := by
      intro p2 m6 d6 s6 hf hp2
      refine .eq (ret_ok (opN_ok (arg1_ok rfl) (d := .tup (p2.map Row.enc)) ?_)) ⟨p2, rfl, hp2, d6, s6⟩
      show (lstOf m6 (.loc m4.n)).map D.tup = _
      rw [hf]
      rfl
    have good : PieceP n p := ⟨by omega, by omega, fun r hr => (hp r hr).ok 200, fun r hr => (hp r (List.mem_of_mem_take hr)).ends⟩
    refine seq_wp ?_
    refine if_wp (tV_wp (op2_wp ?_))
    refine draw_e (k := k) (c := c) (n := 2) rfl rfl d5 (by decide) (by decide) fun w m6 w0 w1 d6 s6 _ => ?_
    refine .eq (x := .int 0) (m := m6) rfl ?_
    refine ⟨.bl (decide (w = 0)), rfl, decide (w = 0), rfl, ?_⟩
    have g6 : m6.get m4.n = some (.lst (p.map Row.enc)) := (s6.at_ _ (Nat.lt_succ_self _) hfk hfc).trans (Mem.new_at _ _)
    have n6 : m4.n < m6.n := Nat.lt_of_lt_of_le (Nat.lt_succ_self _) s6.n
    cases decide (w = 0) with
    | true =>
      simp only [if_true]
      refine lput_wp ?_
      refine callN_wp ?_
      refine .eq (x := [.loc k, x.enc, .int 0, .int 200]) (m := m6) rfl ?_
      refine ⟨rfl, ?_⟩
      refine (jump_wp d6 hx (by decide) (by decide) (by decide)).any fun d m7 z => ?_
      obtain ⟨r, rfl, hr, d7, s7⟩ := z
      have g7 : m7.get m4.n = some (.lst (p.map Row.enc)) := (s7.at_ _ n6 hfk hfc).trans g6
      have n7 : m4.n < m7.n := Nat.lt_of_lt_of_le n6 s7.n
      refine ⟨m4.n, u, p.map Row.enc, -1, rfl, rfl, n7, g7, ?_, ?_⟩
      · rw [List.length_map, hpl]
        show (if (0 : Int) ≤ -1 then _ else if -((u + 1 : Nat) : Int) ≤ -1 then some (-1 + ((u + 1 : Nat) : Int)).toNat else none) = some u
        rw [if_neg (by decide), if_pos (by omega)]
        congr 1
        omega
      · have d8 : Drw k c (m7.put m4.n (.lst ((p.map Row.enc).set u r.enc))) := by
          obtain ⟨a, q, xs, h1, h2, h3, h4, h5⟩ := d7.at_
          exact ⟨d7.kn, d7.cn, d7.ne, a, q, xs, h1, h2, h3, (put_ne (Ne.symm hfk)).trans h4, (put_ne (Ne.symm hfc)).trans h5⟩
        have g8 : lstOf (m7.put m4.n (.lst ((p.map Row.enc).set u r.enc))) (.loc m4.n) = some ((p.set u r).map Row.enc) := by
          rw [lstOf_at (m := m7.put m4.n (.lst ((p.map Row.enc).set u r.enc))) n7 (put_at _ _ _), List.map_set]
        have s17 : Same k c m m7 := ((s4.new (o := .lst (p.map Row.enc))).trans s6).trans s7
        refine fin (p.set u r) _ d8 ⟨s17.n, fun j hj hk hc => (put_ne (Nat.ne_of_lt (Nat.lt_of_lt_of_le hj s4.n))).trans (s17.at_ j hj hk hc)⟩ g8 ⟨by rw [List.length_set]; omega, by rw [List.length_set]; omega, fun r2 h2 => ?_, fun r2 h2 => ?_⟩
        · rcases List.mem_or_eq_of_mem_set h2 with q | rfl
          · exact good.rows r2 q
          · exact hr.ok
        · rw [List.length_set, List.take_set_of_le (by omega)] at h2
          exact good.ends r2 h2
    | false =>
      simp only [Bool.false_eq_true, if_false]
      exact sNext_wp (fin p m6 d6 ((s4.new (o := .lst (p.map Row.enc))).trans s6) (lstOf_at n6 g6) good)
end
end LB

set_option Elab.async false
set_option linter.all false
set_option autoImplicit false
set_option maxRecDepth 100000
set_option maxHeartbeats 1000000
/-! Pure: the laws' own mix, alike, ties. -/
namespace LB
open PySem
noncomputable section
theorem opNM_ok {g : ON} {a : SA} {ρ : Ev} {m m1 : Mem} {xs ys : List D} (ha : a ρ m = .ok xs m1) (hg : g xs m1 = some (.lst ys)) : opNM g a ρ m = .ok (.loc m1.n) (m1.new (.lst ys)) := by
  unfold opNM
  rw [bind_ok ha]
  have h : (fun m => lift (g xs m) m) m1 = .ok (.lst ys) m1 := by
    show lift (g xs m1) m1 = _
    rw [hg]
    rfl
  rw [bind_ok (a := fun m => lift (g xs m) m) h]
  rfl
def f_l_mix : SS := sSeq (sAsg (vr 1) (gNm 2)) (sSeq (sFor (itSeq (vr 0)) (gNm 3) (sAsg (op2 gMod (op2 gAdd (op2 gAdd (op2 gMul (vr 2) (cn (.int 48271))) (op2 gMod (vr 3) (cn (.int 2147483629)))) (cn (.int 1))) (cn (.int 2147483647))) (gNm 2))) (sRet (lsm (argC (vr 2) (argC (opNM gList (argC (vr 0) (argN))) (argC (cn (.int 0)) (argN)))))))
def m_l_mix : Fn := run 4 f_l_mix
theorem le_l_mix (ds : List D) (m : Mem) : LeR m (m_l_mix ds m) (run 4 f_l_mix ds m) := .same _
theorem mix_wp {m : Mem} {ns : List Int} {s : Int} (hs : 0 ≤ s) (hl : ns.length ≤ 1000) : WP (m_l_mix [.scr ns, .int s] m) (fun d m2 => ∃ k c, d = .loc k ∧ Drw k c m2 ∧ Keep m m2) fun _ _ => False := by
  unfold m_l_mix
  refine run_wp ?_
  unfold f_l_mix
  refine seq_then (asg_ok (d := .int s) (m1 := m) (ρ1 := [some (.scr ns), some (.int s), some (.int s), none]) rfl rfl) ?_
  refine seq_wp ?_
  refine for_seq (xs := ns.map D.int) (w := wkSeq (.scr ns)) (m := m) (I := fun i ρ m2 => m2 = m ∧ ∃ (a : Int) (z : Option D), 0 ≤ a ∧ ρ = [some (.scr ns), some (.int s), some (.int a), z]) (itSeq_ok (d := .scr ns) rfl rfl) (fun i ρ m2 _ => wkSeq_const rfl i) ⟨rfl, s, none, hs, rfl⟩ ?_ ?_
  · intro i x ρ m2 hx hI
    obtain ⟨rfl, a, z, ha, rfl⟩ := hI
    rw [List.getElem?_map] at hx
    cases hg : ns[i]? with
    | none =>
      rw [hg] at hx
      cases hx
    | some v =>
      rw [hg] at hx
      cases hx
      refine ⟨[some (.scr ns), some (.int s), some (.int a), some (.int v)], rfl, ?_⟩
      refine .eq (asg_ok (d := .int ((a * 48271 + v % 2147483629 + 1) % 2147483647)) (m1 := m2) (ρ1 := [some (.scr ns), some (.int s), some (.int ((a * 48271 + v % 2147483629 + 1) % 2147483647)), some (.int v)]) (op2_ok (op2_ok (op2_ok (op2_ok rfl rfl (gMul_r _ _ _ (by decide))) (op2_ok rfl rfl (gMod_ok _ _ _ (by decide))) rfl) rfl rfl) rfl (gMod_ok _ _ _ (by decide))) rfl) ?_
      exact ⟨rfl, _, _, Int.emod_nonneg _ (by decide), rfl⟩
  · intro ρ m2 hI
    obtain ⟨rfl, a, z, ha, rfl⟩ := hI
    show WP _ _ _
    let m3 : Mem := m2.new (.lst (ns.map D.int))
    have hc : opNM gList (argC (vr 0) (argN)) [some (.scr ns), some (.int s), some (.int a), z] m2 = .ok (.loc m2.n) m3 := opNM_ok (m1 := m2) (xs := [.scr ns]) rfl rfl
    refine .eq (ret_ok (lsm_ok (m1 := m3) (xs := [.int a, .loc m2.n, .int 0]) (argC_ok (m1 := m2) rfl (argC_ok hc rfl)) (show 3 ≤ 1000 by decide))) ?_
    refine ⟨m3.n, m2.n, rfl, ⟨Nat.lt_succ_self _, Nat.lt_succ_of_lt (Nat.lt_succ_self _), Nat.succ_ne_self _, a, 0, ns, ha, by decide, hl, Mem.new_at _ _, ?_⟩, (Keep.new _ _).trans (.new _ _)⟩
    exact ((Keep.new m3 _).at_ m2.n (Nat.lt_succ_self _)).trans (Mem.new_at _ _)
/-! ### _law_alike -/
def f_l_alike (rec : Fn) : SS := sSeq (sIf (tV (op1 (gIsi2 "tuple" "list") (vr 1))) (sSeq (sIf (LB.tOr (LB.tNot (tV (op1 (gIsi2 "tuple" "list") (vr 0)))) (tV (op2 gNe (op1 (gIsi "list") (vr 0)) (op1 (gIsi "list") (vr 1))))) (sRet (cn (.bl false))) (sNext)) (sSeq (sIf (tV (op2 gNe (opN gLen (argC (vr 0) (argN))) (opN gLen (argC (vr 1) (argN))))) (sRet (cn (.bl false))) (sNext)) (sRet (op2 gEq (comp (itRng1 (argC (opN gLen (argC (vr 1) (argN))) (argN))) (gNm 2) (LB.tNot (tV (callN 2 rec (argC (op2 gIx (vr 0) (vr 2)) (argC (op2 gIx (vr 1) (vr 2)) (argN)))))) (vr 2) [2]) (lsl (argN)))))) (sNext)) (sSeq (sIf (tV (op2 gIsN (vr 1) (cn .non))) (sRet (op2 gIsN (vr 0) (cn .non))) (sNext)) (sSeq (sIf (tV (op1 (gIsi "str") (vr 1))) (sRet (vAnd (op1 (gIsi "str") (vr 0)) (op2 gEq (vr 0) (vr 1)))) (sNext)) (sSeq (sIf (LB.tOr (tV (op1 (gIsi "bool") (vr 1))) (tV (op1 (gIsi "bool") (vr 0)))) (sRet (vAnd (op1 (gIsi "bool") (vr 1)) (vAnd (op1 (gIsi "bool") (vr 0)) (op2 gEq (vr 0) (vr 1))))) (sNext)) (sRet (vAnd (op1 (gIsi "int") (vr 0)) (op2 gEq (vr 0) (vr 1)))))))
def m_l_alike : Nat → Fn
  | 0 => fun _ _ => .bad
  | n + 1 => run 3 (f_l_alike (m_l_alike n))
theorem le_l_alike (n : Nat) (ds : List D) (m : Mem) : LeR m (m_l_alike (n + 1) ds m) (run 3 (f_l_alike (m_l_alike n)) ds m) := .same _
def Al : Nat → Mem → D → D → Prop
  | 0, _, _, _ => False
  | n + 1, m, d, e => (d = .non ∧ e = .non) ∨ (∃ b, d = .bl b ∧ e = .bl b) ∨ (∃ i, d = .int i ∧ e = .int i) ∨ (∃ s, d = .str s ∧ e = .str s) ∨
    (∃ xs ys, d = .tup xs ∧ e = .tup ys ∧ xs.length = ys.length ∧ xs.length ≤ sizeLine ∧ ∀ (i : Nat) (x y : D), xs[i]? = some x → ys[i]? = some y → Al n m x y) ∨
    (∃ xs ys, lstOf m d = some xs ∧ lstOf m e = some ys ∧ xs.length = ys.length ∧ xs.length ≤ sizeLine ∧ ∀ (i : Nat) (x y : D), xs[i]? = some x → ys[i]? = some y → Al n m x y)
theorem isTy_lst {m : Mem} {d : D} {xs : List D} (T : String) (h : lstOf m d = some xs) : isTy m T d = some (T == "list") := by
  cases d with
  | lst _ => rfl
  | loc k =>
    show (if k < m.n then (match m.get k with
      | some (.lst _) => some (T == "list")
      | _ => none) else none) = _
    have h2 : (if k < m.n then (match m.get k with
      | some (.lst xs) => some xs
      | _ => none) else none) = some xs := h
    by_cases c : k < m.n
    · rw [if_pos c] at h2 ⊢
      cases hg : m.get k with
      | none =>
        rw [hg] at h2
        cases h2
      | some o =>
        rw [hg] at h2
        cases o with
        | lst _ => rfl
        | dct _ => cases h2
        | obj _ _ => cases h2
    · rw [if_neg c] at h2
      cases h2
  | _ => cases h
theorem len_lst {m : Mem} {d : D} {xs : List D} (h : lstOf m d = some xs) : gLen [d] m = some (.int xs.length) := by
  cases d with
  | lst ys =>
    cases h
    rfl
  | loc k =>
    show (if k < m.n then (match m.get k with
      | some (.lst xs) => some (D.int xs.length)
      | some (.dct kvs) => some (D.int kvs.length)
      | _ => none) else none) = _
    have h2 : (if k < m.n then (match m.get k with
      | some (.lst xs) => some xs
      | _ => none) else none) = some xs := h
    by_cases c : k < m.n
    · rw [if_pos c] at h2 ⊢
      cases hg : m.get k with
      | none =>
        rw [hg] at h2
        cases h2
      | some o =>
        rw [hg] at h2
        cases o with
        | lst _ =>
          cases h2
          rfl
        | dct _ => cases h2
        | obj _ _ => cases h2
    · rw [if_neg c] at h2
      cases h2
  | _ => cases h
theorem sq_lst {m : Mem} {d : D} {xs : List D} (h : lstOf m d = some xs) : sqOf m d = some xs := by
  cases d <;> first
    | exact h
    | (cases h; done)
theorem alike_seq {F : Fn} {m : Mem} {d e : D} {xs ys : List D} {t : Bool} (hd : sqOf m d = some xs) (he : sqOf m e = some ys) (nd : ∀ z, d ≠ .str z) (ne : ∀ z, e ≠ .str z) (ld : gLen [d] m = some (.int xs.length)) (le : gLen [e] m = some (.int ys.length)) (hl : xs.length = ys.length) (hs : xs.length ≤ sizeLine)
    (i1 : gIsi2 "tuple" "list" d m = some (.bl true)) (i2 : gIsi2 "tuple" "list" e m = some (.bl true)) (j1 : gIsi "list" d m = some (.bl t)) (j2 : gIsi "list" e m = some (.bl t)) (hF : ∀ (i : Nat) (x y : D), xs[i]? = some x → ys[i]? = some y → F [x, y] m = .ok (.bl true) m) :
    run 3 (f_l_alike F) [d, e] m = .ok (.bl true) m := by
  refine run_rt (ρ1 := [some d, some e, none]) ?_
  unfold f_l_alike
  refine (seq_rt ?_)
  refine (if_yes (tV_ok (op1_ok rfl i2))).trans ?_
  have hne : gNe (.bl t) (.bl t) m = some (.bl false) := by cases t <;> rfl
  refine (seq_ok ((if_no (m1 := m) (tOr_ok1 (x := false) (tNot_ok (x := true) (tV_ok (op1_ok rfl i1))) fun _ => tV_ok (op2_ok (op1_ok rfl j1) (op1_ok rfl j2) hne))).trans rfl)).trans ?_
  refine (seq_ok ((if_no (m1 := m) (tV_ok (op2_ok (opN_ok (arg1_ok rfl) ld) (opN_ok (arg1_ok rfl) le) ?_))).trans rfl)).trans ?_
  · show (some (decide ((xs.length : Int) = ys.length))).map (fun b => D.bl (!b)) = _
    rw [decide_eq_true (by omega)]
    rfl
  have hsz : sizeLine < 4611686018427387904 := by decide
  have hit := it1_ok (a := argC (opN gLen (argC (vr 1) (argN))) (argN)) (ρ := [some d, some e, none]) (m := m) (m1 := m) (hi := ys.length) (arg1_ok (opN_ok (arg1_ok rfl) le)) (small62_nat (by omega))
  have e1 : ((ys.length : Nat) : Int).toNat = ys.length := Int.toNat_natCast _
  rw [e1] at hit
  have hc := comp_pure (g := gNm 2) (t := LB.tNot (tV (callN 2 F (argC (op2 gIx (vr 0) (vr 2)) (argC (op2 gIx (vr 1) (vr 2)) (argN)))))) (e := vr 2) (own := [2]) (ρ := [some d, some e, none]) (m := m) (xs := (List.range ys.length).map fun j => D.int (0 + (j : Nat))) (fun _ => false) (fun d => d) (by rw [List.length_map, List.length_range]; exact hit) (fun i _ => wkRng_eq 0 ys.length i m) (fun x hx => by
    obtain ⟨k, hk, rfl⟩ := List.mem_map.mp hx
    have hk2 : k < ys.length := List.mem_range.mp hk
    have hk1 : k < xs.length := by omega
    refine ⟨[some d, some e, some (.int (0 + (k : Nat)))], rfl, ?_, fun h => by cases h⟩
    rw [Int.zero_add]
    exact tNot_ok (x := true) (tV_ok ((callN_ok (arg2_ok (op2_ok rfl rfl (gIx_lst hd nd (List.getElem?_eq_getElem hk1))) (op2_ok rfl rfl (gIx_lst he ne (List.getElem?_eq_getElem hk2)))) rfl).trans (hF k _ _ (List.getElem?_eq_getElem hk1) (List.getElem?_eq_getElem hk2))))) (by rw [List.length_map, List.length_range]; omega)
  rw [filt_none] at hc
  refine ret_ok (op2_ok hc (lsl_ok (xs := []) rfl (by decide)) ?_)
  show (eqOf m (.lst []) (.lst [])).map D.bl = _
  rw [eq_nils]
  rfl
theorem vAnd_yes {a b : SE} {ρ : Ev} {m m1 : Mem} (ha : a ρ m = .ok (.bl true) m1) : vAnd a b ρ m = b ρ m1 := by
  unfold vAnd
  rw [bind_ok ha]
  rfl
theorem alike_int {F : Fn} {m : Mem} {i : Int} : run 3 (f_l_alike F) [.int i, .int i] m = .ok (.bl true) m := by
  have e : gEq (.int i) (.int i) m = some (.bl true) := by
    show (some (decide (i = i))).map D.bl = _
    rw [decide_eq_true rfl]
    rfl
  refine run_rt (ρ1 := [some (.int i), some (.int i), none]) ?_
  unfold f_l_alike
  refine (seq_ok ((if_no (m1 := m) rfl).trans rfl)).trans ?_
  refine (seq_ok ((if_no (m1 := m) rfl).trans rfl)).trans ?_
  refine (seq_ok ((if_no (m1 := m) rfl).trans rfl)).trans ?_
  refine (seq_ok ((if_no (m1 := m) rfl).trans rfl)).trans ?_
  exact ret_ok ((vAnd_yes (m1 := m) rfl).trans (op2_ok rfl rfl e))
theorem alike_str {F : Fn} {m : Mem} {s : Str} : run 3 (f_l_alike F) [.str s, .str s] m = .ok (.bl true) m := by
  have e : gEq (.str s) (.str s) m = some (.bl true) := by
    show (some (decide (s = s))).map D.bl = _
    rw [decide_eq_true rfl]
    rfl
  refine run_rt (ρ1 := [some (.str s), some (.str s), none]) ?_
  unfold f_l_alike
  refine (seq_ok ((if_no (m1 := m) rfl).trans rfl)).trans ?_
  refine (seq_ok ((if_no (m1 := m) rfl).trans rfl)).trans ?_
  refine seq_rt ((if_yes (m1 := m) rfl).trans ?_)
  exact ret_ok ((vAnd_yes (m1 := m) rfl).trans (op2_ok rfl rfl e))
theorem alike_ok : ∀ (n : Nat) (m : Mem) (d e : D), Al n m d e → m_l_alike n [d, e] m = .ok (.bl true) m
  | 0, _, _, _, h => h.elim
  | n + 1, m, d, e, h => by
    show run 3 (f_l_alike (m_l_alike n)) [d, e] m = _
    rcases h with ⟨rfl, rfl⟩ | ⟨b, rfl, rfl⟩ | ⟨i, rfl, rfl⟩ | ⟨s, rfl, rfl⟩ | ⟨xs, ys, rfl, rfl, hl, hs, hA⟩ | ⟨xs, ys, hd, he, hl, hs, hA⟩
    · rfl
    · cases b <;> rfl
    · exact alike_int
    · exact alike_str
    · exact alike_seq (t := false) (xs := xs) (ys := ys) rfl rfl (fun _ h => by cases h) (fun _ h => by cases h) rfl rfl hl hs rfl rfl rfl rfl fun i x y h1 h2 => alike_ok n m x y (hA i x y h1 h2)
    · have q1 (d : D) (xs : List D) (hd : lstOf m d = some xs) : gIsi2 "tuple" "list" d m = some (.bl true) := by
        unfold gIsi2
        rw [isTy_lst "tuple" hd, isTy_lst "list" hd]
        rfl
      have q2 (d : D) (xs : List D) (hd : lstOf m d = some xs) : gIsi "list" d m = some (.bl true) := by
        unfold gIsi
        rw [isTy_lst "list" hd]
        rfl
      exact alike_seq (t := true) (sq_lst hd) (sq_lst he) (fun _ h => by rw [h] at hd; cases hd) (fun _ h => by rw [h] at he; cases he) (len_lst hd) (len_lst he) hl hs (q1 d xs hd) (q1 e ys he) (q2 d xs hd) (q2 e ys he) fun i x y h1 h2 => alike_ok n m x y (hA i x y h1 h2)
/-! ### _law_late, _law_looks, _law_far, _law_ties -/
def f_l_late : SS := sSeq (sIf (tV (op2 gIn (op2 gIx (vr 0) (cn (.int 0))) (tpl (argC (cn (.str (Str.ofString "put"))) (argC (cn (.str (Str.ofString "move"))) (argC (cn (.str (Str.ofString "add"))) (argC (cn (.str (Str.ofString "take"))) (argN)))))))) (sRet (op2 gIx (vr 1) (cn (.int 0)))) (sNext)) (sRet (dget2 (dspE [(cn (.str (Str.ofString "get")), op2 gIx (vr 1) (cn (.int 1))), (cn (.str (Str.ofString "times")), op2 gIx (vr 1) (cn (.int 2)))]) (op2 gIx (vr 0) (cn (.int 0))) (op1 gNeg (cn (.int 1)))))
def lateL (r : Row) (t : Mill) : Int := match r.into with
  | some _ => r.late t
  | none => -1
def m_l_late : Fn := spec encRM fun q => .int (lateL q.1 q.2)
theorem l_late_row (r : Row) (t : Mill) (m : Mem) : m_l_late [r.enc, t.enc] m = .ok (.int (lateL r t)) m := spec_at encRM_inj (r, t) m
def Row.plain4 : Row → Bool
  | .put .. => true | .move .. => true | .add .. => true | .take .. => true | _ => false
theorem l_late_run (r : Row) (t : Mill) (m : Mem) : ∃ m2, run 2 f_l_late (encRM (r, t)) m = .ok (.int (lateL r t)) m2 ∧ Keep m m2 := by
  have h1 : tV (op2 gIn (op2 gIx (vr 0) (cn (.int 0))) (tpl (argC (cn (.str (Str.ofString "put"))) (argC (cn (.str (Str.ofString "move"))) (argC (cn (.str (Str.ofString "add"))) (argC (cn (.str (Str.ofString "take"))) (argN))))))) (start 2 (encRM (r, t))) m = .ok r.plain4 m := by
    cases r <;> rfl
  cases h : r.plain4 with
  | true =>
    rw [h] at h1
    refine ⟨m, run_rt (ρ1 := start 2 (encRM (r, t))) (seq_rt ((if_yes h1).trans (ret_ok ?_))), .refl m⟩
    cases r <;> first
      | (cases h; done)
      | rfl
  | false =>
    rw [h] at h1
    refine ⟨_, run_rt (m1 := m.new (.dct (mergeD [] [(.inr "get", .int t.b), (.inr "times", .int t.c)]))) (ρ1 := start 2 (encRM (r, t))) ((seq_ok ((if_no h1).trans rfl)).trans (ret_ok ((dget2_dsp (m1 := m) (kvs := [(.inr "get", .int t.b), (.inr "times", .int t.c)]) (kd := .str r.word) (key := .inr r.word) (xd := .int (-1)) rfl rfl (show 2 ≤ 15 by decide) ?_ rfl rfl).trans ?_))), .new _ _⟩
    · exact op2_ok rfl rfl (ix0_row r _)
    · cases r <;> first
        | (cases h; done)
        | rfl
theorem le_l_late (ds : List D) (m : Mem) : LeR m (m_l_late ds m) (run 2 f_l_late ds m) := spec_le (fun a m => l_late_run a.1 a.2 m) (fun _ _ => rfl) ds m
def f_l_looks : SS := sSeq (sIf (tV (op2 gIn (op2 gIx (vr 0) (cn (.int 0))) (tpl (argC (cn (.str (Str.ofString "set"))) (argC (cn (.str (Str.ofString "say"))) (argN)))))) (sRet (opN gList (argC (slc (vr 0) (soS (cn (.int 1))) (soN)) (argN)))) (sNext)) (sSeq (sIf (tV (op2 gEq (op2 gIx (vr 0) (cn (.int 0))) (cn (.str (Str.ofString "if"))))) (sRet (lsl (argC (op2 gIx (vr 0) (cn (.int 1))) (argN)))) (sNext)) (sRet (ifE (tV (op2 gIn (op2 gIx (vr 0) (cn (.int 0))) (tpl (argC (cn (.str (Str.ofString "move"))) (argC (cn (.str (Str.ofString "add"))) (argC (cn (.str (Str.ofString "take"))) (argC (cn (.str (Str.ofString "times"))) (argC (cn (.str (Str.ofString "get"))) (argN))))))))) (opN gList (argC (slc (vr 0) (soS (cn (.int 2))) (soN)) (argN))) (lsl (argN)))))
def m_l_looks : Fn := run 1 f_l_looks
theorem le_l_looks (ds : List D) (m : Mem) : LeR m (m_l_looks ds m) (run 1 f_l_looks ds m) := .same _
theorem l_looks_row (r : Row) (m : Mem) : m_l_looks [r.enc] m = .ok (.lst (r.looks.map D.int)) m := by cases r <;> rfl
theorem lateL_some {r : Row} {b : Int} (t : Mill) (h : r.into = some b) : lateL r t = r.late t := by
  unfold lateL
  rw [h]
theorem lateL_none {r : Row} (t : Mill) (h : r.into = none) : lateL r t = -1 := by
  unfold lateL
  rw [h]
theorem late_none {r : Row} (t : Mill) (h : r.into = none) : r.late t = 0 := by
  cases r <;> first
    | (cases h; done)
    | rfl
theorem d_ge {vk : SE} {ρ : Ev} {m : Mem} {r : Row} {t : Mill} (hk : vk ρ m = .ok (.int (lateL r t)) m) : tV (op2 gGe vk (cn (.int 0))) ρ m = .ok r.into.isSome m := by
  refine tV_ok (op2_ok hk rfl ?_)
  show some (D.bl (decide (0 ≤ lateL r t))) = _
  cases h : r.into with
  | none =>
    rw [lateL_none t h]
    rfl
  | some b =>
    rw [lateL_some t h, decide_eq_true (by omega)]
    rfl
theorem d_in {vk vo vw : SE} {ρ : Ev} {m : Mem} {r s : Row} {t : Mill} (hk : vk ρ m = .ok (.int (lateL r t)) m) (ho : vo ρ m = .ok r.enc m) (hw : vw ρ m = .ok s.enc m) : LB.tAnd (tV (op2 gGe vk (cn (.int 0)))) (tV (op2 gIn (op2 gIx vo (cn (.int 1))) (callN 1 m_l_looks (argC vw (argN))))) ρ m = .ok (inP r.into s.looks) m := by
  have h1 := d_ge hk
  cases h : r.into with
  | none =>
    rw [h] at h1
    exact tAnd_ok1 (x := false) (y := false) h1 fun h => by cases h
  | some b =>
    rw [h] at h1
    exact tAnd_ok1 (x := true) (y := s.looks.contains b) h1 fun _ => tV_ok (op2_ok (op2_ok ho rfl (ix1_row h m)) ((callN_ok (arg1_ok hw) rfl).trans (l_looks_row s m)) (gIn_ints b _ m))
theorem d_same {vk vj vo vw : SE} {ρ : Ev} {m : Mem} {r s : Row} {t : Mill} (hk : vk ρ m = .ok (.int (lateL r t)) m) (hj : vj ρ m = .ok (.int (lateL s t)) m) (ho : vo ρ m = .ok r.enc m) (hw : vw ρ m = .ok s.enc m) :
    LB.tAnd (tV (op2 gGe vk (cn (.int 0)))) (LB.tAnd (tV (op2 gGe vj (cn (.int 0)))) (tV (op2 gEq (op2 gIx vo (cn (.int 1))) (op2 gIx vw (cn (.int 1)))))) ρ m = .ok (sameP r.into s.into) m := by
  have h1 := d_ge hk
  have h2 := d_ge hj
  cases h : r.into with
  | none =>
    rw [h] at h1
    exact tAnd_ok1 (x := false) (y := false) h1 fun h => by cases h
  | some b =>
    rw [h] at h1
    cases g : s.into with
    | none =>
      rw [g] at h2
      exact tAnd_ok1 (x := true) (y := false) h1 fun _ => tAnd_ok1 (x := false) (y := false) h2 fun h => by cases h
    | some a =>
      rw [g] at h2
      exact tAnd_ok1 (x := true) (y := decide (b = a)) h1 fun _ => tAnd_ok1 (x := true) (y := decide (b = a)) h2 fun _ => tV_ok (op2_ok (op2_ok ho rfl (ix1_row h m)) (op2_ok hw rfl (ix1_row g m)) rfl)
theorem word_cat : ∀ i, i < 12 → ∀ j, j < 12 → ((wordAt i).length + (wordAt j).length ≤ sizeLine ∧ inOf (.str (wordAt i ++ wordAt j)) [.str "setget", .str "getset", .str "setset", .str "saysay"] = some (pairK i j)) := by decide +kernel
theorem d_pair {vo vw : SE} {ρ : Ev} {m : Mem} {r s : Row} (ho : vo ρ m = .ok r.enc m) (hw : vw ρ m = .ok s.enc m) :
    LB.tOr (tV (op2 gIn (op2 gAdd (op2 gIx vo (cn (.int 0))) (op2 gIx vw (cn (.int 0)))) (tpl (argC (cn (.str (Str.ofString "setget"))) (argC (cn (.str (Str.ofString "getset"))) (argC (cn (.str (Str.ofString "setset"))) (argC (cn (.str (Str.ofString "saysay"))) (argN)))))))) (tV (op2 gEq (op2 gIx vw (cn (.int 0))) (cn (.str (Str.ofString "stop"))))) ρ m = .ok (pairP r s || s.stops) m := by
  have hc := word_cat _ r.kind_lt _ s.kind_lt
  rw [← r.word_at, ← s.word_at] at hc
  refine tOr_ok1 (tV_ok (op2_ok (x := .str (r.word ++ s.word)) (op2_ok (op2_ok ho rfl (ix0_row r m)) (op2_ok hw rfl (ix0_row s m)) ?_) (m2 := m) (y := .tup [.str "setget", .str "getset", .str "setset", .str "saysay"]) rfl ?_)) fun _ => c_stop hw
  · show (if r.word.length + s.word.length ≤ sizeLine then some (D.str (r.word ++ s.word)) else none) = _
    rw [if_pos hc.1]
  · show (inOf (.str (r.word ++ s.word)) [.str "setget", .str "getset", .str "setset", .str "saysay"]).map D.bl = _
    rw [hc.2, pair_kind]
    rfl
def f_l_far : SS := sSeq (sPar 3 4 (callN 2 m_l_late (argC (vr 0) (argC (vr 2) (argN)))) (callN 2 m_l_late (argC (vr 1) (argC (vr 2) (argN))))) (sSeq (sAsg (lsm (argN)) (gNm 5)) (sSeq (sIf (LB.tAnd (tV (op2 gGe (vr 3) (cn (.int 0)))) (tV (op2 gIn (op2 gIx (vr 0) (cn (.int 1))) (callN 1 m_l_looks (argC (vr 1) (argN)))))) (sExp (appE (vr 5) (op2 gAdd (vr 3) (cn (.int 1))))) (sNext)) (sSeq (sIf (LB.tAnd (tV (op2 gGe (vr 3) (cn (.int 0)))) (LB.tAnd (tV (op2 gGe (vr 4) (cn (.int 0)))) (tV (op2 gEq (op2 gIx (vr 0) (cn (.int 1))) (op2 gIx (vr 1) (cn (.int 1))))))) (sExp (appE (vr 5) (opN gMax2 (argC (cn (.int 1)) (argC (op2 gAdd (op2 gSub (vr 3) (vr 4)) (cn (.int 1))) (argN)))))) (sNext)) (sSeq (sIf (LB.tAnd (tV (op2 gGe (vr 4) (cn (.int 0)))) (tV (op2 gIn (op2 gIx (vr 1) (cn (.int 1))) (callN 1 m_l_looks (argC (vr 0) (argN)))))) (sExp (appE (vr 5) (cn (.int 1)))) (sNext)) (sSeq (sIf (LB.tOr (tV (op2 gIn (op2 gAdd (op2 gIx (vr 0) (cn (.int 0))) (op2 gIx (vr 1) (cn (.int 0)))) (tpl (argC (cn (.str (Str.ofString "setget"))) (argC (cn (.str (Str.ofString "getset"))) (argC (cn (.str (Str.ofString "setset"))) (argC (cn (.str (Str.ofString "saysay"))) (argN)))))))) (tV (op2 gEq (op2 gIx (vr 1) (cn (.int 0))) (cn (.str (Str.ofString "stop")))))) (sExp (appE (vr 5) (cn (.int 1)))) (sNext)) (sSeq (sIf (tV (op2 gIn (op2 gIx (vr 1) (cn (.int 0))) (tpl (argC (cn (.str (Str.ofString "go"))) (argC (cn (.str (Str.ofString "if"))) (argN)))))) (sExp (appE (vr 5) (op2 gSub (opN gMax2 (argC (vr 3) (argC (cn (.int 0)) (argN)))) (op2 gIx (vr 2) (cn (.int 3)))))) (sNext)) (sRet (ifE (tV (op2 gNe (vr 5) (lsl (argN)))) (opN gMax (argC (vr 5) (argN))) (cn .non)))))))))
def m_l_far : Fn := spec encRRM fun q => far q.1 q.2.1 q.2.2
theorem l_far_row (r s : Row) (t : Mill) (m : Mem) : m_l_far [r.enc, s.enc, t.enc] m = .ok (far r s t) m := spec_at encRRM_inj (r, s, t) m
theorem one1_false {i j : Int} {b : Bool} (h : b = true → i = j) : one1 b i = one1 b j := by
  cases b with
  | true => rw [h rfl]
  | false => rfl
theorem l_far_run (r s : Row) (t : Mill) (m : Mem) : ∃ m2, run 6 f_l_far (encRRM (r, s, t)) m = .ok (far r s t) m2 ∧ Keep m m2 := by
  have hz : 5 < sizeLine := by decide
  have l1 : (far1 r s t).length ≤ 1 := by unfold far1 one1; split <;> simp
  have l2 : (far2 r s t).length ≤ 1 := by unfold far2 one1; split <;> simp
  have l3 : (far3 r s t).length ≤ 1 := by unfold far3 one1; split <;> simp
  have l4 : (far4 r s t).length ≤ 1 := by unfold far4 one1; split <;> simp
  have k1 : one1 (inP r.into s.looks) (lateL r t + 1) = far1 r s t := one1_false fun h => by
    cases q : r.into with
    | none => rw [q] at h; cases h
    | some b => rw [lateL_some t q]
  have k2 : one1 (sameP r.into s.into) (if lateL r t - lateL s t + 1 > 1 then lateL r t - lateL s t + 1 else 1) = far2 r s t := one1_false fun h => by
    cases q : r.into with
    | none => rw [q] at h; cases h
    | some b =>
      cases q2 : s.into with
      | none => rw [q, q2] at h; cases h
      | some c => rw [lateL_some t q, lateL_some t q2]
  have k5 : (if (0 : Int) > lateL r t then (0 : Int) else lateL r t) - t.j = (r.late t : Int) - t.j := by
    cases q : r.into with
    | none =>
      rw [lateL_none t q, late_none t q]
      rfl
    | some b =>
      rw [lateL_some t q, if_neg (by omega)]
  refine ⟨m.new (.lst ((farL r s t).map D.int)), run_rt (ρ1 := [some r.enc, some s.enc, some t.enc, some (.int (lateL r t)), some (.int (lateL s t)), some (.loc m.n)]) ?_, .new _ _⟩
  refine (seq_ok (par_ok ((callN_ok (arg2_ok rfl rfl) rfl).trans (l_late_row r t _)) ((callN_ok (arg2_ok rfl rfl) rfl).trans (l_late_row s t _)))).trans ?_
  refine (seq_ok (asg_ok (m1 := m.new (.lst (([] : List Int).map D.int))) (lsm_ok (m1 := m) (xs := []) rfl (by decide)) rfl)).trans ?_
  refine (seq_ok (app_int (L := []) (i := lateL r t + 1) (d_in rfl rfl rfl) rfl (fun _ => op2_ok rfl rfl rfl) (by decide))).trans ?_
  rw [k1, List.nil_append]
  refine (seq_ok (app_int (i := if lateL r t - lateL s t + 1 > 1 then lateL r t - lateL s t + 1 else 1) (d_same rfl rfl rfl rfl) rfl (fun _ => opN_ok (arg2_ok rfl (op2_ok (op2_ok rfl rfl rfl) rfl rfl)) rfl) ?_)).trans ?_
  · omega
  rw [k2]
  refine (seq_ok (app_int (i := 1) (d_in rfl rfl rfl) rfl (fun _ => rfl) ?_)).trans ?_
  · rw [List.length_append]
    omega
  refine (seq_ok (app_int (i := 1) (d_pair rfl rfl) rfl (fun _ => rfl) ?_)).trans ?_
  · show (far1 r s t ++ far2 r s t ++ far3 r s t).length < sizeLine
    simp only [List.length_append]
    omega
  refine (seq_ok (app_int (i := (if (0 : Int) > lateL r t then (0 : Int) else lateL r t) - t.j) (c_goes rfl) rfl (fun _ => op2_ok (opN_ok (arg2_ok rfl rfl) rfl) (op2_ok rfl rfl rfl) rfl) ?_)).trans ?_
  · show (far1 r s t ++ far2 r s t ++ far3 r s t ++ far4 r s t).length < sizeLine
    simp only [List.length_append]
    omega
  rw [k5]
  exact far_end rfl
theorem le_l_far (ds : List D) (m : Mem) : LeR m (m_l_far ds m) (run 6 f_l_far ds m) := spec_le (fun a m => l_far_run a.1 a.2.1 a.2.2 m) (fun _ n => optD_blw _ n) ds m
def f_l_ties : SS := sSeq (sAsg (lsm (argN)) (gNm 2)) (sSeq (sFor (itRng1 (argC (opN gLen (argC (vr 0) (argN))) (argN))) (gNm 3) (sFor (itRng2 (argC (op2 gAdd (vr 3) (cn (.int 1))) (argC (opN gLen (argC (vr 0) (argN))) (argN)))) (gNm 4) (sSeq (sAsg (callN 3 m_l_far (argC (op2 gIx (vr 0) (vr 3)) (argC (op2 gIx (vr 0) (vr 4)) (argC (vr 1) (argN))))) (gNm 5)) (sIf (tV (op2 gNotN (vr 5) (cn .non))) (sExp (appE (vr 2) (tpl (argC (vr 3) (argC (vr 4) (argC (vr 5) (argN))))))) (sNext))))) (sRet (frz (vr 2))))
abbrev PM := { q : List Row × Mill // q.1.length ≤ 2000 }
abbrev encPM (q : PM) : List D := [encP q.1.1, q.1.2.enc]
theorem encP_inj {a b : List Row} (h : encP a = encP b) : a = b := (List.map_inj_right fun _ _ h => Row.enc_inj h).mp (D.tup.inj h)
theorem encPM_inj (a b : PM) (h : encPM a = encPM b) : a = b := by
  obtain ⟨h1, h2⟩ := List.cons.inj h
  obtain ⟨h3, _⟩ := List.cons.inj h2
  exact Subtype.ext (Prod.ext (encP_inj h1) (Mill.enc_inj h3))
def m_l_ties : Fn := spec encPM fun q => .lst (tiesL q.1.1 q.1.2 q.1.1.length)
theorem l_ties_run (p : List Row) (t : Mill) (hp : p.length ≤ 2000) (m : Mem) : m_l_ties [encP p, t.enc] m = .ok (.lst (tiesL p t p.length)) m := spec_at encPM_inj ⟨(p, t), hp⟩ m
theorem mem_tiesL {p : List Row} {t : Mill} {n : Nat} {d : D} (h : d ∈ tiesL p t n) : ∃ i j f : Int, d = .tup [.int i, .int j, .int f] := by
  unfold tiesL rowTies at h
  obtain ⟨a, _, h⟩ := List.mem_flatMap.mp h
  obtain ⟨b, _, h⟩ := List.mem_flatMap.mp h
  unfold tieAt at h
  split at h
  · split at h
    · exact ⟨_, _, _, List.mem_singleton.mp h⟩
    · cases h
  · cases h
theorem blws_of {n : Nat} : ∀ {xs : List D}, (∀ d, d ∈ xs → d.blw n = true) → blws n xs = true
  | [], _ => rfl
  | x :: xs, h => by
    show (x.blw n && blws n xs) = true
    rw [h x List.mem_cons_self, blws_of fun d hd => h d (List.mem_cons_of_mem _ hd)]
    rfl
theorem tiesL_blw (p : List Row) (t : Mill) (n k : Nat) : blws k (tiesL p t n) = true := blws_of fun d h => by
  obtain ⟨i, j, f, rfl⟩ := mem_tiesL h
  rfl
theorem frz_new {v : SE} {ρ : Ev} {m : Mem} {L : List D} (hv : v ρ (m.new (.lst L)) = .ok (.loc m.n) (m.new (.lst L))) : frz v ρ (m.new (.lst L)) = .ok (.lst L) ((m.new (.lst L)).kill m.n) := by
  unfold frz
  rw [bind_ok hv]
  show (match (m.new (.lst L)).get m.n with
    | some (.lst xs) => if m.n < m.n + 1 then Rs.ok (D.lst xs) ((m.new (.lst L)).kill m.n) else .bad
    | _ => .bad) = _
  rw [Mem.new_at]
  exact if_pos (Nat.lt_succ_self _)
theorem l_ties_loop (p : List Row) (t : Mill) (hp : p.length ≤ 2000) (m : Mem) : run 6 f_l_ties [encP p, t.enc] m = .ok (.lst (tiesL p t p.length)) ((m.new (.lst (tiesL p t p.length))).kill m.n) := by
  refine ok_of_wp ?_
  refine run_wp ?_
  unfold f_l_ties
  refine seq_then (asg_ok (lsm_ok (m1 := m) (xs := []) rfl (by decide)) rfl) ?_
  refine seq_wp (tie_for (F := m_l_far) (fun r s m => l_far_row r s t m) hp fun a b c => ?_)
  exact .eq (ret_ok (frz_new rfl)) ⟨rfl, rfl⟩
theorem le_l_ties (ds : List D) (m : Mem) : LeR m (m_l_ties ds m) (run 6 f_l_ties ds m) := spec_le (enc := encPM) (fun a m => ⟨_, l_ties_loop a.1.1 a.1.2 a.2 m, .kill⟩) (fun a n => tiesL_blw _ _ _ n) ds m
end
end LB

set_option Elab.async false
set_option linter.all false
set_option autoImplicit false
set_option maxRecDepth 100000
set_option maxHeartbeats 1000000
/-! Pure: small things that many laws want. -/
namespace LB
open PySem
noncomputable section
local macro_rules | `(tactic| simp_arith [$as,*]) => `(tactic| simp -implicitDefEqProofs (disch := first | assumption | decide | omega | (simp only [List.length_cons, List.length_nil, Mem.put_n, Mem.new_n, Mem.kill_n]; omega)) only [↓KO_some, ↓K_vr, ↓kVr_0, ↓kVr_s, ↓K_cn, ↓K_pure, ↓K_op2, ↓kOp2a_at, ↓kOp2b_at, ↓K_op1, ↓kOp1_at, ↓K_argN, ↓K_argC, ↓kArg1_at, ↓kArg2_at, ↓K_opN, ↓kOpN_at, ↓K_call, ↓kCall_1, ↓kCall_2, ↓kCall_3, ↓kCall_4, ↓kCall_5, ↓K_tpl, ↓K_lsl, ↓K_lsm, ↓K_dctE, ↓kTpl_0, ↓kTpl_1, ↓kTpl_2, ↓kTpl_3, ↓kTpl_4, ↓kTpl_5, ↓kLsl_0, ↓kLsl_1, ↓kLsl_2, ↓kLsl_3, ↓kLsl_4, ↓kLsm_0, ↓K_tV, ↓kTV_at, ↓K_tAnd, ↓kTAnd_t, ↓kTAnd_f, ↓K_tOr, ↓kTOr_t, ↓kTOr_f, ↓K_tNot, ↓kTNot_t, ↓kTNot_f, ↓kTNot_at, ↓K_tYes, ↓K_vAnd, ↓kVAnd_t, ↓kVAnd_f, ↓K_vOr, ↓kVOr_t, ↓kVOr_f, ↓K_vNot, ↓kVNot_at, ↓K_ifE, ↓kIfE_t, ↓kIfE_f, ↓K_chn, ↓kChn0_at, ↓kChn1_at, ↓kChn2_t, ↓kChn2_f, ↓K_soN, ↓K_soS, ↓kSoS_at, ↓K_slc, ↓kSlc0_at, ↓kSlc1_at, ↓kSlc2_at, ↓KSl_tup, ↓KSl_lst, ↓K_sNext, ↓K_sSeq, ↓kSeq_nx, ↓kSeq_rt, ↓K_sRet, ↓kRet_at, ↓K_sRetN, ↓K_sExp, ↓kExp_at, ↓K_sIf, ↓kIf_t, ↓kIf_f, ↓kSet_0, ↓kSet_s, ↓kUn_c, ↓kUn_n, ↓K_sAsg, ↓kAsg_nm, ↓kAsg_tp, ↓kNms_c, ↓kNmsC_at, ↓kNms_n, ↓K_sPar, ↓kPar1_at, ↓kPar2_at, ↓K_run, ↓kRun_rt, ↓kRun_nx, ↓K2_add_i, ↓K2_sub_i, ↓K2_mul_i, ↓K2_mod_i, ↓K2_fdiv_i, ↓K2_lt_i, ↓K2_le_i, ↓K2_gt_i, ↓K2_ge_i, ↓K2_eq_i, ↓K2_ne_i, ↓K2_eq_st, ↓K2_eq_sf, ↓K2_ne_st, ↓K2_ne_sf, ↓K2_eq_b, ↓K2_add_t, ↓K2_add_l, ↓K1_neg_i, ↓K2_isN_n, ↓K2_isN_i, ↓K2_isN_s, ↓K2_isN_t, ↓K2_isN_l, ↓K2_isN_c, ↓K2_notN_n, ↓K2_notN_i, ↓K2_notN_s, ↓K2_notN_t, ↓K2_notN_l, ↓K2_notN_c, ↓K2_ix_t, ↓K2_ix_l, ↓KIx_0, ↓KIx_1, ↓KIx_2, ↓KIx_3, ↓KIx_4, ↓KIx_m1a, ↓KIx_m1b, ↓KIx_m1c, ↓KIx_m1d, ↓KN_len_t, ↓KN_len_l, ↓KN_max2, ↓KN_min2, ↓KN_int_i, ↓KN_int_t, ↓KN_int_f, ↓KN_int_b, ↓KN_tuple_l, ↓KN_tuple_t, ↓KN_maxl, ↓KN_suml, ↓K1_isi_n, ↓K1_isi_b, ↓K1_isi_i, ↓K1_isi_s, ↓K1_isi_t, ↓K1_isi_l, ↓KG_put_eq, ↓KG_put_ne, ↓KG_new_eq, ↓KG_new_ne, ↓KG_kill_ne, ↓K2_ix_c, ↓kIxL_at, ↓KN_len_c, ↓kLenL_l, ↓kLenL_d, ↓KN_tuple_c, ↓kTupL_at, ↓KN_max_c, ↓kMaxL_at, ↓KSl_c, ↓kSlL_at, ↓K_appE, ↓kApp1_at, ↓kApp1b_at, ↓kApp2_at, ↓kApp3_at, ↓K_sLput, ↓kPut1_at, ↓kPut2_at, ↓kPut3_at, ↓kPut4_at, ↓K2_dget_i, ↓K2_dget_s, ↓kDgD_at, ↓KVk_eq, ↓KVk_ne, ↓KVd_eq, ↓KVd_ne, ↓KVd_n, ↓K_dget2, ↓kDg1_at, ↓kDg1b_at, ↓kDg2_at, ↓kDg3_at, ↓kDg4_i, ↓kDg4_s, ↓K_sDput, ↓kDp1_at, ↓kDp2_at, ↓kDp3_i, ↓kDp3_s, ↓kDp4_at, ↓K1_fld, ↓kFldO_at, ↓KFl_eq, ↓KFl_ne, ↓K_sFput, ↓kFp1_at, ↓kFp2_at, ↓kFp3_at, ↓kPf_n, ↓kPf_eq, ↓kPu_c, ↓kPu_n, ↓kPf_ne, ↓K_callM, ↓kMt1_at, ↓kMt2_at, ↓kNo_n, ↓kNo_c, ↓kMt3_0, ↓kMt3_1, ↓kMt3_2, ↓kMt3_3, ↓kMt3_4, ↓K_mkE, ↓kMk_1, ↓kMk_2, ↓kMk_3, ↓kMk2_at, ↓K_sFor, ↓kFor_at, ↓K_itRng1, ↓kRng1_nat, ↓K_itRng2, ↓kRng2_at, ↓K_itSeq, ↓kSeqI_t, ↓kSeqI_l, ↓kSeqI_c, ↓kSeqL_at, ↓K_bodyG_nm, ↓K_bodyG_tp, ↓K_sWhile, ↓kComp_at, ↓K_comp, ↓K_compM, ↓kLst_at, ↓kLstM_at, ↓kEx_at, ↓K_exG_nm, ↓K_exG_tp, ↓kAlc_at, ↓K_opNM, ↓kOpNM_at, ↓KN_list_l2, ↓KN_list_t2, ↓KN_list_c, ↓kListL_at, ↓K_op2M, ↓kOp2Ma_at, ↓kOp2Mb_at, ↓K2_rep1, ↓K_prE_n, ↓K_prE_c, ↓kPr1_at, ↓kPr2_at, ↓kPr3_at, ↓K_dspE, ↓kDsp_s1, ↓kDsp_s2, ↓kDsp_s3, ↓kDsp_s4, ↓K_frz, ↓kFrz_c, ↓kFrz_l, ↓kFrz_t, ↓kFrz_n, ↓kFrzL_at, ↓K_extE, ↓kExt1_at, ↓kExt1b_at, ↓kExt2_at, ↓kExt3_at, ↓K_mt0E, ↓kMt0_at, ↓kMt0L_clear, ↓kMt0L_rev, ↓K2_in_t, ↓K2_in_f, ↓K2_notIn_t, ↓K2_notIn_f, ↓K_itZp, ↓kZp1_at, ↓K_itEn, ↓kEnI_t, ↓kEnI_l, ↓K2_din_i, ↓kDinD_at, ↓KR_put_0, ↓KR_put_1, ↓KR_put_2, ↓KR_put_l, ↓KR_put_into, ↓KR_put_end, ↓KR_put_looked, ↓KR_put_cut, ↓KR_move_0, ↓KR_move_1, ↓KR_move_2, ↓KR_move_l, ↓KR_move_into, ↓KR_move_end, ↓KR_move_looked, ↓KR_move_cut, ↓KR_add_0, ↓KR_add_1, ↓KR_add_2, ↓KR_add_3, ↓KR_add_l, ↓KR_add_into, ↓KR_add_end, ↓KR_add_looked, ↓KR_add_cut, ↓KR_take_0, ↓KR_take_1, ↓KR_take_2, ↓KR_take_3, ↓KR_take_l, ↓KR_take_into, ↓KR_take_end, ↓KR_take_looked, ↓KR_take_cut, ↓KR_times_0, ↓KR_times_1, ↓KR_times_2, ↓KR_times_3, ↓KR_times_l, ↓KR_times_into, ↓KR_times_end, ↓KR_times_looked, ↓KR_times_cut, ↓KR_get_0, ↓KR_get_1, ↓KR_get_2, ↓KR_get_l, ↓KR_get_into, ↓KR_get_end, ↓KR_get_looked, ↓KR_get_cut, ↓KR_set_0, ↓KR_set_1, ↓KR_set_2, ↓KR_set_l, ↓KR_set_into, ↓KR_set_end, ↓KR_set_looked, ↓KR_set_cut, ↓KR_say_0, ↓KR_say_1, ↓KR_say_l, ↓KR_say_into, ↓KR_say_end, ↓KR_say_looked, ↓KR_say_cut, ↓KR_rest_0, ↓KR_rest_l, ↓KR_rest_into, ↓KR_rest_end, ↓KR_rest_looked, ↓KR_rest_cut, ↓KR_go_0, ↓KR_go_1, ↓KR_go_l, ↓KR_go_into, ↓KR_go_end, ↓KR_go_looked, ↓KR_go_cut, ↓KR_ifr_0, ↓KR_ifr_1, ↓KR_ifr_2, ↓KR_ifr_l, ↓KR_ifr_into, ↓KR_ifr_end, ↓KR_ifr_looked, ↓KR_ifr_cut, ↓KR_stop_0, ↓KR_stop_l, ↓KR_stop_into, ↓KR_stop_end, ↓KR_stop_looked, ↓KR_stop_cut, ↓KR_late, ↓KR_far, ↓KR_num, ↓KR_mill_0, ↓KR_mill_1, ↓KR_mill_2, ↓KR_mill_3, ↓KR_pi_len, ↓KA_stop, ↓KA_goes, ↓KA_ends, ↓K_mt1E, ↓kM1_l, ↓kM1_s, ↓kM1b_at, ↓K1_isi_c, ↓kIsiL_at, ↓KN_minl, start0, List.map_cons, List.map_nil, List.length_cons, List.length_nil, List.replicate_succ, List.replicate_zero, Nat.reduceSub, Nat.reduceAdd, wipeE, List.set_cons_zero, List.set_cons_succ, List.cons_append, List.nil_append, $as,*])
theorem Mem.put_get (m : Mem) (c j : Nat) (o : MO) : (m.put c o).get j = if j = c then some o else m.get j := rfl
theorem Mem.new_get (m : Mem) (j : Nat) (o : MO) : (m.new o).get j = if j = m.n then some o else m.get j := rfl
theorem valK_cons (kv : KeyS × D) (r : List (KeyS × D)) (y : KeyS) : valK (kv :: r) y = if kv.1 = y then some kv.2 else valK r y := by
  unfold valK
  rw [List.find?_cons]
  by_cases h : kv.1 = y <;> simp [h]
theorem valK_put {kvs : List (KeyS × D)} {x : KeyS} {v : D} (y : KeyS) : valK (putKD kvs x v) y = if y = x then some v else valK kvs y := by
  have hmap : ∀ l : List (KeyS × D), valK (l.map fun kv => if kv.1 = x then (kv.1, v) else kv) y = if y = x then (if (l.any fun kv => decide (kv.1 = x)) = true then some v else none) else valK l y := by
    intro l
    induction l with
    | nil => by_cases h : y = x <;> simp [valK, h]
    | cons kv r ih =>
      rw [List.map_cons, valK_cons, valK_cons, List.any_cons, ih]
      by_cases h1 : kv.1 = x
      · by_cases h2 : y = x
        · simp [h1, h2]
        · have h3 : ¬ x = y := fun e => h2 e.symm
          simp [h1, h2, h3]
      · by_cases h2 : y = x
        · subst h2
          have h4 : decide (kv.1 = y) = false := decide_eq_false h1
          simp only [h4, Bool.false_or]
          simp only [h1, if_false, if_true]
        · simp [h1, h2]
  unfold putKD
  by_cases h : (kvs.any fun kv => decide (kv.1 = x)) = true
  · rw [if_pos h, hmap, if_pos h]
  · rw [if_neg h]
    unfold valK
    rw [List.find?_append]
    by_cases h2 : y = x
    · subst h2
      rw [if_pos rfl]
      have h3 : (kvs.find? fun kv => decide (kv.1 = y)) = none := by
        rw [List.find?_eq_none]
        intro z hz hzz
        exact h (List.any_eq_true.mpr ⟨z, hz, hzz⟩)
      rw [h3]
      simp
    · rw [if_neg h2]
      have h3 : ¬ x = y := fun e => h2 e.symm
      have h4 : ([(x, v)].find? fun kv => decide (kv.1 = y)) = none := by simp [h3]
      rw [h4]
      simp
theorem putKD_len (kvs : List (KeyS × D)) (x : KeyS) (v : D) : (putKD kvs x v).length ≤ kvs.length + 1 := by
  unfold putKD
  split
  · rw [List.length_map]
    omega
  · rw [List.length_append]
    exact Nat.le_refl _
theorem KN_list_of {β : Type} {m : Mem} {d : D} {xs : List D} (h : lstOf m d = some xs) (k : D → Mem → Rs β) : KN gList [d] m k = k (.lst xs) m := KO_of (by show (sqOf m d).map D.lst = _; rw [sq_lst h]; rfl) m k
theorem ne2 (n : Nat) : ¬ n = n + 1 + 1 := by omega
theorem ne3 (n : Nat) : ¬ n = n + 1 + 1 + 1 := by omega
theorem ne4 (n : Nat) : ¬ n = n + 1 + 1 + 1 + 1 := by omega
/-- lists, changeable or not -/
theorem K2_ix_of {β : Type} {m : Mem} {d : D} {xs : List D} (h : lstOf m d = some xs) (i : Int) (k : D → Mem → Rs β) : K2 gIx d (.int i) m k = KIx xs i m k := by
  unfold K2 KIx
  congr 1
  have e : gIx d (.int i) m = (sqOf m d).bind fun xs => atD xs i := by
    cases d <;> first
      | rfl
      | (cases h; done)
  rw [e, sq_lst h]
  rfl
theorem KN_len_of {β : Type} {m : Mem} {d : D} {xs : List D} (h : lstOf m d = some xs) (k : D → Mem → Rs β) : KN gLen [d] m k = k (.int xs.length) m := KO_of (len_lst h) m k
theorem kSeqI_of {β : Type} {m : Mem} {d : D} {xs : List D} (h : lstOf m d = some xs) (k : Wk × Nat → Mem → Rs β) : kSeqI k d m = k (wkSeq d, xs.length) m := by
  unfold kSeqI
  rw [sq_lst h]
  rfl
theorem lst_loc {m : Mem} {c : Nat} {xs : List D} (h : c < m.n) (g : m.get c = some (.lst xs)) : lstOf m (.loc c) = some xs := lstOf_at h g
theorem KIx_getD {β : Type} {ss : List Int} {i : Nat} (h : i < ss.length) (m : Mem) (k : D → Mem → Rs β) : KIx (ss.map D.int) (i : Int) m k = k (.int (ss.getD i 0)) m := KIx_of (by rw [List.getElem?_map, List.getElem?_eq_getElem h, List.getD_eq_getElem?_getD, List.getElem?_eq_getElem h]; rfl) m k
def optN (o : Option Nat) : D := match o with
  | some u => .int (u : Nat)
  | none => .non
theorem KIx_getO {β : Type} {hs : List (Option Nat)} {i : Nat} (h : i < hs.length) (m : Mem) (k : D → Mem → Rs β) : KIx (hs.map optN) (i : Int) m k = k (optN (hs.getD i none)) m := KIx_of (by rw [List.getElem?_map, List.getElem?_eq_getElem h, List.getD_eq_getElem?_getD, List.getElem?_eq_getElem h]; rfl) m k
theorem KIx_last {β : Type} {xs : List D} {x : D} (h : xs.getLast? = some x) (m : Mem) (k : D → Mem → Rs β) : KIx xs (-1) m k = k x m := KO_of (by rw [atD_neg1]; exact h) m k
theorem ne5 (n : Nat) : ¬ n = n + 1 + 1 + 1 + 1 + 1 := by omega
def rowAt (p : List Row) (i : Nat) : Row := p.getD i .rest
theorem rowAt_of {p : List Row} {i : Nat} (h : i < p.length) : p[i]? = some (rowAt p i) := by
  unfold rowAt
  rw [List.getD_eq_getElem?_getD, List.getElem?_eq_getElem h]
  rfl
/-- one of some numbers, drawn -/
theorem KIx_ints (xs : List Int) {v : Int} (h0 : 0 ≤ v) (h1 : v < xs.length) : ∃ w, w ∈ xs ∧ ∀ {β : Type} (m : Mem) (k : D → Mem → Rs β), KIx (xs.map D.int) v m k = k (.int w) m := by
  have hj : v.toNat < xs.length := by omega
  refine ⟨xs[v.toNat], List.getElem_mem hj, fun m k => KIx_ofI h0 ?_ m k⟩
  rw [List.getElem?_map, List.getElem?_eq_getElem hj]
  rfl
theorem KIx_nats (xs : List Nat) {v : Int} (h0 : 0 ≤ v) (h1 : v < xs.length) : ∃ w, w ∈ xs ∧ ∀ {β : Type} (m : Mem) (k : D → Mem → Rs β), KIx (xs.map fun n => D.int (n : Nat)) v m k = k (.int (w : Nat)) m := by
  have hj : v.toNat < xs.length := by omega
  refine ⟨xs[v.toNat], List.getElem_mem hj, fun m k => KIx_ofI h0 ?_ m k⟩
  rw [List.getElem?_map, List.getElem?_eq_getElem hj]
  rfl
theorem eqvs_ints : ∀ xs ys : List Int, eqvs (xs.map D.int) (ys.map D.int) = decide (xs = ys)
  | [], [] => rfl
  | [], _ :: _ => rfl
  | _ :: _, [] => rfl
  | x :: xs, y :: ys => by
    show (x == y && eqvs (xs.map D.int) (ys.map D.int)) = _
    rw [eqvs_ints xs ys, Bool.eq_iff_iff]
    simp
theorem eqOf_ints {m : Mem} {d e : D} {xs ys : List Int} (hd : lstOf m d = some (xs.map D.int)) (he : lstOf m e = some (ys.map D.int)) : eqOf m d e = some (decide (xs = ys)) := by
  have h : eqDeep m d e = some (decide (xs = ys)) := by
    have e1 : res m d = .lst (xs.map D.int) := by
      unfold res
      rw [hd]
    have e2 : res m e = .lst (ys.map D.int) := by
      unfold res
      rw [he]
    have dp (zs : List Int) : (D.lst (zs.map D.int)).dep ≤ 60 := by
      show deps (zs.map D.int) + 1 ≤ 60
      rw [deps_ints]
      decide
    unfold eqDeep
    rw [e1, e2, if_pos ⟨plains_ints xs, plains_ints ys, dp xs, dp ys⟩]
    show some (eqvs _ _) = _
    rw [eqvs_ints]
  cases d <;> first
    | (cases hd; done)
    | skip
  all_goals
    cases e <;> first
      | (cases he; done)
      | exact h
theorem K2_eq_ints {β : Type} {m : Mem} {d e : D} {xs ys : List Int} (hd : lstOf m d = some (xs.map D.int)) (he : lstOf m e = some (ys.map D.int)) (k : D → Mem → Rs β) : K2 gEq d e m k = k (.bl (decide (xs = ys))) m := KO_of (by unfold gEq; rw [eqOf_ints hd he]; rfl) m k
theorem K2_ne_ints {β : Type} {m : Mem} {d e : D} {xs ys : List Int} (hd : lstOf m d = some (xs.map D.int)) (he : lstOf m e = some (ys.map D.int)) (k : D → Mem → Rs β) : K2 gNe d e m k = k (.bl (!decide (xs = ys))) m := KO_of (by unfold gNe; rw [eqOf_ints hd he]; rfl) m k
theorem Al_ints {m : Mem} {d e : D} {xs : List Int} {n : Nat} (hd : lstOf m d = some (xs.map D.int)) (he : lstOf m e = some (xs.map D.int)) (hl : xs.length ≤ sizeLine) : Al (n + 2) m d e := by
  refine .inr (.inr (.inr (.inr (.inr ⟨_, _, hd, he, rfl, by rw [List.length_map]; exact hl, fun a x y hx hy => ?_⟩))))
  have e : x = y := Option.some.inj (hx.symm.trans hy)
  subst e
  obtain ⟨v, _, rfl⟩ := List.mem_map.mp (List.mem_of_getElem? hx)
  exact .inr (.inr (.inl ⟨v, rfl, rfl⟩))
theorem Al_int {m : Mem} {n : Nat} (i : Int) : Al (n + 1) m (.int i) (.int i) := .inr (.inr (.inl ⟨i, rfl, rfl⟩))
theorem Al_str {m : Mem} {n : Nat} (i : Str) : Al (n + 1) m (.str i) (.str i) := .inr (.inr (.inr (.inl ⟨i, rfl, rfl⟩)))
theorem Al_non {m : Mem} {n : Nat} : Al (n + 1) m .non .non := .inl ⟨rfl, rfl⟩
theorem Al_tup {m : Mem} {n : Nat} {xs ys : List D} (hl : xs.length = ys.length) (hs : xs.length ≤ sizeLine) (h : ∀ (i : Nat) (x y : D), xs[i]? = some x → ys[i]? = some y → Al n m x y) : Al (n + 1) m (.tup xs) (.tup ys) := .inr (.inr (.inr (.inr (.inl ⟨xs, ys, rfl, rfl, hl, hs, h⟩))))
theorem Drw.same_keep {k c : Nat} {m m2 : Mem} (h : Drw k c m) (hn : m.n ≤ m2.n) (hk : m2.get k = m.get k) (hc : m2.get c = m.get c) : Drw k c m2 := by
  obtain ⟨a, p, xs, h1, h2, h3, h4, h5⟩ := h.at_
  exact ⟨Nat.lt_of_lt_of_le h.kn hn, Nat.lt_of_lt_of_le h.cn hn, h.ne, a, p, xs, h1, h2, h3, hk.trans h4, hc.trans h5⟩
end
end LB

set_option Elab.async false
set_option linter.all false
set_option autoImplicit false
set_option maxRecDepth 100000
set_option maxHeartbeats 1000000
/-! Pure: drawn programs; need_program. -/
namespace LB
open PySem
noncomputable section
def f_l_plain : SS := sSeq (sAsg (callN 1 m_l_boxes (argC (vr 0) (argN))) (gNm 2)) (sSeq (sAsg (op2 gAdd (cn (.int 1)) (callN 2 m_l_next (argC (vr 0) (argC (vr 1) (argN))))) (gNm 3)) (sSeq (sAsg (op2 gIx (lsl (argC (cn (.int 3)) (argC (cn (.int 5)) (argC (cn (.int 12)) (argN))))) (callN 2 m_l_next (argC (vr 0) (argC (cn (.int 3)) (argN))))) (gNm 4)) (sRet (opN gTuple (argC (comp (itRng1 (argC (vr 3) (argN))) (gNm 5) (LB.tYes) (ifE (tV (op2 gEq (callN 2 m_l_next (argC (vr 0) (argC (vr 4) (argN)))) (cn (.int 0)))) (callN 4 m_l_jump (argC (vr 0) (argC (vr 2) (argC (vr 5) (argC (vr 3) (argN)))))) (callN 2 m_l_deed (argC (vr 0) (argC (vr 2) (argN))))) [5]) (argN))))))
def m_l_plain : Fn := run 6 f_l_plain
theorem le_l_plain (ds : List D) (m : Mem) : LeR m (m_l_plain ds m) (run 6 f_l_plain ds m) := .same _
structure ProgOk (p : List Row) : Prop where
  one : 1 ≤ p.length
  most : p.length ≤ 200
  rows : ∀ r, r ∈ p → r.okB p.length = true
structure ProgP (n : Nat) (p : List Row) : Prop where
  one : 1 ≤ p.length
  most : p.length ≤ n
  rows : ∀ r, r ∈ p → r.okB p.length = true
theorem plain_wp {k c : Nat} {m : Mem} {n : Nat} (h : Drw k c m) (h0 : 0 < n) (h1 : n ≤ 1000) : WP (m_l_plain [.loc k, .int n] m) (Rq k c m encP (ProgP n)) fun _ _ => False := by
  unfold m_l_plain
  refine run_wp ?_
  unfold f_l_plain
  refine seq_wp ?_
  refine asg_wp ?_
  refine callN_wp ?_
  refine .eq (x := [.loc k]) (m := m) rfl ?_
  refine ⟨rfl, ?_⟩
  refine (boxes_wp h).any fun d m2 z => ?_
  obtain ⟨x, rfl, hx, d2, s2⟩ := z
  refine ⟨[some (.loc k), some (.int n), some x.enc, none, none, none], rfl, ?_⟩
  refine seq_wp (asg_wp (op2_wp (.eq (x := .int 1) (m := m2) rfl ?_)))
  refine draw_e (n := (n : Int)) rfl rfl d2 (by omega) (by omega) fun v m3 v0 v1 d3 s3 _ => ?_
  obtain ⟨u, rfl⟩ : ∃ u : Nat, v = (u : Int) := ⟨v.toNat, by omega⟩
  refine ⟨.int (1 + (u : Int)), rfl, ?_⟩
  refine ⟨[some (.loc k), some (.int n), some x.enc, some (.int (1 + (u : Int))), none, none], rfl, ?_⟩
  refine seq_wp (asg_wp (op2_wp (.eq (x := .lst [.int 3, .int 5, .int 12]) (m := m3) rfl ?_)))
  refine draw_e (n := 3) rfl rfl d3 (by decide) (by decide) fun w m4 w0 w1 d4 s4 _ => ?_
  have hoft : ∃ g : Int, gIx (.lst [.int 3, .int 5, .int 12]) (.int w) m4 = some (.int g) ∧ 0 < g ∧ g ≤ 12 := by
    have hz : w = 0 ∨ w = 1 ∨ w = 2 := by omega
    rcases hz with rfl | rfl | rfl
    · exact ⟨3, rfl, by decide, by decide⟩
    · exact ⟨5, rfl, by decide, by decide⟩
    · exact ⟨12, rfl, by decide, by decide⟩
  obtain ⟨g, hg, g0, g1⟩ := hoft
  refine ⟨.int g, hg, ?_⟩
  let ρ : Ev := [some (.loc k), some (.int n), some x.enc, some (.int (1 + (u : Int))), some (.int g), none]
  refine ⟨ρ, rfl, ?_⟩
  have s14 := (s2.trans s3).trans s4
  have eN : (1 + (u : Int)).toNat = u + 1 := by omega
  have hit : itRng1 (argC (vr 3) (argN)) ρ m4 = .ok (wkRng 0 (u + 1), ((List.range (u + 1)).map fun j => D.int (0 + (j : Nat))).length) m4 := by
    rw [List.length_map, List.length_range]
    have z := it1_ok (a := argC (vr 3) (argN)) (ρ := ρ) (m := m4) (m1 := m4) (hi := 1 + (u : Int)) rfl (by
      have e : (1 + (u : Int)) = ((u + 1 : Nat) : Int) := by omega
      rw [e]
      exact small62_nat (by omega))
    rw [eN] at z
    exact z
  refine ret_wp (opN_wp (argC_wp (comp_wp ((compL_wp (m := m4) (xs := (List.range (u + 1)).map fun j => D.int (0 + (j : Nat))) (I := fun i acc m5 => Drw k c m5 ∧ Same k c m m5 ∧ ∃ p : List Row, acc = p.map Row.enc ∧ p.length = i ∧ i ≤ u + 1 ∧ ∀ r, r ∈ p → r.okB (u + 1 : Nat) = true) hit (fun i acc m3 _ => wkRng_eq 0 (u + 1) i m3) ⟨d4, s14, [], rfl, rfl, Nat.zero_le _, fun v h => by cases h⟩ ?_).mono ?_))))
  · intro j y acc m5 hy hI
    obtain ⟨d5, s5, p, rfl, hl, hj, hp⟩ := hI
    rw [List.getElem?_map] at hy
    by_cases hjp : j < u + 1
    · rw [List.getElem?_range hjp] at hy
      cases hy
      let ρ1 : Ev := [some (.loc k), some (.int n), some x.enc, some (.int (1 + (u : Int))), some (.int g), some (.int (0 + (j : Nat)))]
      refine ⟨ρ1, rfl, ?_⟩
      have fin : ∀ (r : Row) (m6 : Mem), r.okB (u + 1 : Nat) = true → Drw k c m6 → Same k c m5 m6 → (p.map Row.enc).length < sizeLine ∧ (Drw k c m6 ∧ Same k c m m6 ∧ ∃ p2 : List Row, p.map Row.enc ++ [r.enc] = p2.map Row.enc ∧ p2.length = j + 1 ∧ j + 1 ≤ u + 1 ∧ ∀ r, r ∈ p2 → r.okB (u + 1 : Nat) = true) := fun r m6 hr d6 s6 => by
        refine ⟨by rw [List.length_map, hl]; exact Nat.lt_of_le_of_lt (show j ≤ 1000 by omega) (by decide), d6, s5.trans s6, p ++ [r], by rw [List.map_append]; rfl, by rw [List.length_append, hl]; rfl, hjp, fun r2 hv => ?_⟩
        rcases List.mem_append.mp hv with q | q
        · exact hp r2 q
        · cases List.mem_singleton.mp q
          exact hr
      refine ifE_wp (tV_wp (op2_wp ?_))
      refine draw_e (n := g) rfl rfl d5 (by omega) (by omega) fun b m6 b0 b1 d6 s6 _ => ?_
      refine .eq (x := .int 0) (m := m6) rfl ?_
      refine ⟨.bl (decide (b = 0)), rfl, decide (b = 0), rfl, ?_⟩
      cases decide (b = 0) with
      | true =>
        simp only [if_true]
        refine callN_wp ?_
        refine .eq (x := [.loc k, x.enc, .int (0 + (j : Nat)), .int (1 + (u : Int))]) (m := m6) rfl ?_
        refine ⟨rfl, ?_⟩
        refine (jump_wp d6 hx (by omega) (by omega) (by omega)).any fun d m7 z => ?_
        obtain ⟨r, rfl, hr, d7, s7⟩ := z
        have e : (1 + (u : Int)) = ((u + 1 : Nat) : Int) := by omega
        rw [e] at hr
        exact fin r m7 hr.ok d7 (s6.trans s7)
      | false =>
        simp only [Bool.false_eq_true, if_false]
        refine callN_wp ?_
        refine .eq (x := [.loc k, x.enc]) (m := m6) rfl ?_
        refine ⟨rfl, ?_⟩
        refine (deed_wp d6 hx).any fun d m7 z => ?_
        obtain ⟨r, rfl, hr, d7, s7⟩ := z
        exact fin r m7 (hr.ok _) d7 (s6.trans s7)
    · rw [List.getElem?_eq_none (by rw [List.length_range]; omega)] at hy
      cases hy
  · intro ys m5 hI
    obtain ⟨d5, s5, p, rfl, hl, _, hp⟩ := hI
    rw [List.length_map, List.length_range] at hl
    refine argN_wp ⟨.tup (p.map Row.enc), rfl, p, rfl, ⟨by omega, by omega, fun r hr => ?_⟩, d5, s5⟩
    rw [hl]
    exact hp r hr
def f_need_program : SS := sSeq (sIf (LB.tOr (LB.tNot (tV (op1 (gIsi "tuple") (vr 0)))) (tV (op2 gEq (vr 0) (tpl (argN))))) (sBad) (sNext)) (sFor (itRng1 (argC (opN gLen (argC (vr 0) (argN))) (argN))) (gNm 1) (sIf (LB.tOr (tV (op2 gGe (vr 1) (cn (.int 200)))) (LB.tNot (tV (callN 2 m_is_row (argC (op2 gIx (vr 0) (vr 1)) (argC (opN gLen (argC (vr 0) (argN))) (argN))))))) (sBad) (sNext)))
def m_need_program : Fn := run 2 f_need_program
theorem le_need_program (ds : List D) (m : Mem) : LeR m (m_need_program ds m) (run 2 f_need_program ds m) := .same _
theorem encP_ne_nil {p : List Row} (h : 1 ≤ p.length) (m : Mem) : gEq (encP p) (.tup []) m = some (.bl false) := by
  have hpl : ∀ p : List Row, plains (p.map Row.enc) = true := by
    intro p
    induction p with
    | nil => rfl
    | cons r p ih =>
      show (r.enc.plain && plains (p.map Row.enc)) = true
      rw [row_plain, ih]
      rfl
  have hdp : ∀ p : List Row, deps (p.map Row.enc) ≤ 1 := by
    intro p
    induction p with
    | nil => exact Nat.zero_le _
    | cons r p ih =>
      show max r.enc.dep (deps (p.map Row.enc)) ≤ 1
      rw [row_dep]
      omega
  have h2 : eqDeep m (encP p) (.tup []) = some false := by
    unfold eqDeep
    have e1 : res m (encP p) = encP p := rfl
    have e2 : res m (.tup []) = .tup [] := rfl
    have d1 : (encP p).dep ≤ 60 := by
      show deps (p.map Row.enc) + 1 ≤ 60
      have := hdp p
      omega
    rw [e1, e2, if_pos ⟨hpl p, rfl, d1, by decide⟩]
    match p, h with
    | r :: q, _ => rfl
  show (eqDeep m (encP p) (.tup [])).map D.bl = _
  rw [h2]
  rfl
theorem need_program_ok {p : List Row} (hp : ProgOk p) (m : Mem) : m_need_program [encP p] m = .ok .non m := by
  have h200 := hp.most
  have hlen : (p.map Row.enc).length = p.length := List.length_map _
  unfold m_need_program
  refine ok_of_wp ?_
  refine run_wp ?_
  unfold f_need_program
  refine seq_wp (if_no_wp (m1 := m) (tOr_ok1 (x := false) (tNot_ok (x := true) (tV_ok (op1_ok rfl rfl))) fun _ => tV_ok (op2_ok (y := .tup []) (m2 := m) rfl rfl (encP_ne_nil hp.one m))) (sNext_wp ?_))
  have hL (ρ : Ev) (h : ρ[0]? = some (some (encP p))) : opN gLen (argC (vr 0) (argN)) ρ m = .ok (.int p.length) m := by
    have z := len_tup (a := vr 0) (ρ := ρ) (m := m) (m1 := m) (xs := p.map Row.enc) (vr_ok h)
    rw [hlen] at z
    exact z
  show WP _ _ _
  refine for_rng (lo := 0) (n := p.length) (m := m) (I := fun i ρ m2 => m2 = m ∧ ∃ a, ρ = [some (encP p), a]) ?_ ⟨rfl, none, rfl⟩ (fun i ρ m2 hi hI => ?_) fun ρ m2 hI => ?_
  · have z := it1_ok (a := argC (opN gLen (argC (vr 0) (argN))) (argN)) (ρ := [some (encP p), none]) (m := m) (m1 := m) (hi := p.length) (arg1_ok (hL _ rfl)) (small62_nat (by omega))
    rw [Int.toNat_natCast] at z
    exact z
  · obtain ⟨rfl, a, rfl⟩ := hI
    refine ⟨[some (encP p), some (.int (i : Nat))], by rw [Int.zero_add]; rfl, ?_⟩
    refine if_no_wp (m1 := m2) (tOr_ok1 (x := false) (tV_ok (op2_ok (x := .int (i : Nat)) rfl rfl (?_ : gGe (.int (i : Nat)) (.int 200) m2 = _))) fun _ => tNot_ok (x := true) (tV_ok ((callN_ok (np := 2) (arg2_ok (op2_ok rfl rfl (encP_at hi m2)) (hL _ rfl)) rfl).trans ((is_row_row (p[i]) p.length m2).trans (by rw [hp.rows _ (List.getElem_mem hi)]))))) (sNext_wp ⟨rfl, _, rfl⟩)
    show some (D.bl (decide ((200 : Int) ≤ (i : Nat)))) = _
    rw [decide_eq_false (by omega)]
  · obtain ⟨rfl, a, rfl⟩ := hI
    exact ⟨rfl, rfl⟩
def f_l_cells : SS := sRet (comp (itRng1 (argC (cn (.int 16)) (argN))) (gNm 1) (LB.tYes) (callN 1 m_l_number (argC (vr 0) (argN))) [1])
def m_l_cells : Fn := run 2 f_l_cells
theorem le_l_cells (ds : List D) (m : Mem) : LeR m (m_l_cells ds m) (run 2 f_l_cells ds m) := .same _
structure CellsOk (cs : List Int) : Prop where
  len : cs.length = 16
  rng : ∀ v, v ∈ cs → 0 ≤ v ∧ v < 1000
theorem cells_wp {k c : Nat} {m : Mem} (h : Drw k c m) : WP (m_l_cells [.loc k] m) (fun d m2 => ∃ cs : List Int, d = .lst (cs.map D.int) ∧ CellsOk cs ∧ Drw k c m2 ∧ Same k c m m2) fun _ _ => False := by
  unfold m_l_cells
  refine run_wp ?_
  unfold f_l_cells
  refine ret_wp (comp_wp ((compL_wp (m := m) (xs := (List.range 16).map fun j => D.int (0 + (j : Nat))) (I := fun i acc m5 => Drw k c m5 ∧ Same k c m m5 ∧ ∃ vs : List Int, acc = vs.map D.int ∧ vs.length = i ∧ i ≤ 16 ∧ ∀ v, v ∈ vs → 0 ≤ v ∧ v < 1000) (it1_ok (hi := 16) rfl rfl) (fun i acc m3 _ => wkRng_eq 0 16 i m3) ⟨h, .refl k c m, [], rfl, rfl, by decide, fun v h => by cases h⟩ ?_).mono ?_))
  · intro j y acc m5 hy hI
    obtain ⟨d5, s5, vs, rfl, hl, hj, hvs⟩ := hI
    rw [List.getElem?_map] at hy
    by_cases hjp : j < 16
    · refine ⟨[some (.loc k), some y], rfl, ?_⟩
      refine callN_wp ?_
      refine .eq (x := [.loc k]) (m := m5) rfl ?_
      refine ⟨rfl, ?_⟩
      refine (number_wp d5).any fun d m6 z => ?_
      obtain ⟨v, rfl, v0, v1, d6, s6, _⟩ := z
      refine ⟨by rw [List.length_map, hl]; exact Nat.lt_trans hjp (by decide), d6, s5.trans s6, vs ++ [v], by rw [List.map_append]; rfl, by rw [List.length_append, hl]; rfl, hjp, fun y hy => ?_⟩
      rcases List.mem_append.mp hy with q | q
      · exact hvs y q
      · cases List.mem_singleton.mp q
        exact ⟨v0, v1⟩
    · rw [List.getElem?_eq_none (by rw [List.length_range]; omega)] at hy
      cases hy
  · intro ys m5 hI
    obtain ⟨d5, s5, vs, rfl, hl, _, hvs⟩ := hI
    rw [List.length_map, List.length_range] at hl
    exact ⟨vs, rfl, ⟨hl, hvs⟩, d5, s5⟩
def f_need_cells : SS := sIf (LB.tOr (tV (op2 gNe (opN gLen (argC (vr 0) (argN))) (cn (.int 16)))) (tV (op2 gNe (comp (itSeq (vr 0)) (gNm 1) (LB.tNot (tV (callN 3 m_is_number (argC (vr 1) (argC (cn (.int 0)) (argC (op2 gSub (cn (.int 1000)) (cn (.int 1))) (argN))))))) (vr 1) [1]) (lsl (argN))))) (sBad) (sNext)
def m_need_cells : Fn := run 2 f_need_cells
theorem le_need_cells (ds : List D) (m : Mem) : LeR m (m_need_cells ds m) (run 2 f_need_cells ds m) := .same _
theorem need_cells_ok {cs : List Int} (hc : CellsOk cs) (m : Mem) : m_need_cells [.lst (cs.map D.int)] m = .ok .non m := by
  have hlen : (cs.map D.int).length = 16 := by rw [List.length_map]; exact hc.len
  refine run_nx (ρ1 := [some (.lst (cs.map D.int)), none]) ?_
  have hcm := comp_pure (g := gNm 1) (t := LB.tNot (tV (callN 3 m_is_number (argC (vr 1) (argC (cn (.int 0)) (argC (op2 gSub (cn (.int 1000)) (cn (.int 1))) (argN))))))) (e := vr 1) (own := [1]) (ρ := [some (.lst (cs.map D.int)), none]) (m := m) (xs := cs.map D.int) (fun _ => false) (fun d => d) (itSeq_ok (a := vr 0) (d := .lst (cs.map D.int)) rfl rfl) (fun i _ => wkSeq_const rfl i) (fun x hx => by
    obtain ⟨v, hv, rfl⟩ := List.mem_map.mp hx
    have hr := hc.rng v hv
    exact ⟨[some (.lst (cs.map D.int)), some (.int v)], rfl, tNot_ok (x := true) (tV_ok (num_call (i := v) (lo := 0) (hi := 999) rfl hr.1 (by omega))), fun h => by cases h⟩) (by rw [hlen]; decide)
  rw [filt_none] at hcm
  have hL : opN gLen (argC (vr 0) (argN)) [some (.lst (cs.map D.int)), none] m = .ok (.int 16) m := opN_ok (arg1_ok rfl) (by
    show some (D.int (cs.map D.int).length) = _
    rw [hlen]
    rfl)
  refine (if_no (m1 := m) (tOr_ok1 (x := false) (tV_ok (op2_ok hL rfl rfl)) fun _ => tV_ok (op2_ok hcm (lsl_ok (xs := []) rfl (by decide)) ?_))).trans rfl
  show (eqOf m (.lst []) (.lst [])).map (fun b => D.bl (!b)) = _
  rw [eq_nils]
  rfl
end
end LB

set_option Elab.async false
set_option linter.all false
set_option autoImplicit false
set_option maxRecDepth 100000
set_option maxHeartbeats 2000000
/-! Plain: where blocks begin and end. -/
namespace LB
open PySem
noncomputable section
local macro_rules | `(tactic| simp_arith [$as,*]) => `(tactic| simp -implicitDefEqProofs (disch := first | assumption | decide | omega | (simp only [List.length_cons, List.length_nil, Mem.put_n, Mem.new_n, Mem.kill_n]; omega)) only [↓KO_some, ↓K_vr, ↓kVr_0, ↓kVr_s, ↓K_cn, ↓K_pure, ↓K_op2, ↓kOp2a_at, ↓kOp2b_at, ↓K_op1, ↓kOp1_at, ↓K_argN, ↓K_argC, ↓kArg1_at, ↓kArg2_at, ↓K_opN, ↓kOpN_at, ↓K_call, ↓kCall_1, ↓kCall_2, ↓kCall_3, ↓kCall_4, ↓kCall_5, ↓K_tpl, ↓K_lsl, ↓K_lsm, ↓K_dctE, ↓kTpl_0, ↓kTpl_1, ↓kTpl_2, ↓kTpl_3, ↓kTpl_4, ↓kTpl_5, ↓kLsl_0, ↓kLsl_1, ↓kLsl_2, ↓kLsl_3, ↓kLsl_4, ↓kLsm_0, ↓K_tV, ↓kTV_at, ↓K_tAnd, ↓kTAnd_t, ↓kTAnd_f, ↓K_tOr, ↓kTOr_t, ↓kTOr_f, ↓K_tNot, ↓kTNot_t, ↓kTNot_f, ↓kTNot_at, ↓K_tYes, ↓K_vAnd, ↓kVAnd_t, ↓kVAnd_f, ↓K_vOr, ↓kVOr_t, ↓kVOr_f, ↓K_vNot, ↓kVNot_at, ↓K_ifE, ↓kIfE_t, ↓kIfE_f, ↓K_chn, ↓kChn0_at, ↓kChn1_at, ↓kChn2_t, ↓kChn2_f, ↓K_soN, ↓K_soS, ↓kSoS_at, ↓K_slc, ↓kSlc0_at, ↓kSlc1_at, ↓kSlc2_at, ↓KSl_tup, ↓KSl_lst, ↓K_sNext, ↓K_sSeq, ↓kSeq_nx, ↓kSeq_rt, ↓K_sRet, ↓kRet_at, ↓K_sRetN, ↓K_sExp, ↓kExp_at, ↓K_sIf, ↓kIf_t, ↓kIf_f, ↓kSet_0, ↓kSet_s, ↓kUn_c, ↓kUn_n, ↓K_sAsg, ↓kAsg_nm, ↓kAsg_tp, ↓kNms_c, ↓kNmsC_at, ↓kNms_n, ↓K_sPar, ↓kPar1_at, ↓kPar2_at, ↓K_run, ↓kRun_rt, ↓kRun_nx, ↓K2_add_i, ↓K2_sub_i, ↓K2_mul_i, ↓K2_mod_i, ↓K2_fdiv_i, ↓K2_lt_i, ↓K2_le_i, ↓K2_gt_i, ↓K2_ge_i, ↓K2_eq_i, ↓K2_ne_i, ↓K2_eq_st, ↓K2_eq_sf, ↓K2_ne_st, ↓K2_ne_sf, ↓K2_eq_b, ↓K2_add_t, ↓K2_add_l, ↓K1_neg_i, ↓K2_isN_n, ↓K2_isN_i, ↓K2_isN_s, ↓K2_isN_t, ↓K2_isN_l, ↓K2_isN_c, ↓K2_notN_n, ↓K2_notN_i, ↓K2_notN_s, ↓K2_notN_t, ↓K2_notN_l, ↓K2_notN_c, ↓K2_ix_t, ↓K2_ix_l, ↓KIx_0, ↓KIx_1, ↓KIx_2, ↓KIx_3, ↓KIx_4, ↓KIx_m1a, ↓KIx_m1b, ↓KIx_m1c, ↓KIx_m1d, ↓KN_len_t, ↓KN_len_l, ↓KN_max2, ↓KN_min2, ↓KN_int_i, ↓KN_int_t, ↓KN_int_f, ↓KN_tuple_l, ↓KN_tuple_t, ↓KN_maxl, ↓KN_suml, ↓K1_isi_n, ↓K1_isi_b, ↓K1_isi_i, ↓K1_isi_s, ↓K1_isi_t, ↓K1_isi_l, ↓KG_put_eq, ↓KG_put_ne, ↓KG_new_eq, ↓KG_new_ne, ↓KG_kill_ne, ↓K2_ix_c, ↓kIxL_at, ↓KN_len_c, ↓kLenL_l, ↓kLenL_d, ↓KN_tuple_c, ↓kTupL_at, ↓KN_max_c, ↓kMaxL_at, ↓KSl_c, ↓kSlL_at, ↓K_appE, ↓kApp1_at, ↓kApp1b_at, ↓kApp2_at, ↓kApp3_at, ↓K_sLput, ↓kPut1_at, ↓kPut2_at, ↓kPut3_at, ↓kPut4_at, ↓K2_dget_i, ↓K2_dget_s, ↓kDgD_at, ↓KVk_eq, ↓KVk_ne, ↓KVd_eq, ↓KVd_ne, ↓KVd_n, ↓K_dget2, ↓kDg1_at, ↓kDg1b_at, ↓kDg2_at, ↓kDg3_at, ↓kDg4_i, ↓kDg4_s, ↓K_sDput, ↓kDp1_at, ↓kDp2_at, ↓kDp3_i, ↓kDp3_s, ↓kDp4_at, ↓K1_fld, ↓kFldO_at, ↓KFl_eq, ↓KFl_ne, ↓K_sFput, ↓kFp1_at, ↓kFp2_at, ↓kFp3_at, ↓kPf_n, ↓kPf_eq, ↓kPu_c, ↓kPu_n, ↓kPf_ne, ↓K_callM, ↓kMt1_at, ↓kMt2_at, ↓kNo_n, ↓kNo_c, ↓kMt3_0, ↓kMt3_1, ↓kMt3_2, ↓kMt3_3, ↓kMt3_4, ↓K_mkE, ↓kMk_1, ↓kMk_2, ↓kMk_3, ↓kMk2_at, ↓K_sFor, ↓kFor_at, ↓K_itRng1, ↓kRng1_nat, ↓K_itRng2, ↓kRng2_at, ↓K_itSeq, ↓kSeqI_t, ↓kSeqI_l, ↓kSeqI_c, ↓kSeqL_at, ↓K_bodyG_nm, ↓K_bodyG_tp, ↓K_sWhile, ↓kComp_at, ↓K_comp, ↓K_compM, ↓kLst_at, ↓kLstM_at, ↓kEx_at, ↓K_exG_nm, ↓K_exG_tp, ↓kAlc_at, ↓K_opNM, ↓kOpNM_at, ↓KN_list_l2, ↓KN_list_t2, ↓KN_list_c, ↓kListL_at, ↓K_op2M, ↓kOp2Ma_at, ↓kOp2Mb_at, ↓K2_rep1, ↓K_prE_n, ↓K_prE_c, ↓kPr1_at, ↓kPr2_at, ↓kPr3_at, ↓K_dspE, ↓kDsp_s1, ↓kDsp_s2, ↓kDsp_s3, ↓kDsp_s4, ↓K_frz, ↓kFrz_c, ↓kFrz_l, ↓kFrz_t, ↓kFrz_n, ↓kFrzL_at, ↓K_extE, ↓kExt1_at, ↓kExt1b_at, ↓kExt2_at, ↓kExt3_at, ↓K_mt0E, ↓kMt0_at, ↓kMt0L_clear, ↓kMt0L_rev, ↓K2_in_t, ↓K2_in_f, ↓K2_notIn_t, ↓K2_notIn_f, ↓K_itZp, ↓kZp1_at, ↓K_itEn, ↓kEnI_t, ↓kEnI_l, ↓K2_din_i, ↓kDinD_at, ↓KR_put_0, ↓KR_put_1, ↓KR_put_2, ↓KR_put_l, ↓KR_put_into, ↓KR_put_end, ↓KR_put_looked, ↓KR_put_cut, ↓KR_move_0, ↓KR_move_1, ↓KR_move_2, ↓KR_move_l, ↓KR_move_into, ↓KR_move_end, ↓KR_move_looked, ↓KR_move_cut, ↓KR_add_0, ↓KR_add_1, ↓KR_add_2, ↓KR_add_3, ↓KR_add_l, ↓KR_add_into, ↓KR_add_end, ↓KR_add_looked, ↓KR_add_cut, ↓KR_take_0, ↓KR_take_1, ↓KR_take_2, ↓KR_take_3, ↓KR_take_l, ↓KR_take_into, ↓KR_take_end, ↓KR_take_looked, ↓KR_take_cut, ↓KR_times_0, ↓KR_times_1, ↓KR_times_2, ↓KR_times_3, ↓KR_times_l, ↓KR_times_into, ↓KR_times_end, ↓KR_times_looked, ↓KR_times_cut, ↓KR_get_0, ↓KR_get_1, ↓KR_get_2, ↓KR_get_l, ↓KR_get_into, ↓KR_get_end, ↓KR_get_looked, ↓KR_get_cut, ↓KR_set_0, ↓KR_set_1, ↓KR_set_2, ↓KR_set_l, ↓KR_set_into, ↓KR_set_end, ↓KR_set_looked, ↓KR_set_cut, ↓KR_say_0, ↓KR_say_1, ↓KR_say_l, ↓KR_say_into, ↓KR_say_end, ↓KR_say_looked, ↓KR_say_cut, ↓KR_rest_0, ↓KR_rest_l, ↓KR_rest_into, ↓KR_rest_end, ↓KR_rest_looked, ↓KR_rest_cut, ↓KR_go_0, ↓KR_go_1, ↓KR_go_l, ↓KR_go_into, ↓KR_go_end, ↓KR_go_looked, ↓KR_go_cut, ↓KR_ifr_0, ↓KR_ifr_1, ↓KR_ifr_2, ↓KR_ifr_l, ↓KR_ifr_into, ↓KR_ifr_end, ↓KR_ifr_looked, ↓KR_ifr_cut, ↓KR_stop_0, ↓KR_stop_l, ↓KR_stop_into, ↓KR_stop_end, ↓KR_stop_looked, ↓KR_stop_cut, ↓KR_late, ↓KR_far, ↓KR_num, ↓KR_mill_0, ↓KR_mill_1, ↓KR_mill_2, ↓KR_mill_3, ↓KR_pi_len, ↓KA_stop, ↓KA_goes, ↓KA_ends, ↓K_mt1E, ↓kM1_l, ↓kM1_s, ↓kM1b_at, ↓K1_isi_c, ↓kIsiL_at, ↓KN_minl, start0, List.map_cons, List.map_nil, List.length_cons, List.length_nil, List.replicate_succ, List.replicate_zero, Nat.reduceSub, Nat.reduceAdd, wipeE, List.set_cons_zero, List.set_cons_succ, List.cons_append, List.nil_append, $as,*])
def Row.goal : Row → Int
  | .go r => r
  | .ifr _ r => r
  | _ => 0
theorem goal_ok {n : Nat} {r : Row} (h : r.okB n = true) (hg : r.goes = true) : r.goal < n := by
  cases r <;> first
    | cases hg
    | skip
  · simp [Row.okB, Row.parts, Row.sorts, most] at h
    simp only [Row.goal]
    omega
  · simp [Row.okB, Row.parts, Row.sorts, most] at h
    simp only [Row.goal]
    omega
theorem goal_last {r : Row} (hg : r.goes = true) {β : Type} (m : Mem) (k : D → Mem → Rs β) : K2 gIx r.enc (.int (-1)) m k = k (.int r.goal) m := by
  cases r <;> first
    | rfl
    | cases hg
theorem goes_ends {r : Row} (h : r.goes = true) : r.ends = true := by
  cases r <;> first
    | rfl
    | cases h
/-- what the rows ahead of the i-th tell of where a block begins -/
def Tells (p : List Row) (i : Nat) (x : Int) : Prop := x = 0 ∨ ∃ j r, j < i ∧ p[j]? = some r ∧ ((r.goes = true ∧ x = r.goal) ∨ (r.ends = true ∧ x = (j : Nat) + 1))
theorem tells_0 (p : List Row) (x : Int) : Tells p 0 x ↔ x = 0 := by
  constructor
  · rintro (h | ⟨j, r, h, _⟩)
    · exact h
    · exact absurd h (Nat.not_lt_zero _)
  · exact .inl
theorem tells_s {p : List Row} {i : Nat} {r : Row} (hr : p[i]? = some r) (x : Int) : Tells p (i + 1) x ↔ Tells p i x ∨ (r.goes = true ∧ x = r.goal) ∨ (r.ends = true ∧ x = (i : Nat) + 1) := by
  constructor
  · rintro (h | ⟨j, s, h, hs, q⟩)
    · exact .inl (.inl h)
    · by_cases e : j = i
      · subst e
        rw [hr] at hs
        cases hs
        exact .inr q
      · exact .inl (.inr ⟨j, s, by omega, hs, q⟩)
  · rintro ((h | ⟨j, s, h, hs, q⟩) | h)
    · exact .inl h
    · exact .inr ⟨j, s, by omega, hs, q⟩
    · exact .inr ⟨i, r, by omega, hr, h⟩
theorem ddup_len (ns : List Int) : (ddup ns).length ≤ ns.length := by
  have key : ∀ (ns acc : List Int), (ns.foldl (fun acc i => if acc.any (· == i) then acc else acc ++ [i]) acc).length ≤ acc.length + ns.length := by
    intro ns
    induction ns with
    | nil => exact fun acc => Nat.le_refl _
    | cons i r ih =>
      intro acc
      rw [List.foldl_cons, List.length_cons]
      refine Nat.le_trans (ih _) ?_
      split
      · omega
      · rw [List.length_append]
        show acc.length + 1 + r.length ≤ _
        omega
  have z := key ns []
  rw [List.length_nil, Nat.zero_add] at z
  exact z
/-- the beginnings, rising -/
structure Begs (p : List Row) (L : List Int) : Prop where
  rise : L.Pairwise (· ≤ ·)
  nd : L.Nodup
  mem : ∀ x, x ∈ L ↔ Tells p p.length x ∧ x < p.length
  len : L.length ≤ 1 + 2 * p.length
theorem Begs.eq {p : List Row} {L M : List Int} (h : Begs p L) (g : Begs p M) : L = M :=
  sorted_uniq ((List.perm_ext_iff_of_nodup h.nd g.nd).mpr fun x => (h.mem x).trans (g.mem x).symm) h.rise g.rise
theorem Begs.last {p : List Row} {L : List Int} (h : Begs p L) : (L ++ [(p.length : Int)]).Pairwise (· ≤ ·) ∧ (L ++ [(p.length : Int)]).Nodup ∧ ∀ x, x ∈ L ++ [(p.length : Int)] ↔ (Tells p p.length x ∧ x < p.length) ∨ x = p.length := by
  refine ⟨List.pairwise_append.mpr ⟨h.rise, List.pairwise_singleton _ _, fun a ha b hb => ?_⟩, List.nodup_append.mpr ⟨h.nd, by simp, fun a ha b hb => ?_⟩, fun x => ?_⟩
  · rw [List.mem_singleton.mp hb]
    have := ((h.mem a).mp ha).2
    omega
  · rw [List.mem_singleton.mp hb]
    have := ((h.mem a).mp ha).2
    omega
  · rw [List.mem_append, List.mem_singleton, h.mem x]
def blkZ (L : List Int) (n : Nat) : List D := ((L.map D.int).zip ((L.drop 1 ++ [(n : Int)]).map D.int)).map fun q => .tup [q.1, q.2]
theorem blkZ_len (L : List Int) (n : Nat) : (blkZ L n).length ≤ L.length := by
  unfold blkZ
  rw [List.length_map, List.length_zip, List.length_map]
  exact Nat.min_le_left _ _
theorem blkZ_al {L : List Int} {n k : Nat} {m : Mem} {d e : D} (hd : lstOf m d = some (blkZ L n)) (he : lstOf m e = some (blkZ L n)) (hl : L.length ≤ 1000) : Al (k + 3) m d e := by
  refine .inr (.inr (.inr (.inr (.inr ⟨_, _, hd, he, rfl, Nat.le_trans (blkZ_len L n) (Nat.le_trans hl (by decide)), fun a x y hx hy => ?_⟩))))
  have e : x = y := Option.some.inj (hx.symm.trans hy)
  subst e
  have hm := List.mem_of_getElem? hx
  unfold blkZ at hm
  obtain ⟨⟨u, v⟩, hq, rfl⟩ := List.mem_map.mp hm
  obtain ⟨h1, h2⟩ := List.of_mem_zip hq
  obtain ⟨i, _, rfl⟩ := List.mem_map.mp h1
  obtain ⟨j, _, rfl⟩ := List.mem_map.mp h2
  refine Al_tup rfl (show 2 ≤ sizeLine by decide) fun a x y hx hy => ?_
  have e : x = y := Option.some.inj (hx.symm.trans hy)
  subst e
  have hm : x ∈ [D.int i, .int j] := List.mem_of_getElem? hx
  simp only [List.mem_cons, List.not_mem_nil, or_false] at hm
  rcases hm with rfl | rfl
  · exact Al_int _
  · exact Al_int _
/-! a dict of numbers -/
def addK (ns : List Int) (i : Int) : List Int := if i ∈ ns then ns else ns ++ [i]
theorem intKs_len : ∀ {kvs : List (KeyS × D)} {ns : List Int}, intKs kvs = some ns → kvs.map (·.1) = ns.map Sum.inl
  | [], ns, h => by
    cases h
    rfl
  | (.inl i, d) :: r, ns, h => by
    have h' : (intKs r).map (i :: ·) = some ns := h
    cases hr : intKs r with
    | none => rw [hr] at h'; cases h'
    | some ms =>
      rw [hr] at h'
      cases h'
      rw [List.map_cons, List.map_cons, intKs_len hr]
  | (.inr _, _) :: _, _, h => by cases h
theorem intKs_of_map : ∀ {kvs : List (KeyS × D)} {ns : List Int}, kvs.map (·.1) = ns.map Sum.inl → intKs kvs = some ns
  | [], [], _ => rfl
  | [], _ :: _, h => by cases h
  | _ :: _, [], h => by cases h
  | (a, d) :: r, n :: ns, h => by
    rw [List.map_cons, List.map_cons] at h
    obtain ⟨h1, h2⟩ := List.cons.inj h
    have e : a = Sum.inl n := h1
    subst e
    show (intKs r).map (n :: ·) = _
    rw [intKs_of_map h2]
    rfl
theorem intKs_put {kvs : List (KeyS × D)} {ns : List Int} (h : intKs kvs = some ns) (i : Int) (v : D) : intKs (putKD kvs (.inl i) v) = some (addK ns i) := by
  have hk := intKs_len h
  have hany : (kvs.any fun kv => decide (kv.1 = Sum.inl i)) = decide (i ∈ ns) := by
    have e : (kvs.any fun kv => decide (kv.1 = Sum.inl i)) = (kvs.map (·.1)).any fun z => decide (z = Sum.inl i) := by
      rw [List.any_map]
      rfl
    rw [e, hk]
    have key : ∀ l : List Int, (l.map Sum.inl).any (fun z => decide (z = (Sum.inl i : KeyS))) = decide (i ∈ l) := by
      intro l
      induction l with
      | nil => rfl
      | cons a r ih =>
        rw [List.map_cons, List.any_cons, ih]
        by_cases c : a = i
        · subst c
          simp
        · have c2 : ¬ (Sum.inl a : KeyS) = Sum.inl i := fun e => c (Sum.inl.inj e)
          rw [decide_eq_false c2, Bool.false_or]
          refine decide_eq_decide.mpr ?_
          rw [List.mem_cons]
          constructor
          · exact .inr
          · rintro (q | q)
            · exact absurd q.symm c
            · exact q
    exact key ns
  unfold putKD addK
  rw [hany]
  by_cases c : i ∈ ns
  · rw [if_pos (decide_eq_true c), if_pos c]
    refine intKs_of_map ?_
    rw [← hk, List.map_map]
    refine List.map_congr_left fun kv _ => ?_
    show (if kv.1 = Sum.inl i then (kv.1, v) else kv).1 = kv.1
    split <;> rfl
  · rw [if_neg (by rw [decide_eq_true_eq]; exact c), if_neg c]
    refine intKs_of_map ?_
    rw [List.map_append, hk, List.map_append]
    rfl
theorem addK_nd {ns : List Int} (h : ns.Nodup) (i : Int) : (addK ns i).Nodup := by
  unfold addK
  split
  · exact h
  · rename_i c
    rw [List.nodup_append]
    refine ⟨h, by simp, fun a ha b hb => ?_⟩
    rw [List.mem_singleton.mp hb]
    exact fun e => c (by rw [← e]; exact ha)
theorem addK_mem {ns : List Int} (i x : Int) : x ∈ addK ns i ↔ x ∈ ns ∨ x = i := by
  unfold addK
  split
  · rename_i c
    constructor
    · exact .inl
    · rintro (h | h)
      · exact h
      · rw [h]
        exact c
  · rw [List.mem_append, List.mem_singleton]
theorem addK_len (ns : List Int) (i : Int) : (addK ns i).length ≤ ns.length + 1 := by
  unfold addK
  split
  · exact Nat.le_succ _
  · rw [List.length_append]
    exact Nat.le_refl _
section
variable {β : Type}
theorem KN_sortedK {m : Mem} {c : Nat} {kvs : List (KeyS × D)} {ns : List Int} (hc : c < m.n) (h : m.get c = some (.dct kvs)) (hi : intKs kvs = some ns) (k : D → Mem → Rs β) : KN gSortedK [.loc c] m k = k (.lst ((isort ns).map D.int)) m := by
  refine KO_of ?_ m k
  show (dctOf m (.loc c)).bind (fun kvs => (intKs kvs).map fun ns => D.lst ((isort ns).map .int)) = _
  have e : dctOf m (.loc c) = some kvs := by
    show (if c < m.n then (match m.get c with
      | some (.dct kvs) => some kvs
      | _ => none) else none) = some kvs
    rw [if_pos hc, h]
  rw [e, Option.bind_some, hi]
  rfl
theorem KN_lzip (xs ys : List D) (m : Mem) (k : D → Mem → Rs β) : KN gLZip [.lst xs, .lst ys] m k = k (.lst ((xs.zip ys).map fun p => .tup [p.1, p.2])) m := rfl
theorem K1_setS {d : D} {m : Mem} {ns : List Int} (h : lstOf m d = some (ns.map D.int)) (hl : ns.length < 4000) (k : D → Mem → Rs β) : K1 gSortedS d m k = k (.lst ((isort (ddup ns)).map D.int)) m := by
  refine KO_of ?_ m k
  show (lstOf m d).bind (fun xs => (intsOf xs).bind fun ns => if ns.length < 4000 then some (D.lst ((isort (ddup ns)).map .int)) else none) = _
  rw [h, Option.bind_some, intsOf_map]
  exact if_pos hl
end
theorem isort_nd {ns : List Int} (h : ns.Nodup) : (isort ns).Nodup := (isort_perm ns).nodup_iff.mpr h
theorem isort_mem {ns : List Int} (x : Int) : x ∈ isort ns ↔ x ∈ ns := (isort_perm ns).mem_iff
theorem isort_len (ns : List Int) : (isort ns).length = ns.length := (isort_perm ns).length_eq
/-- the dict of beginnings behind i rows -/
structure BgD (p : List Row) (c i : Nat) (m : Mem) : Prop where
  cn : c < m.n
  at_ : ∃ kvs ns, m.get c = some (.dct kvs) ∧ intKs kvs = some ns ∧ ns.Nodup ∧ ns.length ≤ 1 + 2 * i ∧ ∀ x, x ∈ ns ↔ Tells p i x ∧ x < p.length
theorem cut1 {α : Type} (xs : List α) : cutD xs (some 1) none = xs.drop 1 := by
  cases xs with
  | nil => rfl
  | cons x r =>
    have e1 : sIxD (x :: r).length 0 (some 1) = 1 := by
      show (if (1 : Int) < 0 then (1 + ((x :: r).length : Int)).toNat else min (1 : Int).toNat (x :: r).length) = 1
      rw [if_neg (by decide), List.length_cons]
      exact Nat.min_eq_left (Nat.succ_le_succ (Nat.zero_le _))
    have e2 : sIxD (x :: r).length (x :: r).length none = (x :: r).length := rfl
    unfold cutD
    rw [e1, e2, List.drop_one, List.tail_cons, List.length_cons, Nat.add_sub_cancel]
    exact List.take_length
theorem keep_put {m m2 : Mem} {o : MO} (kp : Keep m m2) (h : m.n < m2.n) : Keep m (m2.put m.n o) := ⟨kp.n, fun k hk => by
  rw [put_ne (by omega)]
  exact kp.at_ k hk⟩
theorem put_length (kvs : List (KeyS × D)) (k : KeyS) (v : D) : (putKD kvs k v).length ≤ kvs.length + 1 := by
  unfold putKD
  split
  · rw [List.length_map]
    exact Nat.le_succ _
  · rw [List.length_append]
    exact Nat.le_refl _
def f_blocks_of : SS := sSeq (sAsg (dspE [(cn (.int 0), cn (.bl true))]) (gNm 1)) (sSeq (sFor (itEn (vr 0)) (gTp [2, 3]) (sSeq (sIf (tV (op2 gIn (op2 gIx (vr 3) (cn (.int 0))) (tpl (argC (cn (.str (Str.ofString "go"))) (argC (cn (.str (Str.ofString "if"))) (argN)))))) (sDput (vr 1) (op2 gIx (vr 3) (op1 gNeg (cn (.int 1)))) (cn (.bl true))) (sNext)) (sIf (LB.tAnd (tV (callN 1 m_is_end (argC (vr 3) (argN)))) (tV (op2 gLt (op2 gAdd (vr 2) (cn (.int 1))) (opN gLen (argC (vr 0) (argN)))))) (sDput (vr 1) (op2 gAdd (vr 2) (cn (.int 1))) (cn (.bl true))) (sNext)))) (sSeq (sAsg (opN gSortedK (argC (vr 1) (argN))) (gNm 4)) (sRet (opNM gLZip (argC (vr 4) (argC (op2 gAdd (slc (vr 4) (soS (cn (.int 1))) (soN)) (lsl (argC (opN gLen (argC (vr 0) (argN))) (argN)))) (argN)))))))
def m_blocks_of : Fn := run 5 f_blocks_of
theorem le_blocks_of (ds : List D) (m : Mem) : LeR m (m_blocks_of ds m) (run 5 f_blocks_of ds m) := .same _
theorem blocks_of_run {p : List Row} (hp : ProgOk p) (m : Mem) : WP (m_blocks_of [encP p] m) (fun d m2 => ∃ k L, d = .loc k ∧ k < m2.n ∧ m.n ≤ k ∧ m2.get k = some (.lst (blkZ L p.length)) ∧ Begs p L ∧ Keep m m2) fun _ _ => False := by
  have h1 := hp.one
  have h200 := hp.most
  have hlen : (p.map Row.enc).length = p.length := List.length_map _
  rw [K_start (m_blocks_of _), m_blocks_of, f_blocks_of]
  have hen : ∀ (k : Wk × Nat → Mem → Rs D) (m : Mem), kEnI k (encP p) m = k (wkEn (encP p), p.length) m := fun k m => by
    show k (wkEn (encP p), (p.map Row.enc).length) m = _
    rw [hlen]
  have hds : ∀ (k : D → Mem → Rs D) (m : Mem), kDsp k [(.int 0, .bl true)] m = k (.loc m.n) (m.new (.dct [(.inl 0, .bl true)])) := fun k m => rfl
  simp_arith [↓hds, ↓hen, ↓K_sFor]
  refine W_for (xs := (List.range p.length).map fun i => D.tup [.int (i : Nat), (rowAt p i).enc]) (fun i ρ m2 => i ≤ p.length ∧ BgD p m.n i m2 ∧ Keep m m2 ∧ ∃ a b c, ρ = [some (encP p), some (.loc m.n), a, b, c]) (by rw [List.length_map, List.length_range]) (fun i ρ m2 hI => ?_) ⟨Nat.zero_le _, ⟨Nat.lt_succ_self _, _, [0], if_pos rfl, rfl, by simp, by simp, fun x => ?_⟩, Keep.new _ _, _, _, _, rfl⟩ (fun i x ρ m2 hx hI => ?_) fun ρ m2 hI => ?_
  · have hi := hI.1
    show upTo (p.map Row.enc).length i (((p.map Row.enc)[i]?).map fun x => D.tup [.int (i : Nat), x]) = _
    rw [hlen, List.getElem?_map, List.getElem?_map]
    unfold upTo
    by_cases c : i < p.length
    · rw [if_pos c, List.getElem?_range c, rowAt_of c]
      rfl
    · rw [if_neg c, if_pos (by omega), List.getElem?_eq_none (by rw [List.length_range]; omega)]
      rfl
  · rw [List.mem_singleton, tells_0]
    constructor
    · exact fun e => ⟨e, by rw [e]; omega⟩
    · exact fun e => e.1
  · obtain ⟨_, bg, kp, a, b, c, rfl⟩ := hI
    rw [List.getElem?_map] at hx
    by_cases hi : i < p.length
    · rw [List.getElem?_range hi] at hx
      cases hx
      obtain ⟨kvs, ns, g1, g2, g3, g4, g5⟩ := bg.at_
      have cn := bg.cn
      have hr := rowAt_of hi
      have hro := hp.rows _ (List.mem_of_getElem? hr)
      have hts := tells_s hr
      have hkl : kvs.length = ns.length := by
        have z := congrArg List.length (intKs_len g2)
        rw [List.length_map, List.length_map] at z
        exact z
      have hks : kvs.length < sizeLine := by
        rw [hkl]
        exact Nat.lt_of_le_of_lt (Nat.le_trans g4 (show 1 + 2 * i ≤ 500 by omega)) (by decide)
      have hll : ∀ (k : D → Mem → Rs (Fl × Ev)) (m : Mem), KN gLen [encP p] m k = k (.int (p.length : Nat)) m := fun k m => by
        show k (.int ((p.map Row.enc).length : Nat)) m = _
        rw [hlen]
      have hk1 : ∀ (j : Int) (v : D), (putKD kvs (.inl j) v).length < sizeLine := fun j v => by
        refine Nat.lt_of_le_of_lt (put_length kvs _ v) ?_
        rw [hkl]
        exact Nat.lt_of_le_of_lt (show ns.length + 1 ≤ 600 by omega) (by decide)
      by_cases hg : (rowAt p i).goes = true
      · have he := goes_ends hg
        have hgl := goal_ok hro hg
        by_cases hs : ((i : Nat) : Int) + 1 < (p.length : Nat)
        · simp_arith [↓K_bodyG_tp, ↓KA_0, ↓KA_goes, hg, ↓goal_last hg, ↓KG_of g1, ↓KA_end, he, ↓hll, decide_eq_true hs]
          have hk2 := hk1 (rowAt p i).goal (.bl true)
          simp_arith []
          refine .ok ⟨hi, ⟨cn, _, addK (addK ns (rowAt p i).goal) ((i : Nat) + 1), if_pos rfl, intKs_put (intKs_put g2 _ _) _ _, addK_nd (addK_nd g3 _) _, ?_, fun x => ?_⟩, keep_put (m2 := m2.put m.n _) (keep_put kp cn) cn, _, _, _, rfl⟩
          · have := addK_len (addK ns (rowAt p i).goal) ((i : Nat) + 1)
            have := addK_len ns (rowAt p i).goal
            omega
          · rw [addK_mem, addK_mem, hts, g5]
            simp only [hg, he, true_and]
            by_cases hT : Tells p i x <;> simp only [hT, true_and, false_and, true_or, false_or] <;> omega
        · simp_arith [↓K_bodyG_tp, ↓KA_0, ↓KA_goes, hg, ↓goal_last hg, ↓KG_of g1, ↓KA_end, he, ↓hll, decide_eq_false hs]
          refine .ok ⟨hi, ⟨cn, _, addK ns (rowAt p i).goal, if_pos rfl, intKs_put g2 _ _, addK_nd g3 _, ?_, fun x => ?_⟩, keep_put kp cn, _, _, _, rfl⟩
          · have := addK_len ns (rowAt p i).goal
            omega
          · rw [addK_mem, hts, g5]
            simp only [hg, he, true_and]
            by_cases hT : Tells p i x <;> simp only [hT, true_and, false_and, true_or, false_or] <;> omega
      · have hg2 := Bool.eq_false_iff.mpr hg
        by_cases he : (rowAt p i).ends = true
        · by_cases hs : ((i : Nat) : Int) + 1 < (p.length : Nat)
          · simp_arith [↓K_bodyG_tp, ↓KA_0, ↓KA_goes, hg2, ↓KG_of g1, ↓KA_end, he, ↓hll, decide_eq_true hs]
            refine .ok ⟨hi, ⟨cn, _, addK ns ((i : Nat) + 1), if_pos rfl, intKs_put g2 _ _, addK_nd g3 _, ?_, fun x => ?_⟩, keep_put kp cn, _, _, _, rfl⟩
            · have := addK_len ns ((i : Nat) + 1)
              omega
            · rw [addK_mem, hts, g5]
              simp only [hg2, he, true_and, Bool.false_eq_true, false_and, false_or]
              by_cases hT : Tells p i x <;> simp only [hT, true_and, false_and, true_or, false_or] <;> omega
          · simp_arith [↓K_bodyG_tp, ↓KA_0, ↓KA_goes, hg2, ↓KG_of g1, ↓KA_end, he, ↓hll, decide_eq_false hs]
            refine .ok ⟨hi, ⟨cn, kvs, ns, g1, g2, g3, by omega, fun x => ?_⟩, kp, _, _, _, rfl⟩
            rw [hts, g5]
            simp only [hg2, he, true_and, Bool.false_eq_true, false_and, false_or]
            constructor
            · exact fun h => ⟨.inl h.1, h.2⟩
            · rintro ⟨h | h, h2⟩
              · exact ⟨h, h2⟩
              · omega
        · have he2 := Bool.eq_false_iff.mpr he
          simp_arith [↓K_bodyG_tp, ↓KA_0, ↓KA_goes, hg2, ↓KG_of g1, ↓KA_end, he2, ↓hll]
          refine .ok ⟨hi, ⟨cn, kvs, ns, g1, g2, g3, by omega, fun x => ?_⟩, kp, _, _, _, rfl⟩
          rw [hts, g5]
          simp only [hg2, he2, Bool.false_eq_true, false_and, false_or, or_false]
    · rw [List.getElem?_eq_none (by rw [List.length_range]; omega)] at hx
      cases hx
  · obtain ⟨_, bg, kp, a, b, c, rfl⟩ := hI
    obtain ⟨kvs, ns, g1, g2, g3, g4, g5⟩ := bg.at_
    have cn := bg.cn
    rw [List.length_map, List.length_range] at g4 g5
    have hil := isort_len ns
    have hsl : (List.drop 1 ((isort ns).map D.int)).length + [D.int (p.length : Nat)].length ≤ sizeLine := by
      rw [List.length_drop, List.length_map, hil]
      exact Nat.le_trans (show ns.length - 1 + 1 ≤ 600 by omega) (by decide)
    simp_arith [↓KN_sortedK cn g1 g2, ↓KN_lzip, cut1]
    refine .ok ⟨m2.n, isort ns, rfl, Nat.lt_succ_self _, kp.n, ?_, ⟨isort_sorted _, isort_nd g3, fun x => (isort_mem x).trans (g5 x), by omega⟩, kp.trans (Keep.new _ _)⟩
    rw [Mem.new_at]
    unfold blkZ
    rw [List.map_append, List.map_drop]
    rfl
def f_blocks : SS := sSeq (sExp (callN 1 m_need_program (argC (vr 0) (argN)))) (sRet (callN 1 m_blocks_of (argC (vr 0) (argN))))
def m_blocks : Fn := run 1 f_blocks
theorem le_blocks (ds : List D) (m : Mem) : LeR m (m_blocks ds m) (run 1 f_blocks ds m) := .same _
theorem blocks_run {p : List Row} (hp : ProgOk p) (m : Mem) : WP (m_blocks [encP p] m) (fun d m2 => ∃ k L, d = .loc k ∧ k < m2.n ∧ m.n ≤ k ∧ m2.get k = some (.lst (blkZ L p.length)) ∧ Begs p L ∧ Keep m m2) fun _ _ => False := by
  rw [K_start (m_blocks _), m_blocks, f_blocks]
  simp_arith [↓KF_ok (need_program_ok hp m)]
  refine WP_F (blocks_of_run hp m) fun d m2 q => ?_
  simp_arith []
  exact .ok q
/-- what the law's list holds behind i rows -/
structure BgL (p : List Row) (c i : Nat) (m : Mem) : Prop where
  cn : c < m.n
  at_ : ∃ ns : List Int, m.get c = some (.lst (ns.map D.int)) ∧ ns.length ≤ 1 + 2 * i ∧ ∀ x, x ∈ ns ↔ Tells p i x
def f_l_blocks : SS := sSeq (sAsg (lsm (argC (cn (.int 0)) (argN))) (gNm 1)) (sSeq (sFor (itRng1 (argC (opN gLen (argC (vr 0) (argN))) (argN))) (gNm 2) (sSeq (sIf (tV (op2 gIn (op2 gIx (op2 gIx (vr 0) (vr 2)) (cn (.int 0))) (tpl (argC (cn (.str (Str.ofString "go"))) (argC (cn (.str (Str.ofString "if"))) (argN)))))) (sExp (appE (vr 1) (op2 gIx (op2 gIx (vr 0) (vr 2)) (op1 gNeg (cn (.int 1)))))) (sNext)) (sIf (tV (op2 gIn (op2 gIx (op2 gIx (vr 0) (vr 2)) (cn (.int 0))) (tpl (argC (cn (.str (Str.ofString "go"))) (argC (cn (.str (Str.ofString "if"))) (argC (cn (.str (Str.ofString "stop"))) (argN))))))) (sExp (appE (vr 1) (op2 gAdd (vr 2) (cn (.int 1))))) (sNext)))) (sSeq (sAsg (op1 gSortedS (op2 gAdd (comp (itSeq (vr 1)) (gNm 3) (tV (op2 gLt (vr 3) (opN gLen (argC (vr 0) (argN))))) (vr 3) [3]) (lsl (argC (opN gLen (argC (vr 0) (argN))) (argN))))) (gNm 1)) (sRet (comp (itRng1 (argC (op2 gSub (opN gLen (argC (vr 1) (argN))) (cn (.int 1))) (argN))) (gNm 2) (LB.tYes) (tpl (argC (op2 gIx (vr 1) (vr 2)) (argC (op2 gIx (vr 1) (op2 gAdd (vr 2) (cn (.int 1)))) (argN)))) [2]))))
def m_l_blocks : Fn := run 4 f_l_blocks
theorem le_l_blocks (ds : List D) (m : Mem) : LeR m (m_l_blocks ds m) (run 4 f_l_blocks ds m) := .same _
theorem l_blocks_run {p : List Row} (hp : ProgOk p) (m : Mem) : WP (m_l_blocks [encP p] m) (fun d m2 => ∃ L, d = .lst (blkZ L p.length) ∧ Begs p L ∧ Keep m m2) fun _ _ => False := by
  have h1 := hp.one
  have h200 := hp.most
  have hll : ∀ {β : Type} (k : D → Mem → Rs β) (m : Mem), KN gLen [encP p] m k = k (.int (p.length : Nat)) m := fun k m => by
    show k (.int ((p.map Row.enc).length : Nat)) m = _
    rw [List.length_map]
  have hn62 : p.length < 4611686018427387904 := by omega
  have hls : ∀ (k : D → Mem → Rs D) (m : Mem), kLsm k [.int 0] m = k (.loc m.n) (m.new (.lst [.int 0])) := fun k m => rfl
  rw [K_start (m_l_blocks _), m_l_blocks, f_l_blocks]
  simp_arith [↓hls, ↓hll, ↓K_sFor, ↓kRng1_nat]
  refine W_rng (fun i ρ m2 => BgL p m.n i m2 ∧ Keep m m2 ∧ ∃ a b, ρ = [some (encP p), some (.loc m.n), a, b]) ⟨⟨Nat.lt_succ_self _, [0], if_pos rfl, by simp, fun x => ?_⟩, Keep.new _ _, _, _, rfl⟩ (fun i ρ m2 hi hI => ?_) fun ρ m2 hI => ?_
  · rw [List.mem_singleton, tells_0]
  · obtain ⟨bg, kp, a, b, rfl⟩ := hI
    obtain ⟨ns, g1, g4, g5⟩ := bg.at_
    have cn := bg.cn
    have hr := rowAt_of hi
    have hts := tells_s hr
    have hpi : (p.map Row.enc)[i]? = some (rowAt p i).enc := by
      rw [List.getElem?_map, hr]
      rfl
    have hks : (ns.map D.int).length < sizeLine := by
      rw [List.length_map]
      exact Nat.lt_of_le_of_lt (Nat.le_trans g4 (show 1 + 2 * i ≤ 500 by omega)) (by decide)
    have hks2 : (ns.map D.int ++ [D.int (rowAt p i).goal]).length < sizeLine := by
      rw [List.length_append, List.length_map]
      exact Nat.lt_of_le_of_lt (show ns.length + 1 ≤ 500 by omega) (by decide)
    have hix : ∀ (k : D → Mem → Rs (Fl × Ev)) (m : Mem), K2 gIx (encP p) (.int (0 + (i : Nat))) m k = k (rowAt p i).enc m := fun k m => by
      rw [Int.zero_add]
      exact KR_pi_at hr m k
    by_cases hg : (rowAt p i).goes = true
    · have he := goes_ends hg
      simp_arith [↓K_bodyG_nm, ↓hix, ↓KA_0, ↓KA_goes, ↓KA_ends, hg, he, ↓goal_last hg, ↓KG_of g1]
      refine .ok ⟨⟨cn, ns ++ [(rowAt p i).goal, (i : Nat) + 1], ?_, ?_, fun x => ?_⟩, keep_put (m2 := m2.put m.n _) (keep_put kp cn) cn, _, _, rfl⟩
      · rw [List.map_append, List.append_assoc, Int.zero_add]
        exact if_pos rfl
      · rw [List.length_append]
        show ns.length + 2 ≤ _
        omega
      · rw [List.mem_append, hts, g5]
        simp only [hg, he, true_and, List.mem_cons, List.not_mem_nil, or_false]
    · have hg2 := Bool.eq_false_iff.mpr hg
      by_cases he : (rowAt p i).ends = true
      · simp_arith [↓K_bodyG_nm, ↓hix, ↓KA_0, ↓KA_goes, ↓KA_ends, hg2, he, ↓KG_of g1]
        refine .ok ⟨⟨cn, ns ++ [((i : Nat) : Int) + 1], ?_, ?_, fun x => ?_⟩, keep_put kp cn, _, _, rfl⟩
        · rw [List.map_append, Int.zero_add]
          exact if_pos rfl
        · rw [List.length_append]
          show ns.length + 1 ≤ _
          omega
        · rw [List.mem_append, hts, g5]
          simp only [hg2, he, true_and, List.mem_cons, List.not_mem_nil, or_false, Bool.false_eq_true, false_and, false_or]
      · have he2 := Bool.eq_false_iff.mpr he
        simp_arith [↓K_bodyG_nm, ↓hix, ↓KA_0, ↓KA_goes, ↓KA_ends, hg2, he2, ↓KG_of g1]
        refine .ok ⟨⟨cn, ns, g1, by omega, fun x => ?_⟩, kp, _, _, rfl⟩
        rw [hts, g5]
        simp only [hg2, he2, Bool.false_eq_true, false_and, or_false]
  · obtain ⟨bg, kp, a, b, rfl⟩ := hI
    obtain ⟨ns, g1, g4, g5⟩ := bg.at_
    have cnl := bg.cn
    have hsq : lstOf m2 (.loc m.n) = some (ns.map D.int) := by
      show (if m.n < m2.n then (match m2.get m.n with
        | some (.lst xs) => some xs
        | _ => none) else none) = _
      rw [if_pos cnl, g1]
    have hbig : 1 + 2 * p.length ≤ 401 := by omega
    have h401 : (401 : Nat) + 10 ≤ sizeLine := by decide
    have hnl : (ns.map D.int).length ≤ sizeLine := by rw [List.length_map]; omega
    obtain ⟨fs, hfs⟩ : ∃ fs, fs = ns.filter fun v : Int => decide (v < (p.length : Int)) := ⟨_, rfl⟩
    obtain ⟨L, hLe⟩ : ∃ L, L = isort (ddup fs) := ⟨_, rfl⟩
    have hfl : fs.length ≤ ns.length := by rw [hfs]; exact List.length_filter_le _ _
    have hfm : ∀ x, x ∈ fs ↔ Tells p p.length x ∧ x < p.length := fun x => by
      rw [hfs, List.mem_filter, g5, decide_eq_true_eq]
    obtain ⟨dn, dm⟩ := ddup_ok fs
    have hdl := ddup_len fs
    have hB : Begs p L := by
      rw [hLe]
      refine ⟨isort_sorted _, isort_nd dn, fun x => ?_, ?_⟩
      · rw [isort_mem, dm, hfm]
      · rw [isort_len]
        omega
    have hM : isort (ddup (fs ++ [(p.length : Int)])) = L ++ [(p.length : Int)] := by
      obtain ⟨l1, l2, l3⟩ := hB.last
      obtain ⟨e1, e2⟩ := ddup_ok (fs ++ [(p.length : Int)])
      refine sorted_uniq ((List.perm_ext_iff_of_nodup (isort_nd e1) l2).mpr fun x => ?_) (isort_sorted _) l1
      rw [isort_mem, e2, l3, List.mem_append, hfm, List.mem_singleton]
    have hLl : L.length ≤ 401 := Nat.le_trans hB.len hbig
    have hcm := fun (k : List D → Mem → Rs D) => C_filter (w := wkSeq (.loc m.n)) (g := gNm 3) (t := tV (op2 gLt (vr 3) (opN gLen (argC (vr 0) (argN))))) (e := vr 3) (ρ0 := [some (encP p), some (.loc m.n), a, none]) (m := m2) (n := (ns.map D.int).length) (k := k) ns D.int (fun v : Int => decide (v < (p.length : Int))) D.int (List.length_map _) (by rw [List.length_map] at hnl; exact hnl) (fun i _ => wkSeq_const (sq_lst hsq) i) (fun v hv => by
      simp_arith [↓K_exG_nm, ↓hll]) (fun v hv _ => by
      simp_arith [↓K_exG_nm])
    rw [← hfs] at hcm
    have hal : (fs.map D.int).length + [D.int (p.length : Nat)].length ≤ sizeLine := by
      rw [List.length_map]
      show fs.length + 1 ≤ sizeLine
      omega
    have hss : ∀ (k : D → Mem → Rs D) (m : Mem), K1 gSortedS (.lst (fs.map D.int ++ [D.int (p.length : Nat)])) m k = k (.lst ((L ++ [(p.length : Int)]).map D.int)) m := fun k m => by
      rw [← hM]
      exact K1_setS (ns := fs ++ [(p.length : Int)]) (by rw [List.map_append]; rfl) (by rw [List.length_append]; show fs.length + 1 < 4000; omega) k
    have hML : ((L ++ [(p.length : Int)]).map D.int).length = L.length + 1 := by
      rw [List.length_map, List.length_append]
      rfl
    have hrg : ∀ (k : Wk × Nat → Mem → Rs D) (m : Mem), kRng1 k [.int ((((L ++ [(p.length : Int)]).map D.int).length : Nat) - 1)] m = k (wkRng 0 L.length, L.length) m := fun k m => by
      rw [hML, show (((L.length + 1 : Nat) : Int) - 1) = ((L.length : Nat) : Int) by omega]
      exact kRng1_nat k L.length m (by omega)
    have hcm2 := fun (k : List D → Mem → Rs D) => C_map (w := wkRng 0 L.length) (g := gNm 2) (e := tpl (argC (op2 gIx (vr 1) (vr 2)) (argC (op2 gIx (vr 1) (op2 gAdd (vr 2) (cn (.int 1)))) (argN)))) (ρ0 := [some (encP p), some (.lst ((L ++ [(p.length : Int)]).map D.int)), none, b]) (m := m2) (n := L.length) (k := k) (List.range L.length) (fun j : Nat => D.int (0 + (j : Nat))) (fun j => .tup [.int ((L ++ [(p.length : Int)]).getD j 0), .int ((L ++ [(p.length : Int)]).getD (j + 1) 0)]) (by rw [List.length_range]) (by rw [List.length_range]; omega) (fun i _ => wkRng_eq 0 _ i m2) (fun _ _ => rfl) (fun j hj => by
      have hj2 := List.mem_range.mp hj
      have h1 : j < (L ++ [(p.length : Int)]).length := by rw [List.length_append]; show j < L.length + 1; omega
      have h2 : j + 1 < (L ++ [(p.length : Int)]).length := by rw [List.length_append]; show j + 1 < L.length + 1; omega
      have f1 : ∀ (k : D → Mem → Rs D) (m : Mem), KIx ((L ++ [(p.length : Int)]).map D.int) (0 + (j : Nat)) m k = k (.int ((L ++ [(p.length : Int)]).getD j 0)) m := fun k m => by
        rw [Int.zero_add]
        exact KIx_getD h1 m k
      have f2 : ∀ (k : D → Mem → Rs D) (m : Mem), KIx ((L ++ [(p.length : Int)]).map D.int) (0 + (j : Nat) + 1) m k = k (.int ((L ++ [(p.length : Int)]).getD (j + 1) 0)) m := fun k m => by
        rw [Int.zero_add]
        exact KIx_getD h2 m k
      simp_arith [↓K_exG_nm, ↓f1, ↓f2])
    simp_arith [↓KG_of g1, ↓hcm, ↓hll, ↓hss, ↓hrg, ↓hcm2]
    have hz : (List.range L.length).map (fun j => D.tup [.int ((L ++ [(p.length : Int)]).getD j 0), .int ((L ++ [(p.length : Int)]).getD (j + 1) 0)]) = blkZ L p.length := by
      apply List.ext_getElem?
      intro j
      unfold blkZ
      rw [List.getElem?_map, List.getElem?_map]
      by_cases hj : j < L.length
      · have e1 : (L.map D.int)[j]? = some (.int ((L ++ [(p.length : Int)]).getD j 0)) := by
          rw [List.getElem?_map, List.getD_eq_getElem?_getD, List.getElem?_append_left hj, List.getElem?_eq_getElem hj]
          rfl
        have e2 : ((L.drop 1 ++ [(p.length : Int)]).map D.int)[j]? = some (.int ((L ++ [(p.length : Int)]).getD (j + 1) 0)) := by
          have hj2 : j + 1 < (L ++ [(p.length : Int)]).length := by rw [List.length_append]; show j + 1 < L.length + 1; omega
          rw [← List.drop_append_of_le_length (by omega : 1 ≤ L.length), List.getElem?_map, List.getElem?_drop, Nat.add_comm 1 j, List.getD_eq_getElem?_getD, List.getElem?_eq_getElem hj2]
          rfl
        have e3 : ((L.map D.int).zip ((L.drop 1 ++ [(p.length : Int)]).map D.int))[j]? = some (D.int ((L ++ [(p.length : Int)]).getD j 0), D.int ((L ++ [(p.length : Int)]).getD (j + 1) 0)) := List.getElem?_zip_eq_some.mpr ⟨e1, e2⟩
        rw [List.getElem?_range hj, e3]
        rfl
      · rw [List.getElem?_eq_none (by rw [List.length_range]; omega), List.getElem?_eq_none (by rw [List.length_zip, List.length_map]; omega)]
        rfl
    rw [hz]
    exact .ok ⟨L, rfl, hB, kp⟩
end
end LB

set_option Elab.async false
set_option linter.all false
set_option autoImplicit false
set_option maxRecDepth 100000
set_option maxHeartbeats 2000000
/-! Plain: numbers and rows as texts. -/
namespace LB
open PySem L2 TL
noncomputable section
local macro_rules | `(tactic| simp_arith [$as,*]) => `(tactic| simp -implicitDefEqProofs (disch := first | assumption | decide | omega | (simp only [List.length_cons, List.length_nil, Mem.put_n, Mem.new_n, Mem.kill_n]; omega)) only [↓KO_some, ↓K_vr, ↓kVr_0, ↓kVr_s, ↓K_cn, ↓K_pure, ↓K_op2, ↓kOp2a_at, ↓kOp2b_at, ↓K_op1, ↓kOp1_at, ↓K_argN, ↓K_argC, ↓kArg1_at, ↓kArg2_at, ↓K_opN, ↓kOpN_at, ↓K_call, ↓kCall_1, ↓kCall_2, ↓kCall_3, ↓kCall_4, ↓kCall_5, ↓K_tpl, ↓K_lsl, ↓K_lsm, ↓K_dctE, ↓kTpl_0, ↓kTpl_1, ↓kTpl_2, ↓kTpl_3, ↓kTpl_4, ↓kTpl_5, ↓kLsl_0, ↓kLsl_1, ↓kLsl_2, ↓kLsl_3, ↓kLsl_4, ↓kLsm_0, ↓K_tV, ↓kTV_at, ↓K_tAnd, ↓kTAnd_t, ↓kTAnd_f, ↓K_tOr, ↓kTOr_t, ↓kTOr_f, ↓K_tNot, ↓kTNot_t, ↓kTNot_f, ↓kTNot_at, ↓K_tYes, ↓K_vAnd, ↓kVAnd_t, ↓kVAnd_f, ↓K_vOr, ↓kVOr_t, ↓kVOr_f, ↓K_vNot, ↓kVNot_at, ↓K_ifE, ↓kIfE_t, ↓kIfE_f, ↓K_chn, ↓kChn0_at, ↓kChn1_at, ↓kChn2_t, ↓kChn2_f, ↓K_soN, ↓K_soS, ↓kSoS_at, ↓K_slc, ↓kSlc0_at, ↓kSlc1_at, ↓kSlc2_at, ↓KSl_tup, ↓KSl_lst, ↓K_sNext, ↓K_sSeq, ↓kSeq_nx, ↓kSeq_rt, ↓K_sRet, ↓kRet_at, ↓K_sRetN, ↓K_sExp, ↓kExp_at, ↓K_sIf, ↓kIf_t, ↓kIf_f, ↓kSet_0, ↓kSet_s, ↓kUn_c, ↓kUn_n, ↓K_sAsg, ↓kAsg_nm, ↓kAsg_tp, ↓kNms_c, ↓kNmsC_at, ↓kNms_n, ↓K_sPar, ↓kPar1_at, ↓kPar2_at, ↓K_run, ↓kRun_rt, ↓kRun_nx, ↓K2_add_i, ↓K2_sub_i, ↓K2_mul_i, ↓K2_mod_i, ↓K2_fdiv_i, ↓K2_lt_i, ↓K2_le_i, ↓K2_gt_i, ↓K2_ge_i, ↓K2_eq_i, ↓K2_ne_i, ↓K2_eq_st, ↓K2_eq_sf, ↓K2_ne_st, ↓K2_ne_sf, ↓K2_eq_b, ↓K2_add_t, ↓K2_add_l, ↓K1_neg_i, ↓K2_isN_n, ↓K2_isN_i, ↓K2_isN_s, ↓K2_isN_t, ↓K2_isN_l, ↓K2_isN_c, ↓K2_notN_n, ↓K2_notN_i, ↓K2_notN_s, ↓K2_notN_t, ↓K2_notN_l, ↓K2_notN_c, ↓K2_ix_t, ↓K2_ix_l, ↓KIx_0, ↓KIx_1, ↓KIx_2, ↓KIx_3, ↓KIx_4, ↓KIx_m1a, ↓KIx_m1b, ↓KIx_m1c, ↓KIx_m1d, ↓KN_len_t, ↓KN_len_l, ↓KN_max2, ↓KN_min2, ↓KN_int_i, ↓KN_int_t, ↓KN_int_f, ↓KN_tuple_l, ↓KN_tuple_t, ↓KN_maxl, ↓KN_suml, ↓K1_isi_n, ↓K1_isi_b, ↓K1_isi_i, ↓K1_isi_s, ↓K1_isi_t, ↓K1_isi_l, ↓KG_put_eq, ↓KG_put_ne, ↓KG_new_eq, ↓KG_new_ne, ↓KG_kill_ne, ↓K2_ix_c, ↓kIxL_at, ↓KN_len_c, ↓kLenL_l, ↓kLenL_d, ↓KN_tuple_c, ↓kTupL_at, ↓KN_max_c, ↓kMaxL_at, ↓KSl_c, ↓kSlL_at, ↓K_appE, ↓kApp1_at, ↓kApp1b_at, ↓kApp2_at, ↓kApp3_at, ↓K_sLput, ↓kPut1_at, ↓kPut2_at, ↓kPut3_at, ↓kPut4_at, ↓K2_dget_i, ↓K2_dget_s, ↓kDgD_at, ↓KVk_eq, ↓KVk_ne, ↓KVd_eq, ↓KVd_ne, ↓KVd_n, ↓K_dget2, ↓kDg1_at, ↓kDg1b_at, ↓kDg2_at, ↓kDg3_at, ↓kDg4_i, ↓kDg4_s, ↓K_sDput, ↓kDp1_at, ↓kDp2_at, ↓kDp3_i, ↓kDp3_s, ↓kDp4_at, ↓K1_fld, ↓kFldO_at, ↓KFl_eq, ↓KFl_ne, ↓K_sFput, ↓kFp1_at, ↓kFp2_at, ↓kFp3_at, ↓kPf_n, ↓kPf_eq, ↓kPu_c, ↓kPu_n, ↓kPf_ne, ↓K_callM, ↓kMt1_at, ↓kMt2_at, ↓kNo_n, ↓kNo_c, ↓kMt3_0, ↓kMt3_1, ↓kMt3_2, ↓kMt3_3, ↓kMt3_4, ↓K_mkE, ↓kMk_1, ↓kMk_2, ↓kMk_3, ↓kMk2_at, ↓K_sFor, ↓kFor_at, ↓K_itRng1, ↓kRng1_nat, ↓K_itRng2, ↓kRng2_at, ↓K_itSeq, ↓kSeqI_t, ↓kSeqI_l, ↓kSeqI_c, ↓kSeqL_at, ↓K_bodyG_nm, ↓K_bodyG_tp, ↓K_sWhile, ↓kComp_at, ↓K_comp, ↓K_compM, ↓kLst_at, ↓kLstM_at, ↓kEx_at, ↓K_exG_nm, ↓K_exG_tp, ↓kAlc_at, ↓K_opNM, ↓kOpNM_at, ↓KN_list_l2, ↓KN_list_t2, ↓KN_list_c, ↓kListL_at, ↓K_op2M, ↓kOp2Ma_at, ↓kOp2Mb_at, ↓K2_rep1, ↓K_prE_n, ↓K_prE_c, ↓kPr1_at, ↓kPr2_at, ↓kPr3_at, ↓K_dspE, ↓kDsp_s1, ↓kDsp_s2, ↓kDsp_s3, ↓kDsp_s4, ↓K_frz, ↓kFrz_c, ↓kFrz_l, ↓kFrz_t, ↓kFrz_n, ↓kFrzL_at, ↓K_extE, ↓kExt1_at, ↓kExt1b_at, ↓kExt2_at, ↓kExt3_at, ↓K_mt0E, ↓kMt0_at, ↓kMt0L_clear, ↓kMt0L_rev, ↓K2_in_t, ↓K2_in_f, ↓K2_notIn_t, ↓K2_notIn_f, ↓K_itZp, ↓kZp1_at, ↓K_itEn, ↓kEnI_t, ↓kEnI_l, ↓K2_din_i, ↓kDinD_at, ↓KR_put_0, ↓KR_put_1, ↓KR_put_2, ↓KR_put_l, ↓KR_put_into, ↓KR_put_end, ↓KR_put_looked, ↓KR_put_cut, ↓KR_move_0, ↓KR_move_1, ↓KR_move_2, ↓KR_move_l, ↓KR_move_into, ↓KR_move_end, ↓KR_move_looked, ↓KR_move_cut, ↓KR_add_0, ↓KR_add_1, ↓KR_add_2, ↓KR_add_3, ↓KR_add_l, ↓KR_add_into, ↓KR_add_end, ↓KR_add_looked, ↓KR_add_cut, ↓KR_take_0, ↓KR_take_1, ↓KR_take_2, ↓KR_take_3, ↓KR_take_l, ↓KR_take_into, ↓KR_take_end, ↓KR_take_looked, ↓KR_take_cut, ↓KR_times_0, ↓KR_times_1, ↓KR_times_2, ↓KR_times_3, ↓KR_times_l, ↓KR_times_into, ↓KR_times_end, ↓KR_times_looked, ↓KR_times_cut, ↓KR_get_0, ↓KR_get_1, ↓KR_get_2, ↓KR_get_l, ↓KR_get_into, ↓KR_get_end, ↓KR_get_looked, ↓KR_get_cut, ↓KR_set_0, ↓KR_set_1, ↓KR_set_2, ↓KR_set_l, ↓KR_set_into, ↓KR_set_end, ↓KR_set_looked, ↓KR_set_cut, ↓KR_say_0, ↓KR_say_1, ↓KR_say_l, ↓KR_say_into, ↓KR_say_end, ↓KR_say_looked, ↓KR_say_cut, ↓KR_rest_0, ↓KR_rest_l, ↓KR_rest_into, ↓KR_rest_end, ↓KR_rest_looked, ↓KR_rest_cut, ↓KR_go_0, ↓KR_go_1, ↓KR_go_l, ↓KR_go_into, ↓KR_go_end, ↓KR_go_looked, ↓KR_go_cut, ↓KR_ifr_0, ↓KR_ifr_1, ↓KR_ifr_2, ↓KR_ifr_l, ↓KR_ifr_into, ↓KR_ifr_end, ↓KR_ifr_looked, ↓KR_ifr_cut, ↓KR_stop_0, ↓KR_stop_l, ↓KR_stop_into, ↓KR_stop_end, ↓KR_stop_looked, ↓KR_stop_cut, ↓KR_late, ↓KR_far, ↓KR_num, ↓KR_mill_0, ↓KR_mill_1, ↓KR_mill_2, ↓KR_mill_3, ↓KR_pi_len, ↓KA_stop, ↓KA_goes, ↓KA_ends, ↓K_mt1E, ↓kM1_l, ↓kM1_s, ↓kM1b_at, ↓K1_isi_c, ↓kIsiL_at, ↓KN_minl, start0, List.map_cons, List.map_nil, List.length_cons, List.length_nil, List.replicate_succ, List.replicate_zero, Nat.reduceSub, Nat.reduceAdd, wipeE, List.set_cons_zero, List.set_cons_succ, List.cons_append, List.nil_append, $as,*])
def numT (i : Int) : Str := Str.ofString (toString i)
def okN (n : Nat) : Bool :=
  decide (1 ≤ (numT (n : Int)).cps.toList.length) && decide ((numT (n : Int)).cps.toList.length ≤ 3) && (numT (n : Int)).cps.toList.all (fun c => decide (48 ≤ c) && decide (c ≤ 57)) && (decide ((numT (n : Int)).cps.toList = [48]) || decide ((numT (n : Int)).cps.toList.headD 0 ≠ 48))
theorem okN_all : (List.range 1000).all okN = true := by decide +kernel
structure NumT (z : Str) : Prop where
  one : 1 ≤ (tl z).length
  most : (tl z).length ≤ 3
  figs : ∀ c, c ∈ tl z → 48 ≤ c ∧ c ≤ 57
  head : tl z = [48] ∨ (tl z).headD 0 ≠ 48
theorem numT_ok {i : Int} (h0 : 0 ≤ i) (h1 : i < 1000) : NumT (numT i) := by
  obtain ⟨n, rfl⟩ := Int.eq_ofNat_of_zero_le h0
  have z := List.all_eq_true.mp okN_all n (List.mem_range.mpr (by omega))
  unfold okN at z
  simp only [Bool.and_eq_true, Bool.or_eq_true, decide_eq_true_eq, List.all_eq_true] at z
  exact ⟨z.1.1.1, z.1.1.2, z.1.2, z.2⟩
theorem numT_reads {i : Int} (h0 : 0 ≤ i) (h1 : i < 1000) : PySem.intText? (numT i) = some i := PySem.W.KIN.num_reads h0 (by omega)
/-- the words of a row -/
def wordsT (r : Row) : List Str := r.word :: r.parts.map numT
def rowT (r : Row) : Str := Txt.join (Str.ofString " ") (wordsT r)
def progT (p : List Row) : Str := Txt.join (Str.ofString "\n") (p.map rowT)
theorem word_signs (r : Row) : (tl r.word).all (fun c => decide (c ≠ 32) && decide (c ≠ 10)) = true := by
  cases r <;> (unfold Row.word; dsimp only; decide +kernel)
theorem wordsT_free {r : Row} (h : ∀ i, i ∈ r.parts → 0 ≤ i ∧ i < 1000) {z : Str} (hz : z ∈ wordsT r) : 32 ∉ tl z ∧ 10 ∉ tl z := by
  rcases List.mem_cons.mp hz with e | hz
  · rw [e]
    have q := List.all_eq_true.mp (word_signs r)
    constructor
    · intro m
      have := q 32 m
      simp at this
    · intro m
      have := q 10 m
      simp at this
  · obtain ⟨i, hi, rfl⟩ := List.mem_map.mp hz
    have ok := numT_ok (h i hi).1 (h i hi).2
    constructor
    · intro m
      have := ok.figs 32 m
      omega
    · intro m
      have := ok.figs 10 m
      omega
theorem rowT_split {r : Row} (h : ∀ i, i ∈ r.parts → 0 ≤ i ∧ i < 1000) : Txt.split (rowT r) (Str.ofString " ") = wordsT r :=
  split_join (y := Str.ofString " ") (s := 32) (S := []) (by decide +kernel) (by decide +kernel) (List.cons_ne_nil _ _) fun p hp => (wordsT_free h hp).1
section
variable {β : Type}
def kStrI (k : Wk × Nat → Mem → Rs β) : D → Mem → Rs β := fun d m => match d with
  | .str z => k (wkStr z, (strOf z).length) m
  | _ => .bad
theorem K_itStr (a : SE) (ρ : Ev) (m : Mem) (k : Wk × Nat → Mem → Rs β) : K (itStr a ρ) m k = K (a ρ) m (kStrI k) := by
  unfold itStr
  rw [K_bind]
  congr 1
  funext d m1
  cases d <;> first
    | rfl
    | exact K_ok rfl _
    | exact K_bad rfl _
theorem kStrI_at (k : Wk × Nat → Mem → Rs β) (z : Str) (m : Mem) : kStrI k (.str z) m = k (wkStr z, (strOf z).length) m := rfl
theorem KN_len_s {z : Str} (h : z.length ≤ sizeLine) (m : Mem) (k : D → Mem → Rs β) : KN gLen [.str z] m k = k (.int z.length) m := KO_of (if_pos h) m k
theorem KN_str (i : Int) (h : i.natAbs.log2 < 1920) (m : Mem) (k : D → Mem → Rs β) : KN gStr [.int i] m k = k (.str (numT i)) m := KO_of (if_pos h) m k
end
def f_number_of : SS := sSeq (sIf (LB.tOr (LB.tNot (tV (chn gLe gLe (cn (.int 1)) (opN gLen (argC (vr 0) (argN))) (cn (.int 3))))) (tV (op2 gNe (comp (itStr (vr 0)) (gNm 1) (tV (op2 gNotInS (vr 1) (cn (.str (Str.ofString "0123456789"))))) (vr 1) [1]) (lsl (argN))))) (sRet (cn .non)) (sNext)) (sRet (ifE (LB.tOr (tV (op2 gEq (vr 0) (cn (.str (Str.ofString "0"))))) (tV (op2 gNe (op2 gIx (vr 0) (cn (.int 0))) (cn (.str (Str.ofString "0")))))) (opN gIntS (argC (vr 0) (argN))) (cn .non)))
def m_number_of : Fn := run 2 f_number_of
theorem le_number_of (ds : List D) (m : Mem) : LeR m (m_number_of ds m) (run 2 f_number_of ds m) := .same _
theorem number_of_run {i : Int} (h0 : 0 ≤ i) (h1 : i < 1000) (m : Mem) : m_number_of [.str (numT i)] m = .ok (.int i) m := by
  have ok := numT_ok h0 h1
  have hr := numT_reads h0 h1
  rw [K_start (m_number_of _), m_number_of, f_number_of]
  have hl3 := ok.most
  have hl1 := ok.one
  have hlen : (numT i).length = (tl (numT i)).length := len_tl _
  have hsz : (numT i).length ≤ sizeLine := Nat.le_trans (by omega : (numT i).length ≤ 3) (by decide)
  have c1 : decide ((1 : Int) ≤ ((numT i).length : Nat)) = true := decide_eq_true (by omega)
  have c2 : decide ((((numT i).length : Nat) : Int) ≤ 3) = true := decide_eq_true (by omega)
  have hsl : (strOf (numT i)).length = (tl (numT i)).length := List.length_map _
  have hfg : ∀ c, c ∈ tl (numT i) → (!decide (c ∈ (Str.ofString "0123456789").cps.toList)) = false := fun c hc => by
    have hd : (List.range 58).all (fun c => decide (c < 48) || decide (c ∈ (Str.ofString "0123456789").cps.toList)) = true := by decide +kernel
    obtain ⟨f1, f2⟩ := ok.figs c hc
    have z := List.all_eq_true.mp hd c (List.mem_range.mpr (by omega))
    rw [Bool.or_eq_true, decide_eq_true_eq, decide_eq_true_eq] at z
    rcases z with z | z
    · omega
    · rw [decide_eq_true z]
      rfl
  have hcm := fun (k : List D → Mem → Rs D) => C_filter (w := wkStr (numT i)) (g := gNm 1) (t := tV (op2 gNotInS (vr 1) (cn (.str (Str.ofString "0123456789"))))) (e := vr 1) (ρ0 := [some (.str (numT i)), none]) (m := m) (n := (strOf (numT i)).length) (k := k) (tl (numT i)) (fun c => D.str ⟨#[c]⟩) (fun _ => false) (fun c => D.str ⟨#[c]⟩) hsl (by omega) (fun i _ => rfl) (fun c hc => by
    have e : ∀ (k : D → Mem → Rs Bool) (m : Mem), K2 gNotInS (.str ⟨#[c]⟩) (.str (Str.ofString "0123456789")) m k = k (.bl false) m := fun k m => KO_of (by
      show some (D.bl (!decide (c ∈ (Str.ofString "0123456789").cps.toList))) = _
      rw [hfg c hc]) m k
    simp_arith [↓K_exG_nm, ↓e]) (fun c hc h => by cases h)
  have hnil : (tl (numT i)).filter (fun _ => false) = [] := List.filter_eq_nil_iff.mpr (by simp)
  have hne0 : ∀ (k : D → Mem → Rs Bool) (m : Mem), K2 gNe (.lst []) (.lst []) m k = k (.bl false) m := fun k m => rfl
  have hne1 : ∀ (k : D → Mem → Rs D) (m : Mem), K2 gNe (.lst []) (.lst []) m k = k (.bl false) m := fun k m => rfl
  have hint : ∀ (k : D → Mem → Rs D) (m : Mem), KN gIntS [.str (numT i)] m k = k (.int i) m := fun k m => KO_of (by
    show (if (numT i).length ≤ 640 then (PySem.intText? (numT i)).map D.int else none) = _
    rw [if_pos (by omega), hr]
    rfl) m k
  have t0 : tl (Str.ofString "0") = [48] := by decide +kernel
  by_cases hz : numT i = Str.ofString "0"
  · have hz1 : decide (numT i = Str.ofString "0") = true := decide_eq_true hz
    simp_arith [↓KN_len_s hsz, c1, c2, ↓K_itStr, ↓kStrI_at, ↓hcm, hnil, Bool.not_true, ↓hne0, ↓hne1, ↓hint, ↓K2_eq_s, hz1]
  · have hz2 : decide (numT i = Str.ofString "0") = false := decide_eq_false hz
    have hh : (tl (numT i)).headD 0 ≠ 48 := by
      rcases ok.head with h | h
      · exact absurd (ext_tl (h.trans t0.symm)) hz
      · exact h
    obtain ⟨c, l, hcl⟩ : ∃ c l, tl (numT i) = c :: l := by
      cases hc : tl (numT i) with
      | nil => rw [hc] at hl1; cases hl1
      | cons c l => exact ⟨c, l, rfl⟩
    rw [hcl] at hh
    have hix : ∀ (k : D → Mem → Rs D) (m : Mem), K2 gIx (.str (numT i)) (.int 0) m k = k (.str ⟨#[c]⟩) m := fun k m => KO_of (by
      show (if (numT i).length ≤ sizeLine then (atD (tl (numT i)) 0).map (fun c => D.str ⟨#[c]⟩) else none) = _
      rw [if_pos hsz, hcl, show (0 : Int) = ((0 : Nat) : Int) from rfl, atD_nat]
      rfl) m k
    have hc0 : decide ((⟨#[c]⟩ : Str) = Str.ofString "0") = false := decide_eq_false fun e => by
      have z : tl (⟨#[c]⟩ : Str) = tl (Str.ofString "0") := by rw [e]
      rw [t0] at z
      have z2 : [c] = [48] := z
      exact hh (List.cons.inj z2).1
    simp_arith [↓KN_len_s hsz, c1, c2, ↓K_itStr, ↓kStrI_at, ↓hcm, hnil, Bool.not_true, ↓hne0, ↓hne1, ↓hint, ↓K2_eq_s, hz2, ↓hix, ↓K2_ne_s, hc0, Bool.not_false]
theorem joinL_le {S : List Nat} {b : Nat} : ∀ ps : List (List Nat), (∀ p, p ∈ ps → p.length ≤ b) → (joinL S ps).length ≤ ps.length * (b + S.length)
  | [], _ => Nat.zero_le _
  | [p], h => by
    have := h p List.mem_cons_self
    show p.length ≤ 1 * (b + S.length)
    omega
  | p :: q :: r, h => by
    have h1 := h p List.mem_cons_self
    have ih := joinL_le (S := S) (q :: r) fun x hx => h x (List.mem_cons_of_mem _ hx)
    show (p ++ (S ++ joinL S (q :: r))).length ≤ _
    rw [List.length_append, List.length_append, List.length_cons, Nat.succ_mul]
    omega
theorem join_le {y : Str} {b : Nat} {ps : List Str} (h : ∀ p, p ∈ ps → p.length ≤ b) : (Txt.join y ps).length ≤ ps.length * (b + y.length) := by
  rw [join_eq, len_tl, tl_join]
  have z := joinL_le (S := tl y) (b := b) (ps.map tl) fun p hp => by
    obtain ⟨q, hq, rfl⟩ := List.mem_map.mp hp
    rw [← len_tl]
    exact h q hq
  rw [List.length_map] at z
  rw [len_tl y]
  exact z
theorem word_len (r : Row) : r.word.length ≤ 5 := by
  cases r <;> (unfold Row.word; dsimp only; decide +kernel)
/-- the row of a line -/
structure RowN (rows : Nat) (r : Row) : Prop where
  nums : ∀ i, i ∈ r.parts → 0 ≤ i ∧ i < 1000
  ok : r.okB rows = true
theorem rowN_of {rows : Nat} {r : Row} (h : r.okB rows = true) (hr : rows ≤ 200) : RowN rows r := by
  refine ⟨fun i hi => ?_, h⟩
  cases r <;> simp [Row.okB, Row.parts, Row.sorts, most] at h hi <;> omega
theorem rowT_len {r : Row} (h : ∀ i, i ∈ r.parts → 0 ≤ i ∧ i < 1000) : (rowT r).length ≤ 24 := by
  have hp : r.parts.length ≤ 3 := by cases r <;> simp [Row.parts]
  have z := join_le (y := Str.ofString " ") (b := 5) (ps := wordsT r) fun p hp => by
    rcases List.mem_cons.mp hp with e | hp
    · rw [e]
      exact word_len r
    · obtain ⟨i, hi, rfl⟩ := List.mem_map.mp hp
      have := (numT_ok (h i hi).1 (h i hi).2).most
      rw [len_tl]
      omega
  have y1 : (Str.ofString " ").length = 1 := by decide +kernel
  have wl : (wordsT r).length ≤ 4 := by
    unfold wordsT
    rw [List.length_cons, List.length_map]
    omega
  rw [y1] at z
  exact Nat.le_trans z (by omega)
def f_row_of : SS := sSeq (sAsg (mt1E isStr gSplit (vr 0) (cn (.str (Str.ofString " ")))) (gNm 2)) (sSeq (sIf (tV (op1 (gNotInK tbF) (op2 gIx (vr 2) (cn (.int 0))))) (sRet (cn .non)) (sNext)) (sSeq (sAsg (op2 gAdd (tpl (argC (op2 gIx (vr 2) (cn (.int 0))) (argN))) (opN gTuple (argC (comp (itSeq (slc (vr 2) (soS (cn (.int 1))) (soN))) (gNm 4) (LB.tYes) (callN 1 m_number_of (argC (vr 4) (argN))) [4]) (argN)))) (gNm 3)) (sRet (ifE (tV (callN 2 m_is_row (argC (vr 3) (argC (vr 1) (argN))))) (vr 3) (cn .non)))))
def m_row_of : Fn := run 5 f_row_of
theorem le_row_of (ds : List D) (m : Mem) : LeR m (m_row_of ds m) (run 5 f_row_of ds m) := .same _
theorem row_of_run {rows : Nat} {r : Row} (h : RowN rows r) (m : Mem) : m_row_of [.str (rowT r), .int rows] m = .ok r.enc m := by
  have hsp := rowT_split h.nums
  have hl := rowT_len h.nums
  have hspl : ∀ (k : D → Mem → Rs D) (m : Mem), K2 gSplit (.str (rowT r)) (.str (Str.ofString " ")) m k = k (.lst (.str r.word :: r.parts.map fun i => .str (numT i))) m := fun k m => KO_of (by
    show (if ((Str.ofString " ").length == 0) = false ∧ (rowT r).length + 2 ≤ sizeLine then some (D.lst ((Txt.split (rowT r) (Str.ofString " ")).map D.str)) else none) = _
    rw [if_pos ⟨by decide +kernel, Nat.le_trans (by omega : (rowT r).length + 2 ≤ 32) (by decide)⟩, hsp]
    unfold wordsT
    rw [List.map_cons, List.map_map]
    rfl) m k
  rw [K_start (m_row_of _), m_row_of, f_row_of]
  have hin : ∀ (k : D → Mem → Rs D) (m : Mem), K1 (gNotInK tbF) (.str r.word) m k = k (.bl false) m := fun k m => KO_of (by cases r <;> rfl) m k
  have hpl : r.parts.length ≤ 3 := by cases r <;> simp [Row.parts]
  have hcm := fun (k : List D → Mem → Rs D) => C_map (w := wkSeq (.lst (r.parts.map fun i => .str (numT i)))) (g := gNm 4) (e := callN 1 m_number_of (argC (vr 4) (argN))) (ρ0 := [some (.str (rowT r)), some (.int (rows : Nat)), some (.lst (.str r.word :: r.parts.map fun i => .str (numT i))), none, none]) (m := m) (n := (r.parts.map fun i => D.str (numT i)).length) (k := k) r.parts (fun i => D.str (numT i)) D.int (List.length_map _) (Nat.le_trans hpl (by decide)) (fun i _ => rfl) (fun _ _ => rfl) (fun i hi => by
    simp_arith [↓K_exG_nm, ↓KF_ok (number_of_run (h.nums i hi).1 (h.nums i hi).2 m)])
  have hadd : [D.str r.word].length + (r.parts.map D.int).length ≤ sizeLine := by
    rw [List.length_map]
    exact Nat.le_trans (show 1 + r.parts.length ≤ 4 by omega) (by decide)
  have hrow : ∀ (k : D → Mem → Rs D), KF m_is_row [.tup (.str r.word :: r.parts.map D.int), .int (rows : Nat)] m k = k (.bl true) m := fun k => by
    rw [← h.ok]
    exact KF_ok (is_row_row r rows m) k
  simp_arith [↓hspl, KIx_0, ↓hin, cut1, List.drop_succ_cons, List.drop_zero, ↓hcm, ↓hrow]
  rfl
end
end LB

set_option Elab.async false
set_option linter.all false
set_option autoImplicit false
set_option maxRecDepth 100000
set_option maxHeartbeats 2000000
/-! Pure: a program written. -/
namespace LB
open PySem L2 TL
noncomputable section
local macro_rules | `(tactic| simp_arith [$as,*]) => `(tactic| simp -implicitDefEqProofs (disch := first | assumption | decide | omega | (simp only [List.length_cons, List.length_nil, Mem.put_n, Mem.new_n, Mem.kill_n]; omega)) only [↓KO_some, ↓K_vr, ↓kVr_0, ↓kVr_s, ↓K_cn, ↓K_pure, ↓K_op2, ↓kOp2a_at, ↓kOp2b_at, ↓K_op1, ↓kOp1_at, ↓K_argN, ↓K_argC, ↓kArg1_at, ↓kArg2_at, ↓K_opN, ↓kOpN_at, ↓K_call, ↓kCall_1, ↓kCall_2, ↓kCall_3, ↓kCall_4, ↓kCall_5, ↓K_tpl, ↓K_lsl, ↓K_lsm, ↓K_dctE, ↓kTpl_0, ↓kTpl_1, ↓kTpl_2, ↓kTpl_3, ↓kTpl_4, ↓kTpl_5, ↓kLsl_0, ↓kLsl_1, ↓kLsl_2, ↓kLsl_3, ↓kLsl_4, ↓kLsm_0, ↓K_tV, ↓kTV_at, ↓K_tAnd, ↓kTAnd_t, ↓kTAnd_f, ↓K_tOr, ↓kTOr_t, ↓kTOr_f, ↓K_tNot, ↓kTNot_t, ↓kTNot_f, ↓kTNot_at, ↓K_tYes, ↓K_vAnd, ↓kVAnd_t, ↓kVAnd_f, ↓K_vOr, ↓kVOr_t, ↓kVOr_f, ↓K_vNot, ↓kVNot_at, ↓K_ifE, ↓kIfE_t, ↓kIfE_f, ↓K_chn, ↓kChn0_at, ↓kChn1_at, ↓kChn2_t, ↓kChn2_f, ↓K_soN, ↓K_soS, ↓kSoS_at, ↓K_slc, ↓kSlc0_at, ↓kSlc1_at, ↓kSlc2_at, ↓KSl_tup, ↓KSl_lst, ↓K_sNext, ↓K_sSeq, ↓kSeq_nx, ↓kSeq_rt, ↓K_sRet, ↓kRet_at, ↓K_sRetN, ↓K_sExp, ↓kExp_at, ↓K_sIf, ↓kIf_t, ↓kIf_f, ↓kSet_0, ↓kSet_s, ↓kUn_c, ↓kUn_n, ↓K_sAsg, ↓kAsg_nm, ↓kAsg_tp, ↓kNms_c, ↓kNmsC_at, ↓kNms_n, ↓K_sPar, ↓kPar1_at, ↓kPar2_at, ↓K_run, ↓kRun_rt, ↓kRun_nx, ↓K2_add_i, ↓K2_sub_i, ↓K2_mul_i, ↓K2_mod_i, ↓K2_fdiv_i, ↓K2_lt_i, ↓K2_le_i, ↓K2_gt_i, ↓K2_ge_i, ↓K2_eq_i, ↓K2_ne_i, ↓K2_eq_st, ↓K2_eq_sf, ↓K2_ne_st, ↓K2_ne_sf, ↓K2_eq_b, ↓K2_add_t, ↓K2_add_l, ↓K1_neg_i, ↓K2_isN_n, ↓K2_isN_i, ↓K2_isN_s, ↓K2_isN_t, ↓K2_isN_l, ↓K2_isN_c, ↓K2_notN_n, ↓K2_notN_i, ↓K2_notN_s, ↓K2_notN_t, ↓K2_notN_l, ↓K2_notN_c, ↓K2_ix_t, ↓K2_ix_l, ↓KIx_0, ↓KIx_1, ↓KIx_2, ↓KIx_3, ↓KIx_4, ↓KIx_m1a, ↓KIx_m1b, ↓KIx_m1c, ↓KIx_m1d, ↓KN_len_t, ↓KN_len_l, ↓KN_max2, ↓KN_min2, ↓KN_int_i, ↓KN_int_t, ↓KN_int_f, ↓KN_tuple_l, ↓KN_tuple_t, ↓KN_maxl, ↓KN_suml, ↓K1_isi_n, ↓K1_isi_b, ↓K1_isi_i, ↓K1_isi_s, ↓K1_isi_t, ↓K1_isi_l, ↓KG_put_eq, ↓KG_put_ne, ↓KG_new_eq, ↓KG_new_ne, ↓KG_kill_ne, ↓K2_ix_c, ↓kIxL_at, ↓KN_len_c, ↓kLenL_l, ↓kLenL_d, ↓KN_tuple_c, ↓kTupL_at, ↓KN_max_c, ↓kMaxL_at, ↓KSl_c, ↓kSlL_at, ↓K_appE, ↓kApp1_at, ↓kApp1b_at, ↓kApp2_at, ↓kApp3_at, ↓K_sLput, ↓kPut1_at, ↓kPut2_at, ↓kPut3_at, ↓kPut4_at, ↓K2_dget_i, ↓K2_dget_s, ↓kDgD_at, ↓KVk_eq, ↓KVk_ne, ↓KVd_eq, ↓KVd_ne, ↓KVd_n, ↓K_dget2, ↓kDg1_at, ↓kDg1b_at, ↓kDg2_at, ↓kDg3_at, ↓kDg4_i, ↓kDg4_s, ↓K_sDput, ↓kDp1_at, ↓kDp2_at, ↓kDp3_i, ↓kDp3_s, ↓kDp4_at, ↓K1_fld, ↓kFldO_at, ↓KFl_eq, ↓KFl_ne, ↓K_sFput, ↓kFp1_at, ↓kFp2_at, ↓kFp3_at, ↓kPf_n, ↓kPf_eq, ↓kPu_c, ↓kPu_n, ↓kPf_ne, ↓K_callM, ↓kMt1_at, ↓kMt2_at, ↓kNo_n, ↓kNo_c, ↓kMt3_0, ↓kMt3_1, ↓kMt3_2, ↓kMt3_3, ↓kMt3_4, ↓K_mkE, ↓kMk_1, ↓kMk_2, ↓kMk_3, ↓kMk2_at, ↓K_sFor, ↓kFor_at, ↓K_itRng1, ↓kRng1_nat, ↓K_itRng2, ↓kRng2_at, ↓K_itSeq, ↓kSeqI_t, ↓kSeqI_l, ↓kSeqI_c, ↓kSeqL_at, ↓K_bodyG_nm, ↓K_bodyG_tp, ↓K_sWhile, ↓kComp_at, ↓K_comp, ↓K_compM, ↓kLst_at, ↓kLstM_at, ↓kEx_at, ↓K_exG_nm, ↓K_exG_tp, ↓kAlc_at, ↓K_opNM, ↓kOpNM_at, ↓KN_list_l2, ↓KN_list_t2, ↓KN_list_c, ↓kListL_at, ↓K_op2M, ↓kOp2Ma_at, ↓kOp2Mb_at, ↓K2_rep1, ↓K_prE_n, ↓K_prE_c, ↓kPr1_at, ↓kPr2_at, ↓kPr3_at, ↓K_dspE, ↓kDsp_s1, ↓kDsp_s2, ↓kDsp_s3, ↓kDsp_s4, ↓K_frz, ↓kFrz_c, ↓kFrz_l, ↓kFrz_t, ↓kFrz_n, ↓kFrzL_at, ↓K_extE, ↓kExt1_at, ↓kExt1b_at, ↓kExt2_at, ↓kExt3_at, ↓K_mt0E, ↓kMt0_at, ↓kMt0L_clear, ↓kMt0L_rev, ↓K2_in_t, ↓K2_in_f, ↓K2_notIn_t, ↓K2_notIn_f, ↓K_itZp, ↓kZp1_at, ↓K_itEn, ↓kEnI_t, ↓kEnI_l, ↓K2_din_i, ↓kDinD_at, ↓KR_put_0, ↓KR_put_1, ↓KR_put_2, ↓KR_put_l, ↓KR_put_into, ↓KR_put_end, ↓KR_put_looked, ↓KR_put_cut, ↓KR_move_0, ↓KR_move_1, ↓KR_move_2, ↓KR_move_l, ↓KR_move_into, ↓KR_move_end, ↓KR_move_looked, ↓KR_move_cut, ↓KR_add_0, ↓KR_add_1, ↓KR_add_2, ↓KR_add_3, ↓KR_add_l, ↓KR_add_into, ↓KR_add_end, ↓KR_add_looked, ↓KR_add_cut, ↓KR_take_0, ↓KR_take_1, ↓KR_take_2, ↓KR_take_3, ↓KR_take_l, ↓KR_take_into, ↓KR_take_end, ↓KR_take_looked, ↓KR_take_cut, ↓KR_times_0, ↓KR_times_1, ↓KR_times_2, ↓KR_times_3, ↓KR_times_l, ↓KR_times_into, ↓KR_times_end, ↓KR_times_looked, ↓KR_times_cut, ↓KR_get_0, ↓KR_get_1, ↓KR_get_2, ↓KR_get_l, ↓KR_get_into, ↓KR_get_end, ↓KR_get_looked, ↓KR_get_cut, ↓KR_set_0, ↓KR_set_1, ↓KR_set_2, ↓KR_set_l, ↓KR_set_into, ↓KR_set_end, ↓KR_set_looked, ↓KR_set_cut, ↓KR_say_0, ↓KR_say_1, ↓KR_say_l, ↓KR_say_into, ↓KR_say_end, ↓KR_say_looked, ↓KR_say_cut, ↓KR_rest_0, ↓KR_rest_l, ↓KR_rest_into, ↓KR_rest_end, ↓KR_rest_looked, ↓KR_rest_cut, ↓KR_go_0, ↓KR_go_1, ↓KR_go_l, ↓KR_go_into, ↓KR_go_end, ↓KR_go_looked, ↓KR_go_cut, ↓KR_ifr_0, ↓KR_ifr_1, ↓KR_ifr_2, ↓KR_ifr_l, ↓KR_ifr_into, ↓KR_ifr_end, ↓KR_ifr_looked, ↓KR_ifr_cut, ↓KR_stop_0, ↓KR_stop_l, ↓KR_stop_into, ↓KR_stop_end, ↓KR_stop_looked, ↓KR_stop_cut, ↓KR_late, ↓KR_far, ↓KR_num, ↓KR_mill_0, ↓KR_mill_1, ↓KR_mill_2, ↓KR_mill_3, ↓KR_pi_len, ↓KA_stop, ↓KA_goes, ↓KA_ends, ↓K_mt1E, ↓kM1_l, ↓kM1_s, ↓kM1b_at, ↓K1_isi_c, ↓kIsiL_at, ↓KN_minl, start0, List.map_cons, List.map_nil, List.length_cons, List.length_nil, List.replicate_succ, List.replicate_zero, Nat.reduceSub, Nat.reduceAdd, wipeE, List.set_cons_zero, List.set_cons_succ, List.cons_append, List.nil_append, $as,*])
theorem strsOf_map : ∀ ys : List Str, strsOf (ys.map D.str) = some ys
  | [] => rfl
  | y :: r => by
    show (strsOf (r.map D.str)).map (y :: ·) = _
    rw [strsOf_map r]
    rfl
theorem sum_le {b : Nat} : ∀ ys : List Str, (∀ y, y ∈ ys → y.length ≤ b) → (ys.map (·.length)).sum ≤ ys.length * b
  | [], _ => Nat.zero_le _
  | y :: r, h => by
    have h1 := h y List.mem_cons_self
    have ih := sum_le r fun x hx => h x (List.mem_cons_of_mem _ hx)
    rw [List.map_cons, List.sum_cons, List.length_cons, Nat.succ_mul]
    omega
theorem K2_join {β : Type} {a : Str} {ys : List Str} {b : Nat} (hb : ∀ y, y ∈ ys → y.length ≤ b) (hl : ys.length * b + ys.length * a.length ≤ 16777216) (m : Mem) (k : D → Mem → Rs β) : K2 gJoin (.str a) (.lst (ys.map D.str)) m k = k (.str (Txt.join a ys)) m := KO_of (by
  show (strsOf (ys.map D.str)).bind (fun ys => if (ys.map (·.length)).sum + ys.length * a.length ≤ 16777216 then some (D.str (Txt.join a ys)) else none) = _
  rw [strsOf_map, Option.bind_some, if_pos (Nat.le_trans (Nat.add_le_add_right (sum_le ys hb) _) hl)]) m k
theorem cut_row {β : Type} (r : Row) (m : Mem) (k : D → Mem → Rs β) : KSl r.enc (some 1) none m k = k (.tup (r.parts.map D.int)) m := by cases r <;> rfl
theorem log_small {i : Int} (h0 : 0 ≤ i) (h1 : i < 1000) : i.natAbs.log2 < 1920 := by
  by_cases e : i.natAbs = 0
  · rw [e]
    decide
  · refine (Nat.log2_lt e).mpr (Nat.lt_of_lt_of_le (show i.natAbs < 2 ^ 10 by omega) (Nat.pow_le_pow_right (by decide) (by decide)))
def f_written : SS := sSeq (sExp (callN 1 m_need_program (argC (vr 0) (argN)))) (sRet (mt1E isStr gJoin (cn (.str (Str.ofString "\n"))) (comp (itSeq (vr 0)) (gNm 1) (LB.tYes) (mt1E isStr gJoin (cn (.str (Str.ofString " "))) (op2 gAdd (lsl (argC (op2 gIx (vr 1) (cn (.int 0))) (argN))) (comp (itSeq (slc (vr 1) (soS (cn (.int 1))) (soN))) (gNm 2) (LB.tYes) (opN gStr (argC (vr 2) (argN))) [2]))) [1])))
def m_written : Fn := run 3 f_written
theorem le_written (ds : List D) (m : Mem) : LeR m (m_written ds m) (run 3 f_written ds m) := .same _
theorem written_run {p : List Row} (hp : ProgOk p) (m : Mem) : m_written [encP p] m = .ok (.str (progT p)) m := by
  have h200 := hp.most
  have hN : ∀ r, r ∈ p → RowN p.length r := fun r hr => rowN_of (hp.rows r hr) h200
  have y1 : (Str.ofString " ").length = 1 := by decide +kernel
  have y2 : (Str.ofString "\n").length = 1 := by decide +kernel
  rw [K_start (m_written _), m_written, f_written]
  have hrow : ∀ r, r ∈ p → K (exG (gNm 1) (mt1E isStr gJoin (cn (.str (Str.ofString " "))) (op2 gAdd (lsl (argC (op2 gIx (vr 1) (cn (.int 0))) (argN))) (comp (itSeq (slc (vr 1) (soS (cn (.int 1))) (soN))) (gNm 2) (LB.tYes) (opN gStr (argC (vr 2) (argN))) [2]))) r.enc [some (encP p), none, none]) m Rs.ok = .ok (.str (rowT r)) m := fun r hr => by
    have hn := (hN r hr).nums
    have hpl : r.parts.length ≤ 3 := by cases r <;> simp [Row.parts]
    have hcm := fun (k : List D → Mem → Rs D) => C_map (w := wkSeq (.tup (r.parts.map D.int))) (g := gNm 2) (e := opN gStr (argC (vr 2) (argN))) (ρ0 := [some (encP p), some r.enc, none]) (m := m) (n := (r.parts.map D.int).length) (k := k) r.parts D.int (fun i => .str (numT i)) (List.length_map _) (Nat.le_trans hpl (by decide)) (fun i _ => rfl) (fun _ _ => rfl) (fun i hi => by
      simp_arith [↓K_exG_nm, ↓KN_str i (log_small (hn i hi).1 (hn i hi).2)])
    have hadd : [D.str r.word].length + (r.parts.map fun i => D.str (numT i)).length ≤ sizeLine := by
      rw [List.length_map]
      exact Nat.le_trans (show 1 + r.parts.length ≤ 4 by omega) (by decide)
    have hj : ∀ (k : D → Mem → Rs D) (m : Mem), K2 gJoin (.str (Str.ofString " ")) (.lst (.str r.word :: r.parts.map fun i => .str (numT i))) m k = k (.str (rowT r)) m := fun k m => by
      have z := K2_join (a := Str.ofString " ") (ys := wordsT r) (b := 5) (fun y hy => by
        rcases List.mem_cons.mp hy with e | hy
        · rw [e]
          exact word_len r
        · obtain ⟨i, hi, rfl⟩ := List.mem_map.mp hy
          have := (numT_ok (hn i hi).1 (hn i hi).2).most
          rw [len_tl]
          omega) (by
        have wl : (wordsT r).length = r.parts.length + 1 := by
          unfold wordsT
          rw [List.length_cons, List.length_map]
        rw [y1, wl]
        omega) m k
      unfold wordsT at z
      rw [List.map_cons, List.map_map] at z
      exact z
    simp_arith [↓K_exG_nm, ↓KA_0, ↓cut_row, ↓hcm, ↓hj]
  have hcm := fun (k : List D → Mem → Rs D) => C_map (w := wkSeq (encP p)) (g := gNm 1) (e := mt1E isStr gJoin (cn (.str (Str.ofString " "))) (op2 gAdd (lsl (argC (op2 gIx (vr 1) (cn (.int 0))) (argN))) (comp (itSeq (slc (vr 1) (soS (cn (.int 1))) (soN))) (gNm 2) (LB.tYes) (opN gStr (argC (vr 2) (argN))) [2]))) (ρ0 := [some (encP p), none, none]) (m := m) (n := (p.map Row.enc).length) (k := k) p Row.enc (fun r => .str (rowT r)) (List.length_map _) (Nat.le_trans h200 (by decide)) (fun i _ => rfl) (fun _ _ => rfl) hrow
  have hj : ∀ (k : D → Mem → Rs D) (m : Mem), K2 gJoin (.str (Str.ofString "\n")) (.lst (p.map fun r => .str (rowT r))) m k = k (.str (progT p)) m := fun k m => by
    have z := K2_join (a := Str.ofString "\n") (ys := p.map rowT) (b := 24) (fun y hy => by
      obtain ⟨r, hr, rfl⟩ := List.mem_map.mp hy
      exact rowT_len (hN r hr).nums) (by
      rw [y2, List.length_map]
      omega) m k
    rw [List.map_map] at z
    exact z
  have hsq : ∀ (k : Wk × Nat → Mem → Rs D) (m : Mem), kSeqI k (encP p) m = k (wkSeq (encP p), (p.map Row.enc).length) m := fun k m => rfl
  simp_arith [↓KF_ok (need_program_ok hp m), ↓hsq, ↓hcm, ↓hj]
end
end LB

set_option Elab.async false
set_option linter.all false
set_option autoImplicit false
set_option maxRecDepth 100000
set_option maxHeartbeats 2000000
/-! Pure: a text read. -/
namespace LB
open PySem L2 TL
noncomputable section
local macro_rules | `(tactic| simp_arith [$as,*]) => `(tactic| simp -implicitDefEqProofs (disch := first | assumption | decide | omega | (simp only [List.length_cons, List.length_nil, Mem.put_n, Mem.new_n, Mem.kill_n]; omega)) only [↓KO_some, ↓K_vr, ↓kVr_0, ↓kVr_s, ↓K_cn, ↓K_pure, ↓K_op2, ↓kOp2a_at, ↓kOp2b_at, ↓K_op1, ↓kOp1_at, ↓K_argN, ↓K_argC, ↓kArg1_at, ↓kArg2_at, ↓K_opN, ↓kOpN_at, ↓K_call, ↓kCall_1, ↓kCall_2, ↓kCall_3, ↓kCall_4, ↓kCall_5, ↓K_tpl, ↓K_lsl, ↓K_lsm, ↓K_dctE, ↓kTpl_0, ↓kTpl_1, ↓kTpl_2, ↓kTpl_3, ↓kTpl_4, ↓kTpl_5, ↓kLsl_0, ↓kLsl_1, ↓kLsl_2, ↓kLsl_3, ↓kLsl_4, ↓kLsm_0, ↓K_tV, ↓kTV_at, ↓K_tAnd, ↓kTAnd_t, ↓kTAnd_f, ↓K_tOr, ↓kTOr_t, ↓kTOr_f, ↓K_tNot, ↓kTNot_t, ↓kTNot_f, ↓kTNot_at, ↓K_tYes, ↓K_vAnd, ↓kVAnd_t, ↓kVAnd_f, ↓K_vOr, ↓kVOr_t, ↓kVOr_f, ↓K_vNot, ↓kVNot_at, ↓K_ifE, ↓kIfE_t, ↓kIfE_f, ↓K_chn, ↓kChn0_at, ↓kChn1_at, ↓kChn2_t, ↓kChn2_f, ↓K_soN, ↓K_soS, ↓kSoS_at, ↓K_slc, ↓kSlc0_at, ↓kSlc1_at, ↓kSlc2_at, ↓KSl_tup, ↓KSl_lst, ↓K_sNext, ↓K_sSeq, ↓kSeq_nx, ↓kSeq_rt, ↓K_sRet, ↓kRet_at, ↓K_sRetN, ↓K_sExp, ↓kExp_at, ↓K_sIf, ↓kIf_t, ↓kIf_f, ↓kSet_0, ↓kSet_s, ↓kUn_c, ↓kUn_n, ↓K_sAsg, ↓kAsg_nm, ↓kAsg_tp, ↓kNms_c, ↓kNmsC_at, ↓kNms_n, ↓K_sPar, ↓kPar1_at, ↓kPar2_at, ↓K_run, ↓kRun_rt, ↓kRun_nx, ↓K2_add_i, ↓K2_sub_i, ↓K2_mul_i, ↓K2_mod_i, ↓K2_fdiv_i, ↓K2_lt_i, ↓K2_le_i, ↓K2_gt_i, ↓K2_ge_i, ↓K2_eq_i, ↓K2_ne_i, ↓K2_eq_st, ↓K2_eq_sf, ↓K2_ne_st, ↓K2_ne_sf, ↓K2_eq_b, ↓K2_add_t, ↓K2_add_l, ↓K1_neg_i, ↓K2_isN_n, ↓K2_isN_i, ↓K2_isN_s, ↓K2_isN_t, ↓K2_isN_l, ↓K2_isN_c, ↓K2_notN_n, ↓K2_notN_i, ↓K2_notN_s, ↓K2_notN_t, ↓K2_notN_l, ↓K2_notN_c, ↓K2_ix_t, ↓K2_ix_l, ↓KIx_0, ↓KIx_1, ↓KIx_2, ↓KIx_3, ↓KIx_4, ↓KIx_m1a, ↓KIx_m1b, ↓KIx_m1c, ↓KIx_m1d, ↓KN_len_t, ↓KN_len_l, ↓KN_max2, ↓KN_min2, ↓KN_int_i, ↓KN_int_t, ↓KN_int_f, ↓KN_tuple_l, ↓KN_tuple_t, ↓KN_maxl, ↓KN_suml, ↓K1_isi_n, ↓K1_isi_b, ↓K1_isi_i, ↓K1_isi_s, ↓K1_isi_t, ↓K1_isi_l, ↓KG_put_eq, ↓KG_put_ne, ↓KG_new_eq, ↓KG_new_ne, ↓KG_kill_ne, ↓K2_ix_c, ↓kIxL_at, ↓KN_len_c, ↓kLenL_l, ↓kLenL_d, ↓KN_tuple_c, ↓kTupL_at, ↓KN_max_c, ↓kMaxL_at, ↓KSl_c, ↓kSlL_at, ↓K_appE, ↓kApp1_at, ↓kApp1b_at, ↓kApp2_at, ↓kApp3_at, ↓K_sLput, ↓kPut1_at, ↓kPut2_at, ↓kPut3_at, ↓kPut4_at, ↓K2_dget_i, ↓K2_dget_s, ↓kDgD_at, ↓KVk_eq, ↓KVk_ne, ↓KVd_eq, ↓KVd_ne, ↓KVd_n, ↓K_dget2, ↓kDg1_at, ↓kDg1b_at, ↓kDg2_at, ↓kDg3_at, ↓kDg4_i, ↓kDg4_s, ↓K_sDput, ↓kDp1_at, ↓kDp2_at, ↓kDp3_i, ↓kDp3_s, ↓kDp4_at, ↓K1_fld, ↓kFldO_at, ↓KFl_eq, ↓KFl_ne, ↓K_sFput, ↓kFp1_at, ↓kFp2_at, ↓kFp3_at, ↓kPf_n, ↓kPf_eq, ↓kPu_c, ↓kPu_n, ↓kPf_ne, ↓K_callM, ↓kMt1_at, ↓kMt2_at, ↓kNo_n, ↓kNo_c, ↓kMt3_0, ↓kMt3_1, ↓kMt3_2, ↓kMt3_3, ↓kMt3_4, ↓K_mkE, ↓kMk_1, ↓kMk_2, ↓kMk_3, ↓kMk2_at, ↓K_sFor, ↓kFor_at, ↓K_itRng1, ↓kRng1_nat, ↓K_itRng2, ↓kRng2_at, ↓K_itSeq, ↓kSeqI_t, ↓kSeqI_l, ↓kSeqI_c, ↓kSeqL_at, ↓K_bodyG_nm, ↓K_bodyG_tp, ↓K_sWhile, ↓kComp_at, ↓K_comp, ↓K_compM, ↓kLst_at, ↓kLstM_at, ↓kEx_at, ↓K_exG_nm, ↓K_exG_tp, ↓kAlc_at, ↓K_opNM, ↓kOpNM_at, ↓KN_list_l2, ↓KN_list_t2, ↓KN_list_c, ↓kListL_at, ↓K_op2M, ↓kOp2Ma_at, ↓kOp2Mb_at, ↓K2_rep1, ↓K_prE_n, ↓K_prE_c, ↓kPr1_at, ↓kPr2_at, ↓kPr3_at, ↓K_dspE, ↓kDsp_s1, ↓kDsp_s2, ↓kDsp_s3, ↓kDsp_s4, ↓K_frz, ↓kFrz_c, ↓kFrz_l, ↓kFrz_t, ↓kFrz_n, ↓kFrzL_at, ↓K_extE, ↓kExt1_at, ↓kExt1b_at, ↓kExt2_at, ↓kExt3_at, ↓K_mt0E, ↓kMt0_at, ↓kMt0L_clear, ↓kMt0L_rev, ↓K2_in_t, ↓K2_in_f, ↓K2_notIn_t, ↓K2_notIn_f, ↓K_itZp, ↓kZp1_at, ↓K_itEn, ↓kEnI_t, ↓kEnI_l, ↓K2_din_i, ↓kDinD_at, ↓KR_put_0, ↓KR_put_1, ↓KR_put_2, ↓KR_put_l, ↓KR_put_into, ↓KR_put_end, ↓KR_put_looked, ↓KR_put_cut, ↓KR_move_0, ↓KR_move_1, ↓KR_move_2, ↓KR_move_l, ↓KR_move_into, ↓KR_move_end, ↓KR_move_looked, ↓KR_move_cut, ↓KR_add_0, ↓KR_add_1, ↓KR_add_2, ↓KR_add_3, ↓KR_add_l, ↓KR_add_into, ↓KR_add_end, ↓KR_add_looked, ↓KR_add_cut, ↓KR_take_0, ↓KR_take_1, ↓KR_take_2, ↓KR_take_3, ↓KR_take_l, ↓KR_take_into, ↓KR_take_end, ↓KR_take_looked, ↓KR_take_cut, ↓KR_times_0, ↓KR_times_1, ↓KR_times_2, ↓KR_times_3, ↓KR_times_l, ↓KR_times_into, ↓KR_times_end, ↓KR_times_looked, ↓KR_times_cut, ↓KR_get_0, ↓KR_get_1, ↓KR_get_2, ↓KR_get_l, ↓KR_get_into, ↓KR_get_end, ↓KR_get_looked, ↓KR_get_cut, ↓KR_set_0, ↓KR_set_1, ↓KR_set_2, ↓KR_set_l, ↓KR_set_into, ↓KR_set_end, ↓KR_set_looked, ↓KR_set_cut, ↓KR_say_0, ↓KR_say_1, ↓KR_say_l, ↓KR_say_into, ↓KR_say_end, ↓KR_say_looked, ↓KR_say_cut, ↓KR_rest_0, ↓KR_rest_l, ↓KR_rest_into, ↓KR_rest_end, ↓KR_rest_looked, ↓KR_rest_cut, ↓KR_go_0, ↓KR_go_1, ↓KR_go_l, ↓KR_go_into, ↓KR_go_end, ↓KR_go_looked, ↓KR_go_cut, ↓KR_ifr_0, ↓KR_ifr_1, ↓KR_ifr_2, ↓KR_ifr_l, ↓KR_ifr_into, ↓KR_ifr_end, ↓KR_ifr_looked, ↓KR_ifr_cut, ↓KR_stop_0, ↓KR_stop_l, ↓KR_stop_into, ↓KR_stop_end, ↓KR_stop_looked, ↓KR_stop_cut, ↓KR_late, ↓KR_far, ↓KR_num, ↓KR_mill_0, ↓KR_mill_1, ↓KR_mill_2, ↓KR_mill_3, ↓KR_pi_len, ↓KA_stop, ↓KA_goes, ↓KA_ends, ↓K_mt1E, ↓kM1_l, ↓kM1_s, ↓kM1b_at, ↓K1_isi_c, ↓kIsiL_at, ↓KN_minl, start0, List.map_cons, List.map_nil, List.length_cons, List.length_nil, List.replicate_succ, List.replicate_zero, Nat.reduceSub, Nat.reduceAdd, wipeE, List.set_cons_zero, List.set_cons_succ, List.cons_append, List.nil_append, $as,*])
theorem joinL_free {x : Nat} {S : List Nat} (hS : x ∉ S) : ∀ ps : List (List Nat), (∀ p, p ∈ ps → x ∉ p) → x ∉ joinL S ps
  | [], _ => by simp [joinL]
  | [p], h => h p List.mem_cons_self
  | p :: q :: r, h => by
    have ih := joinL_free hS (q :: r) fun y hy => h y (List.mem_cons_of_mem _ hy)
    show x ∉ p ++ (S ++ joinL S (q :: r))
    rw [List.mem_append, List.mem_append]
    rintro (z | z | z)
    · exact h p List.mem_cons_self z
    · exact hS z
    · exact ih z
theorem rowT_free {r : Row} (h : ∀ i, i ∈ r.parts → 0 ≤ i ∧ i < 1000) : 10 ∉ tl (rowT r) := by
  unfold rowT
  rw [join_eq, tl_join]
  refine joinL_free (by decide +kernel) _ fun q hq => ?_
  obtain ⟨z, hz, rfl⟩ := List.mem_map.mp hq
  exact (wordsT_free h hz).2
def f_read : SS := sSeq (sAsg (mt1E isStr gSplit (vr 0) (cn (.str (Str.ofString "\n")))) (gNm 1)) (sSeq (sAsg (lsm (argN)) (gNm 2)) (sSeq (sFor (itRng1 (argC (opN gLen (argC (vr 1) (argN))) (argN))) (gNm 3) (sSeq (sAsg (callN 2 m_row_of (argC (op2 gIx (vr 1) (vr 3)) (argC (opN gLen (argC (vr 1) (argN))) (argN)))) (gNm 4)) (sSeq (sIf (LB.tOr (tV (op2 gIsN (vr 4) (cn .non))) (tV (op2 gGe (vr 3) (cn (.int 200))))) (sBad) (sNext)) (sExp (appE (vr 2) (vr 4)))))) (sRet (opN gTuple (argC (vr 2) (argN))))))
def m_read : Fn := run 5 f_read
theorem le_read (ds : List D) (m : Mem) : LeR m (m_read ds m) (run 5 f_read ds m) := .same _
theorem read_run {p : List Row} (hp : ProgOk p) (m : Mem) : WP (m_read [.str (progT p)] m) (fun d m2 => d = encP p ∧ Keep m m2) fun _ _ => False := by
  have h1 := hp.one
  have h200 := hp.most
  have hN : ∀ r, r ∈ p → RowN p.length r := fun r hr => rowN_of (hp.rows r hr) h200
  have y2 : (Str.ofString "\n").length = 1 := by decide +kernel
  have hpl : (progT p).length ≤ p.length * (24 + 1) := by
    have z := join_le (y := Str.ofString "\n") (ps := p.map rowT) (b := 24) fun y hy => by
      obtain ⟨r, hr, rfl⟩ := List.mem_map.mp hy
      exact rowT_len (hN r hr).nums
    rw [y2, List.length_map] at z
    exact z
  have hsp : Txt.split (progT p) (Str.ofString "\n") = p.map rowT :=
    split_join (y := Str.ofString "\n") (s := 10) (S := []) (by decide +kernel) (by decide +kernel) (fun e => by
      have z := congrArg List.length e
      rw [List.length_map] at z
      simp at z
      rw [z] at h1
      simp at h1) fun y hy => by
      obtain ⟨r, hr, rfl⟩ := List.mem_map.mp hy
      exact rowT_free (hN r hr).nums
  have hspl : ∀ (k : D → Mem → Rs D) (m : Mem), K2 gSplit (.str (progT p)) (.str (Str.ofString "\n")) m k = k (.lst (p.map fun r => .str (rowT r))) m := fun k m => KO_of (by
    show (if ((Str.ofString "\n").length == 0) = false ∧ (progT p).length + 2 ≤ sizeLine then some (D.lst ((Txt.split (progT p) (Str.ofString "\n")).map D.str)) else none) = _
    rw [if_pos ⟨by decide +kernel, Nat.le_trans (by omega : (progT p).length + 2 ≤ 6000) (by decide)⟩, hsp, List.map_map]
    rfl) m k
  have hll : (p.map fun r => D.str (rowT r)).length = p.length := List.length_map _
  have hn62 : p.length < 4611686018427387904 := by omega
  rw [K_start (m_read _), m_read, f_read]
  simp_arith [↓hspl, ↓hll, hll, ↓K_sFor, ↓kRng1_nat]
  refine W_rng (fun i ρ m2 => i ≤ p.length ∧ m.n < m2.n ∧ m2.get m.n = some (.lst ((p.take i).map Row.enc)) ∧ Keep m m2 ∧ ∃ a b, ρ = [some (.str (progT p)), some (.lst (p.map fun r => .str (rowT r))), some (.loc m.n), a, b]) ⟨Nat.zero_le _, Nat.lt_succ_self _, if_pos rfl, Keep.new _ _, _, _, rfl⟩ (fun i ρ m2 hi hI => ?_) fun ρ m2 hI => ?_
  · obtain ⟨_, cn, g1, kp, a, b, rfl⟩ := hI
    have hr := rowAt_of hi
    have hix : ∀ (k : D → Mem → Rs (Fl × Ev)) (m : Mem), KIx (p.map fun r => .str (rowT r)) (0 + (i : Nat)) m k = k (.str (rowT (rowAt p i))) m := fun k m => by
      rw [Int.zero_add]
      exact KIx_of (by rw [List.getElem?_map, hr]; rfl) m k
    have hro := row_of_run (hN _ (List.mem_of_getElem? hr)) m2
    have hge : decide ((200 : Int) ≤ 0 + (i : Nat)) = false := decide_eq_false (by omega)
    have hge2 : decide ((0 + (i : Nat) : Int) ≥ 200) = false := decide_eq_false (by omega)
    have hisn : ∀ (k : D → Mem → Rs (Fl × Ev)) (m : Mem), K2 gIsN (rowAt p i).enc .non m k = k (.bl false) m := fun k m => rfl
    have hisn2 : ∀ (k : D → Mem → Rs Bool) (m : Mem), K2 gIsN (rowAt p i).enc .non m k = k (.bl false) m := fun k m => rfl
    have hsl : ((p.take i).map Row.enc).length < sizeLine := by
      rw [List.length_map, List.length_take]
      exact Nat.lt_of_le_of_lt (show min i p.length ≤ 200 by omega) (by decide)
    simp_arith [↓K_bodyG_nm, ↓hix, ↓hll, hll, ↓KF_ok hro, ↓hisn, ↓hisn2, hge, hge2, ↓KG_of g1]
    refine .ok ⟨hi, cn, ?_, keep_put kp cn, _, _, rfl⟩
    have e : p.take (i + 1) = p.take i ++ [rowAt p i] := by rw [List.take_add_one, hr]; rfl
    rw [e, List.map_append]
    exact if_pos rfl
  · obtain ⟨_, cn, g1, kp, a, b, rfl⟩ := hI
    rw [List.take_length] at g1
    simp_arith [↓KG_of g1]
    exact .ok ⟨rfl, kp⟩
end
end LB

set_option Elab.async false
set_option linter.all false
set_option autoImplicit false
set_option maxRecDepth 100000
set_option maxHeartbeats 2000000
/-! Plain: texts joined one by one. -/
namespace LB
open PySem L2 TL
noncomputable section
local macro_rules | `(tactic| simp_arith [$as,*]) => `(tactic| simp -implicitDefEqProofs (disch := first | assumption | decide | omega | (simp only [List.length_cons, List.length_nil, Mem.put_n, Mem.new_n, Mem.kill_n]; omega)) only [↓KO_some, ↓K_vr, ↓kVr_0, ↓kVr_s, ↓K_cn, ↓K_pure, ↓K_op2, ↓kOp2a_at, ↓kOp2b_at, ↓K_op1, ↓kOp1_at, ↓K_argN, ↓K_argC, ↓kArg1_at, ↓kArg2_at, ↓K_opN, ↓kOpN_at, ↓K_call, ↓kCall_1, ↓kCall_2, ↓kCall_3, ↓kCall_4, ↓kCall_5, ↓K_tpl, ↓K_lsl, ↓K_lsm, ↓K_dctE, ↓kTpl_0, ↓kTpl_1, ↓kTpl_2, ↓kTpl_3, ↓kTpl_4, ↓kTpl_5, ↓kLsl_0, ↓kLsl_1, ↓kLsl_2, ↓kLsl_3, ↓kLsl_4, ↓kLsm_0, ↓K_tV, ↓kTV_at, ↓K_tAnd, ↓kTAnd_t, ↓kTAnd_f, ↓K_tOr, ↓kTOr_t, ↓kTOr_f, ↓K_tNot, ↓kTNot_t, ↓kTNot_f, ↓kTNot_at, ↓K_tYes, ↓K_vAnd, ↓kVAnd_t, ↓kVAnd_f, ↓K_vOr, ↓kVOr_t, ↓kVOr_f, ↓K_vNot, ↓kVNot_at, ↓K_ifE, ↓kIfE_t, ↓kIfE_f, ↓K_chn, ↓kChn0_at, ↓kChn1_at, ↓kChn2_t, ↓kChn2_f, ↓K_soN, ↓K_soS, ↓kSoS_at, ↓K_slc, ↓kSlc0_at, ↓kSlc1_at, ↓kSlc2_at, ↓KSl_tup, ↓KSl_lst, ↓K_sNext, ↓K_sSeq, ↓kSeq_nx, ↓kSeq_rt, ↓K_sRet, ↓kRet_at, ↓K_sRetN, ↓K_sExp, ↓kExp_at, ↓K_sIf, ↓kIf_t, ↓kIf_f, ↓kSet_0, ↓kSet_s, ↓kUn_c, ↓kUn_n, ↓K_sAsg, ↓kAsg_nm, ↓kAsg_tp, ↓kNms_c, ↓kNmsC_at, ↓kNms_n, ↓K_sPar, ↓kPar1_at, ↓kPar2_at, ↓K_run, ↓kRun_rt, ↓kRun_nx, ↓K2_add_i, ↓K2_sub_i, ↓K2_mul_i, ↓K2_mod_i, ↓K2_fdiv_i, ↓K2_lt_i, ↓K2_le_i, ↓K2_gt_i, ↓K2_ge_i, ↓K2_eq_i, ↓K2_ne_i, ↓K2_eq_st, ↓K2_eq_sf, ↓K2_ne_st, ↓K2_ne_sf, ↓K2_eq_b, ↓K2_add_t, ↓K2_add_l, ↓K1_neg_i, ↓K2_isN_n, ↓K2_isN_i, ↓K2_isN_s, ↓K2_isN_t, ↓K2_isN_l, ↓K2_isN_c, ↓K2_notN_n, ↓K2_notN_i, ↓K2_notN_s, ↓K2_notN_t, ↓K2_notN_l, ↓K2_notN_c, ↓K2_ix_t, ↓K2_ix_l, ↓KIx_0, ↓KIx_1, ↓KIx_2, ↓KIx_3, ↓KIx_4, ↓KIx_m1a, ↓KIx_m1b, ↓KIx_m1c, ↓KIx_m1d, ↓KN_len_t, ↓KN_len_l, ↓KN_max2, ↓KN_min2, ↓KN_int_i, ↓KN_int_t, ↓KN_int_f, ↓KN_tuple_l, ↓KN_tuple_t, ↓KN_maxl, ↓KN_suml, ↓K1_isi_n, ↓K1_isi_b, ↓K1_isi_i, ↓K1_isi_s, ↓K1_isi_t, ↓K1_isi_l, ↓KG_put_eq, ↓KG_put_ne, ↓KG_new_eq, ↓KG_new_ne, ↓KG_kill_ne, ↓K2_ix_c, ↓kIxL_at, ↓KN_len_c, ↓kLenL_l, ↓kLenL_d, ↓KN_tuple_c, ↓kTupL_at, ↓KN_max_c, ↓kMaxL_at, ↓KSl_c, ↓kSlL_at, ↓K_appE, ↓kApp1_at, ↓kApp1b_at, ↓kApp2_at, ↓kApp3_at, ↓K_sLput, ↓kPut1_at, ↓kPut2_at, ↓kPut3_at, ↓kPut4_at, ↓K2_dget_i, ↓K2_dget_s, ↓kDgD_at, ↓KVk_eq, ↓KVk_ne, ↓KVd_eq, ↓KVd_ne, ↓KVd_n, ↓K_dget2, ↓kDg1_at, ↓kDg1b_at, ↓kDg2_at, ↓kDg3_at, ↓kDg4_i, ↓kDg4_s, ↓K_sDput, ↓kDp1_at, ↓kDp2_at, ↓kDp3_i, ↓kDp3_s, ↓kDp4_at, ↓K1_fld, ↓kFldO_at, ↓KFl_eq, ↓KFl_ne, ↓K_sFput, ↓kFp1_at, ↓kFp2_at, ↓kFp3_at, ↓kPf_n, ↓kPf_eq, ↓kPu_c, ↓kPu_n, ↓kPf_ne, ↓K_callM, ↓kMt1_at, ↓kMt2_at, ↓kNo_n, ↓kNo_c, ↓kMt3_0, ↓kMt3_1, ↓kMt3_2, ↓kMt3_3, ↓kMt3_4, ↓K_mkE, ↓kMk_1, ↓kMk_2, ↓kMk_3, ↓kMk2_at, ↓K_sFor, ↓kFor_at, ↓K_itRng1, ↓kRng1_nat, ↓K_itRng2, ↓kRng2_at, ↓K_itSeq, ↓kSeqI_t, ↓kSeqI_l, ↓kSeqI_c, ↓kSeqL_at, ↓K_bodyG_nm, ↓K_bodyG_tp, ↓K_sWhile, ↓kComp_at, ↓K_comp, ↓K_compM, ↓kLst_at, ↓kLstM_at, ↓kEx_at, ↓K_exG_nm, ↓K_exG_tp, ↓kAlc_at, ↓K_opNM, ↓kOpNM_at, ↓KN_list_l2, ↓KN_list_t2, ↓KN_list_c, ↓kListL_at, ↓K_op2M, ↓kOp2Ma_at, ↓kOp2Mb_at, ↓K2_rep1, ↓K_prE_n, ↓K_prE_c, ↓kPr1_at, ↓kPr2_at, ↓kPr3_at, ↓K_dspE, ↓kDsp_s1, ↓kDsp_s2, ↓kDsp_s3, ↓kDsp_s4, ↓K_frz, ↓kFrz_c, ↓kFrz_l, ↓kFrz_t, ↓kFrz_n, ↓kFrzL_at, ↓K_extE, ↓kExt1_at, ↓kExt1b_at, ↓kExt2_at, ↓kExt3_at, ↓K_mt0E, ↓kMt0_at, ↓kMt0L_clear, ↓kMt0L_rev, ↓K2_in_t, ↓K2_in_f, ↓K2_notIn_t, ↓K2_notIn_f, ↓K_itZp, ↓kZp1_at, ↓K_itEn, ↓kEnI_t, ↓kEnI_l, ↓K2_din_i, ↓kDinD_at, ↓KR_put_0, ↓KR_put_1, ↓KR_put_2, ↓KR_put_l, ↓KR_put_into, ↓KR_put_end, ↓KR_put_looked, ↓KR_put_cut, ↓KR_move_0, ↓KR_move_1, ↓KR_move_2, ↓KR_move_l, ↓KR_move_into, ↓KR_move_end, ↓KR_move_looked, ↓KR_move_cut, ↓KR_add_0, ↓KR_add_1, ↓KR_add_2, ↓KR_add_3, ↓KR_add_l, ↓KR_add_into, ↓KR_add_end, ↓KR_add_looked, ↓KR_add_cut, ↓KR_take_0, ↓KR_take_1, ↓KR_take_2, ↓KR_take_3, ↓KR_take_l, ↓KR_take_into, ↓KR_take_end, ↓KR_take_looked, ↓KR_take_cut, ↓KR_times_0, ↓KR_times_1, ↓KR_times_2, ↓KR_times_3, ↓KR_times_l, ↓KR_times_into, ↓KR_times_end, ↓KR_times_looked, ↓KR_times_cut, ↓KR_get_0, ↓KR_get_1, ↓KR_get_2, ↓KR_get_l, ↓KR_get_into, ↓KR_get_end, ↓KR_get_looked, ↓KR_get_cut, ↓KR_set_0, ↓KR_set_1, ↓KR_set_2, ↓KR_set_l, ↓KR_set_into, ↓KR_set_end, ↓KR_set_looked, ↓KR_set_cut, ↓KR_say_0, ↓KR_say_1, ↓KR_say_l, ↓KR_say_into, ↓KR_say_end, ↓KR_say_looked, ↓KR_say_cut, ↓KR_rest_0, ↓KR_rest_l, ↓KR_rest_into, ↓KR_rest_end, ↓KR_rest_looked, ↓KR_rest_cut, ↓KR_go_0, ↓KR_go_1, ↓KR_go_l, ↓KR_go_into, ↓KR_go_end, ↓KR_go_looked, ↓KR_go_cut, ↓KR_ifr_0, ↓KR_ifr_1, ↓KR_ifr_2, ↓KR_ifr_l, ↓KR_ifr_into, ↓KR_ifr_end, ↓KR_ifr_looked, ↓KR_ifr_cut, ↓KR_stop_0, ↓KR_stop_l, ↓KR_stop_into, ↓KR_stop_end, ↓KR_stop_looked, ↓KR_stop_cut, ↓KR_late, ↓KR_far, ↓KR_num, ↓KR_mill_0, ↓KR_mill_1, ↓KR_mill_2, ↓KR_mill_3, ↓KR_pi_len, ↓KA_stop, ↓KA_goes, ↓KA_ends, ↓K_mt1E, ↓kM1_l, ↓kM1_s, ↓kM1b_at, ↓K1_isi_c, ↓kIsiL_at, ↓KN_minl, start0, List.map_cons, List.map_nil, List.length_cons, List.length_nil, List.replicate_succ, List.replicate_zero, Nat.reduceSub, Nat.reduceAdd, wipeE, List.set_cons_zero, List.set_cons_succ, List.cons_append, List.nil_append, $as,*])
theorem K2_add_s {β : Type} (x y : Str) (m : Mem) (k : D → Mem → Rs β) (h : x.length + y.length ≤ sizeLine) : K2 gAdd (.str x) (.str y) m k = k (.str (x ++ y)) m := KO_of (if_pos h) m k
theorem joinL_snoc {S z : List Nat} : ∀ ps : List (List Nat), ps ≠ [] → joinL S (ps ++ [z]) = joinL S ps ++ (S ++ z)
  | [], h => absurd rfl h
  | [p], _ => rfl
  | p :: q :: r, _ => by
    show p ++ (S ++ joinL S (q :: r ++ [z])) = (p ++ (S ++ joinL S (q :: r))) ++ (S ++ z)
    rw [joinL_snoc (q :: r) (List.cons_ne_nil _ _), List.append_assoc, List.append_assoc]
theorem join_snoc {y z : Str} {ps : List Str} (h : ps ≠ []) : Txt.join y (ps ++ [z]) = Txt.join y ps ++ y ++ z := by
  refine ext_tl ?_
  rw [tl_append, tl_append, join_eq, join_eq, tl_join, tl_join, List.map_append]
  show joinL (tl y) (ps.map tl ++ [tl z]) = _
  rw [joinL_snoc _ (fun e => h (List.map_eq_nil_iff.mp e)), List.append_assoc]
theorem join_one {y z : Str} : Txt.join y [z] = z := by
  rw [join_eq]
  rfl
theorem nil_app (x : Str) : Str.ofString "" ++ x = x := by
  refine ext_tl ?_
  rw [tl_append]
  rfl
/-- a row's text, so many parts of it -/
def rowK (r : Row) (j : Nat) : Str := Txt.join (Str.ofString " ") (r.word :: (r.parts.take j).map numT)
theorem rowK_0 (r : Row) : rowK r 0 = r.word := join_one
theorem rowK_all (r : Row) : rowK r r.parts.length = rowT r := by
  unfold rowK rowT wordsT
  rw [List.take_length]
theorem rowK_s {r : Row} {j : Nat} {i : Int} (h : r.parts[j]? = some i) : rowK r (j + 1) = rowK r j ++ Str.ofString " " ++ numT i := by
  unfold rowK
  rw [List.take_add_one, h, List.map_append, ← List.cons_append]
  exact join_snoc (List.cons_ne_nil _ _)
theorem progT_0 (p : List Row) : progT (p.take 0) = Str.ofString "" := by
  unfold progT
  rw [join_eq]
  rfl
theorem progT_1 {p : List Row} {r : Row} (h : p[0]? = some r) : progT (p.take 1) = rowT r := by
  unfold progT
  rw [List.take_add_one, h]
  exact join_one
theorem progT_s {p : List Row} {i : Nat} {r : Row} (h : p[i]? = some r) (hi : 0 < i) : progT (p.take (i + 1)) = progT (p.take i) ++ Str.ofString "\n" ++ rowT r := by
  unfold progT
  rw [List.take_add_one, h, List.map_append]
  have hl := (List.getElem?_eq_some_iff.mp h).1
  refine join_snoc fun e => ?_
  have z := congrArg List.length e
  rw [List.length_map, List.length_take, List.length_nil] at z
  omega
theorem word_pos (r : Row) : r.word.length ≠ 0 := by
  cases r <;> (unfold Row.word; dsimp only; decide +kernel)
end
end LB

set_option Elab.async false
set_option linter.all false
set_option autoImplicit false
set_option maxRecDepth 100000
set_option maxHeartbeats 2000000
/-! Pure: the law of texts. -/
namespace LB
open PySem L2 TL
noncomputable section
local macro_rules | `(tactic| simp_arith [$as,*]) => `(tactic| simp -implicitDefEqProofs (disch := first | assumption | decide | omega | (simp only [List.length_cons, List.length_nil, Mem.put_n, Mem.new_n, Mem.kill_n]; omega)) only [↓KO_some, ↓K_vr, ↓kVr_0, ↓kVr_s, ↓K_cn, ↓K_pure, ↓K_op2, ↓kOp2a_at, ↓kOp2b_at, ↓K_op1, ↓kOp1_at, ↓K_argN, ↓K_argC, ↓kArg1_at, ↓kArg2_at, ↓K_opN, ↓kOpN_at, ↓K_call, ↓kCall_1, ↓kCall_2, ↓kCall_3, ↓kCall_4, ↓kCall_5, ↓K_tpl, ↓K_lsl, ↓K_lsm, ↓K_dctE, ↓kTpl_0, ↓kTpl_1, ↓kTpl_2, ↓kTpl_3, ↓kTpl_4, ↓kTpl_5, ↓kLsl_0, ↓kLsl_1, ↓kLsl_2, ↓kLsl_3, ↓kLsl_4, ↓kLsm_0, ↓K_tV, ↓kTV_at, ↓K_tAnd, ↓kTAnd_t, ↓kTAnd_f, ↓K_tOr, ↓kTOr_t, ↓kTOr_f, ↓K_tNot, ↓kTNot_t, ↓kTNot_f, ↓kTNot_at, ↓K_tYes, ↓K_vAnd, ↓kVAnd_t, ↓kVAnd_f, ↓K_vOr, ↓kVOr_t, ↓kVOr_f, ↓K_vNot, ↓kVNot_at, ↓K_ifE, ↓kIfE_t, ↓kIfE_f, ↓K_chn, ↓kChn0_at, ↓kChn1_at, ↓kChn2_t, ↓kChn2_f, ↓K_soN, ↓K_soS, ↓kSoS_at, ↓K_slc, ↓kSlc0_at, ↓kSlc1_at, ↓kSlc2_at, ↓KSl_tup, ↓KSl_lst, ↓K_sNext, ↓K_sSeq, ↓kSeq_nx, ↓kSeq_rt, ↓K_sRet, ↓kRet_at, ↓K_sRetN, ↓K_sExp, ↓kExp_at, ↓K_sIf, ↓kIf_t, ↓kIf_f, ↓kSet_0, ↓kSet_s, ↓kUn_c, ↓kUn_n, ↓K_sAsg, ↓kAsg_nm, ↓kAsg_tp, ↓kNms_c, ↓kNmsC_at, ↓kNms_n, ↓K_sPar, ↓kPar1_at, ↓kPar2_at, ↓K_run, ↓kRun_rt, ↓kRun_nx, ↓K2_add_i, ↓K2_sub_i, ↓K2_mul_i, ↓K2_mod_i, ↓K2_fdiv_i, ↓K2_lt_i, ↓K2_le_i, ↓K2_gt_i, ↓K2_ge_i, ↓K2_eq_i, ↓K2_ne_i, ↓K2_eq_st, ↓K2_eq_sf, ↓K2_ne_st, ↓K2_ne_sf, ↓K2_eq_b, ↓K2_add_t, ↓K2_add_l, ↓K1_neg_i, ↓K2_isN_n, ↓K2_isN_i, ↓K2_isN_s, ↓K2_isN_t, ↓K2_isN_l, ↓K2_isN_c, ↓K2_notN_n, ↓K2_notN_i, ↓K2_notN_s, ↓K2_notN_t, ↓K2_notN_l, ↓K2_notN_c, ↓K2_ix_t, ↓K2_ix_l, ↓KIx_0, ↓KIx_1, ↓KIx_2, ↓KIx_3, ↓KIx_4, ↓KIx_m1a, ↓KIx_m1b, ↓KIx_m1c, ↓KIx_m1d, ↓KN_len_t, ↓KN_len_l, ↓KN_max2, ↓KN_min2, ↓KN_int_i, ↓KN_int_t, ↓KN_int_f, ↓KN_tuple_l, ↓KN_tuple_t, ↓KN_maxl, ↓KN_suml, ↓K1_isi_n, ↓K1_isi_b, ↓K1_isi_i, ↓K1_isi_s, ↓K1_isi_t, ↓K1_isi_l, ↓KG_put_eq, ↓KG_put_ne, ↓KG_new_eq, ↓KG_new_ne, ↓KG_kill_ne, ↓K2_ix_c, ↓kIxL_at, ↓KN_len_c, ↓kLenL_l, ↓kLenL_d, ↓KN_tuple_c, ↓kTupL_at, ↓KN_max_c, ↓kMaxL_at, ↓KSl_c, ↓kSlL_at, ↓K_appE, ↓kApp1_at, ↓kApp1b_at, ↓kApp2_at, ↓kApp3_at, ↓K_sLput, ↓kPut1_at, ↓kPut2_at, ↓kPut3_at, ↓kPut4_at, ↓K2_dget_i, ↓K2_dget_s, ↓kDgD_at, ↓KVk_eq, ↓KVk_ne, ↓KVd_eq, ↓KVd_ne, ↓KVd_n, ↓K_dget2, ↓kDg1_at, ↓kDg1b_at, ↓kDg2_at, ↓kDg3_at, ↓kDg4_i, ↓kDg4_s, ↓K_sDput, ↓kDp1_at, ↓kDp2_at, ↓kDp3_i, ↓kDp3_s, ↓kDp4_at, ↓K1_fld, ↓kFldO_at, ↓KFl_eq, ↓KFl_ne, ↓K_sFput, ↓kFp1_at, ↓kFp2_at, ↓kFp3_at, ↓kPf_n, ↓kPf_eq, ↓kPu_c, ↓kPu_n, ↓kPf_ne, ↓K_callM, ↓kMt1_at, ↓kMt2_at, ↓kNo_n, ↓kNo_c, ↓kMt3_0, ↓kMt3_1, ↓kMt3_2, ↓kMt3_3, ↓kMt3_4, ↓K_mkE, ↓kMk_1, ↓kMk_2, ↓kMk_3, ↓kMk2_at, ↓K_sFor, ↓kFor_at, ↓K_itRng1, ↓kRng1_nat, ↓K_itRng2, ↓kRng2_at, ↓K_itSeq, ↓kSeqI_t, ↓kSeqI_l, ↓kSeqI_c, ↓kSeqL_at, ↓K_bodyG_nm, ↓K_bodyG_tp, ↓K_sWhile, ↓kComp_at, ↓K_comp, ↓K_compM, ↓kLst_at, ↓kLstM_at, ↓kEx_at, ↓K_exG_nm, ↓K_exG_tp, ↓kAlc_at, ↓K_opNM, ↓kOpNM_at, ↓KN_list_l2, ↓KN_list_t2, ↓KN_list_c, ↓kListL_at, ↓K_op2M, ↓kOp2Ma_at, ↓kOp2Mb_at, ↓K2_rep1, ↓K_prE_n, ↓K_prE_c, ↓kPr1_at, ↓kPr2_at, ↓kPr3_at, ↓K_dspE, ↓kDsp_s1, ↓kDsp_s2, ↓kDsp_s3, ↓kDsp_s4, ↓K_frz, ↓kFrz_c, ↓kFrz_l, ↓kFrz_t, ↓kFrz_n, ↓kFrzL_at, ↓K_extE, ↓kExt1_at, ↓kExt1b_at, ↓kExt2_at, ↓kExt3_at, ↓K_mt0E, ↓kMt0_at, ↓kMt0L_clear, ↓kMt0L_rev, ↓K2_in_t, ↓K2_in_f, ↓K2_notIn_t, ↓K2_notIn_f, ↓K_itZp, ↓kZp1_at, ↓K_itEn, ↓kEnI_t, ↓kEnI_l, ↓K2_din_i, ↓kDinD_at, ↓KR_put_0, ↓KR_put_1, ↓KR_put_2, ↓KR_put_l, ↓KR_put_into, ↓KR_put_end, ↓KR_put_looked, ↓KR_put_cut, ↓KR_move_0, ↓KR_move_1, ↓KR_move_2, ↓KR_move_l, ↓KR_move_into, ↓KR_move_end, ↓KR_move_looked, ↓KR_move_cut, ↓KR_add_0, ↓KR_add_1, ↓KR_add_2, ↓KR_add_3, ↓KR_add_l, ↓KR_add_into, ↓KR_add_end, ↓KR_add_looked, ↓KR_add_cut, ↓KR_take_0, ↓KR_take_1, ↓KR_take_2, ↓KR_take_3, ↓KR_take_l, ↓KR_take_into, ↓KR_take_end, ↓KR_take_looked, ↓KR_take_cut, ↓KR_times_0, ↓KR_times_1, ↓KR_times_2, ↓KR_times_3, ↓KR_times_l, ↓KR_times_into, ↓KR_times_end, ↓KR_times_looked, ↓KR_times_cut, ↓KR_get_0, ↓KR_get_1, ↓KR_get_2, ↓KR_get_l, ↓KR_get_into, ↓KR_get_end, ↓KR_get_looked, ↓KR_get_cut, ↓KR_set_0, ↓KR_set_1, ↓KR_set_2, ↓KR_set_l, ↓KR_set_into, ↓KR_set_end, ↓KR_set_looked, ↓KR_set_cut, ↓KR_say_0, ↓KR_say_1, ↓KR_say_l, ↓KR_say_into, ↓KR_say_end, ↓KR_say_looked, ↓KR_say_cut, ↓KR_rest_0, ↓KR_rest_l, ↓KR_rest_into, ↓KR_rest_end, ↓KR_rest_looked, ↓KR_rest_cut, ↓KR_go_0, ↓KR_go_1, ↓KR_go_l, ↓KR_go_into, ↓KR_go_end, ↓KR_go_looked, ↓KR_go_cut, ↓KR_ifr_0, ↓KR_ifr_1, ↓KR_ifr_2, ↓KR_ifr_l, ↓KR_ifr_into, ↓KR_ifr_end, ↓KR_ifr_looked, ↓KR_ifr_cut, ↓KR_stop_0, ↓KR_stop_l, ↓KR_stop_into, ↓KR_stop_end, ↓KR_stop_looked, ↓KR_stop_cut, ↓KR_late, ↓KR_far, ↓KR_num, ↓KR_mill_0, ↓KR_mill_1, ↓KR_mill_2, ↓KR_mill_3, ↓KR_pi_len, ↓KA_stop, ↓KA_goes, ↓KA_ends, ↓K_mt1E, ↓kM1_l, ↓kM1_s, ↓kM1b_at, ↓K1_isi_c, ↓kIsiL_at, ↓KN_minl, start0, List.map_cons, List.map_nil, List.length_cons, List.length_nil, List.replicate_succ, List.replicate_zero, Nat.reduceSub, Nat.reduceAdd, wipeE, List.set_cons_zero, List.set_cons_succ, List.cons_append, List.nil_append, $as,*])
theorem joinL_ge {S : List Nat} : ∀ (ps : List (List Nat)) (p : List Nat), p ∈ ps → p.length ≤ (joinL S ps).length
  | [], _, h => by cases h
  | [q], p, h => by
    rw [List.mem_singleton.mp h]
    exact Nat.le_refl _
  | q :: r :: t, p, h => by
    show p.length ≤ (q ++ (S ++ joinL S (r :: t))).length
    rw [List.length_append, List.length_append]
    rcases List.mem_cons.mp h with e | h
    · rw [e]
      omega
    · have := joinL_ge (S := S) (r :: t) p h
      omega
theorem join_ge {y z : Str} {ps : List Str} (h : z ∈ ps) : z.length ≤ (Txt.join y ps).length := by
  rw [join_eq, len_tl, len_tl, tl_join]
  exact joinL_ge _ _ (List.mem_map_of_mem h)
theorem progT_ne {p : List Row} {i : Nat} (h0 : 0 < i) (h1 : i ≤ p.length) : progT (p.take i) ≠ Str.ofString "" := fun e => by
  have hr := rowAt_of (p := p) (i := 0) (by omega)
  have hm : rowAt p 0 ∈ p.take i := List.mem_of_getElem? (i := 0) (by rw [List.getElem?_take, if_pos h0, hr])
  have a1 : (rowAt p 0).word.length ≤ (rowT (rowAt p 0)).length := join_ge List.mem_cons_self
  have a2 : (rowT (rowAt p 0)).length ≤ (progT (p.take i)).length := join_ge (List.mem_map_of_mem hm)
  have a3 := word_pos (rowAt p 0)
  rw [e] at a2
  have a4 : (Str.ofString "").length = 0 := by decide +kernel
  omega
theorem progT_le {p : List Row} (hN : ∀ r, r ∈ p → RowN p.length r) (h200 : p.length ≤ 200) (i : Nat) : (progT (p.take i)).length ≤ 5000 := by
  have y2 : (Str.ofString "\n").length = 1 := by decide +kernel
  have z := join_le (y := Str.ofString "\n") (ps := (p.take i).map rowT) (b := 24) fun y hy => by
    obtain ⟨r, hr, rfl⟩ := List.mem_map.mp hy
    exact rowT_len (hN r (List.mem_of_mem_take hr)).nums
  rw [y2, List.length_map, List.length_take] at z
  exact Nat.le_trans z (by omega)
theorem al_prog {p : List Row} (h : p.length ≤ 200) (m : Mem) : Al 6 m (encP p) (encP p) := by
  refine Al_tup rfl (by rw [List.length_map]; exact Nat.le_trans h (by decide)) fun a x y hx hy => ?_
  have e : x = y := Option.some.inj (hx.symm.trans hy)
  subst e
  obtain ⟨r, hr, rfl⟩ := List.mem_map.mp (List.mem_of_getElem? hx)
  have hpl : r.parts.length ≤ 3 := by cases r <;> simp [Row.parts]
  refine Al_tup rfl (by rw [List.length_cons, List.length_map]; exact Nat.le_trans (show r.parts.length + 1 ≤ 4 by omega) (by decide)) fun a x y hx hy => ?_
  have e : x = y := Option.some.inj (hx.symm.trans hy)
  subst e
  rcases List.mem_cons.mp (List.mem_of_getElem? hx) with e | hm
  · rw [e]
    exact Al_str _
  · obtain ⟨v, _, rfl⟩ := List.mem_map.mp hm
    exact Al_int _
theorem len_app (x y : Str) : (x ++ y).length = x.length + y.length := by rw [len_tl, tl_append, List.length_append, ← len_tl, ← len_tl]
theorem app_assoc (x y z : Str) : x ++ y ++ z = x ++ (y ++ z) := by
  refine ext_tl ?_
  rw [tl_append, tl_append, tl_append, tl_append, List.append_assoc]
theorem rowK_len {r : Row} (h : ∀ i, i ∈ r.parts → 0 ≤ i ∧ i < 1000) (j : Nat) : (rowK r j).length ≤ 24 := by
  have hp : r.parts.length ≤ 3 := by cases r <;> simp [Row.parts]
  have z := join_le (y := Str.ofString " ") (b := 5) (ps := r.word :: (r.parts.take j).map numT) fun p hp => by
    rcases List.mem_cons.mp hp with e | hp
    · rw [e]
      exact word_len r
    · obtain ⟨i, hi, rfl⟩ := List.mem_map.mp hp
      have := (numT_ok (h i (List.mem_of_mem_take hi)).1 (h i (List.mem_of_mem_take hi)).2).most
      rw [len_tl]
      omega
  have y1 : (Str.ofString " ").length = 1 := by decide +kernel
  rw [y1, List.length_cons, List.length_map, List.length_take] at z
  exact Nat.le_trans z (by omega)
def f_law : SS := sSeq (sAsg (callN 2 m_l_mix (argC (vr 0) (argC (cn (.int 71)) (argN)))) (gNm 1)) (sSeq (sFor (itRng1 (argC (cn (.int 6)) (argN))) (gNm 2) (sSeq (sAsg (callN 2 m_l_plain (argC (vr 1) (argC (op2 gIx (lsl (argC (cn (.int 9)) (argC (cn (.int 40)) (argC (cn (.int 200)) (argN))))) (callN 2 m_l_next (argC (vr 1) (argC (cn (.int 3)) (argN))))) (argN)))) (gNm 3)) (sSeq (sAsg (cn (.str (Str.ofString ""))) (gNm 4)) (sSeq (sFor (itSeq (vr 3)) (gNm 5) (sSeq (sAsg (op2 gAdd (op2 gAdd (vr 4) (op2 gIx (lsl (argC (cn (.str (Str.ofString ""))) (argC (cn (.str (Str.ofString "\n"))) (argN)))) (opN gInt (argC (op2 gNe (vr 4) (cn (.str (Str.ofString "")))) (argN))))) (op2 gIx (vr 5) (cn (.int 0)))) (gNm 4)) (sFor (itSeq (slc (vr 5) (soS (cn (.int 1))) (soN))) (gNm 6) (sAsg (op2 gAdd (op2 gAdd (vr 4) (cn (.str (Str.ofString " ")))) (opN gStr (argC (vr 6) (argN)))) (gNm 4))))) (sIf (LB.tOr (LB.tNot (tV (callN 2 (m_l_alike 6) (argC (callN 1 m_written (argC (vr 3) (argN))) (argC (vr 4) (argN)))))) (LB.tNot (tV (callN 2 (m_l_alike 6) (argC (callN 1 m_read (argC (vr 4) (argN))) (argC (vr 3) (argN))))))) (sRet (cn (.bl false))) (sNext)))))) (sRet (cn (.bl true))))
theorem law_true (ns : List Int) (hl : ns.length ≤ 63) : (run 7 f_law [.scr ns] ⟨fun _ => none, 0⟩).wp (fun d _ => d = .bl true) fun _ _ => False := by
  refine WP.h ?_
  rw [K_start (run 7 f_law _), f_law]
  simp_arith []
  refine WP_F (mix_wp (by decide) (by omega)) fun d m z => ?_
  obtain ⟨k, c, rfl, d1, _⟩ := z
  have s6 : small62 6 = true := rfl
  simp_arith [↓K_sFor, ↓kRng1_at]
  refine W_rng (fun i ρ m2 => Drw k c m2 ∧ ∃ a2 a3 a4 a5 a6, ρ = [some (.scr ns), some (.loc k), a2, a3, a4, a5, a6]) ⟨d1, _, _, _, _, _, rfl⟩ (fun i ρ m2 hi hI => ?_) fun ρ m2 hI => ?_
  · obtain ⟨d2, a2, a3, a4, a5, a6, rfl⟩ := hI
    simp_arith [↓K_bodyG_nm]
    refine WP_F (next_wp d2 (by decide) (by decide)) fun d m3 q => ?_
    obtain ⟨v, rfl, hv0, hv1, d3, _, _⟩ := q
    obtain ⟨w, hw, e1⟩ := KIx_nats [9, 40, 200] (v := v) hv0 hv1
    have e2 : ∀ (m : Mem) (kk : D → Mem → Rs (Fl × Ev)), KIx [.int 9, .int 40, .int 200] v m kk = kk (.int (w : Nat)) m := fun m kk => e1 m kk
    have hw2 : 0 < w ∧ w ≤ 200 := by simp at hw; omega
    simp_arith [↓e2]
    refine WP_F (plain_wp d3 hw2.1 (by omega)) fun d m4 q => ?_
    obtain ⟨p, rfl, hp, d4, _⟩ := q
    have hpo : ProgOk p := ⟨hp.one, Nat.le_trans hp.most hw2.2, hp.rows⟩
    have hN : ∀ r, r ∈ p → RowN p.length r := fun r hr => rowN_of (hpo.rows r hr) hpo.most
    have hsq : ∀ (k : Wk × Nat → Mem → Rs (Fl × Ev)) (m : Mem), kSeqI k (encP p) m = k (wkSeq (encP p), (p.map Row.enc).length) m := fun k m => rfl
    simp_arith [↓K_sFor, ↓hsq]
    refine W_seq (ys := p) (enc := Row.enc) (fun j ρ m5 => m5 = m4 ∧ ∃ a5 a6, ρ = [some (.scr ns), some (.loc k), some (.int (0 + (i : Nat))), some (encP p), some (.str (progT (p.take j))), a5, a6]) (List.length_map _) (fun j ρ m5 _ => rfl) ⟨rfl, _, _, by rw [progT_0]⟩ (fun j r ρ m5 hr hJ => ?_) fun ρ m5 hJ => ?_
    · obtain ⟨rfl, a5, a6, rfl⟩ := hJ
      have hjl := (List.getElem?_eq_some_iff.mp hr).1
      have hrn := (hN r (List.mem_of_getElem? hr)).nums
      have hw5 := word_len r
      have hT := progT_le hN hpo.most j
      have y0 : (Str.ofString "").length = 0 := by decide +kernel
      have y2 : (Str.ofString "\n").length = 1 := by decide +kernel
      have y1 : (Str.ofString " ").length = 1 := by decide +kernel
      have l0 : (Str.ofString "").length + (Str.ofString "").length ≤ sizeLine := by rw [y0]; exact Nat.zero_le _
      have big : (6000 : Nat) ≤ sizeLine := by decide
      have hB : ∃ B : Str, B.length ≤ 5001 ∧ progT (p.take (j + 1)) = B ++ rowT r ∧ ∀ kk : D → Mem → Rs (Fl × Ev), K ((op2 gAdd (op2 gAdd (vr 4) (op2 gIx (lsl (argC (cn (.str (Str.ofString ""))) (argC (cn (.str (Str.ofString "\n"))) (argN)))) (opN gInt (argC (op2 gNe (vr 4) (cn (.str (Str.ofString "")))) (argN))))) (op2 gIx (vr 5) (cn (.int 0)))) [some (.scr ns), some (.loc k), some (.int (0 + (i : Nat))), some (encP p), some (.str (progT (p.take j))), some r.enc, a6]) m5 kk = kk (.str (B ++ r.word)) m5 := by
        by_cases hj0 : j = 0
        · subst hj0
          rw [progT_0]
          refine ⟨Str.ofString "" ++ Str.ofString "", by rw [nil_app, y0]; omega, by rw [progT_1 hr, nil_app, nil_app], fun kk => ?_⟩
          have l1 : (Str.ofString "" ++ Str.ofString "").length + r.word.length ≤ sizeLine := by rw [nil_app, y0]; omega
          have t1 : decide (Str.ofString "" = Str.ofString "") = true := decide_eq_true rfl
          simp_arith [↓K2_ne_s, t1, Bool.not_true, ↓K2_add_s, ↓KA_0]
        · have t1 : decide (progT (p.take j) = Str.ofString "") = false := decide_eq_false (progT_ne (by omega) (by omega))
          have l1 : (progT (p.take j)).length + (Str.ofString "\n").length ≤ sizeLine := by rw [y2]; omega
          have e1 : (progT (p.take j) ++ Str.ofString "\n").length = (progT (p.take j)).length + (Str.ofString "\n").length := by
            rw [len_tl, tl_append, List.length_append, ← len_tl, ← len_tl]
          refine ⟨progT (p.take j) ++ Str.ofString "\n", by rw [e1, y2]; omega, progT_s hr (by omega), fun kk => ?_⟩
          have l2 : (progT (p.take j) ++ Str.ofString "\n").length + r.word.length ≤ sizeLine := by rw [e1, y2]; omega
          simp_arith [↓K2_ne_s, t1, Bool.not_false, ↓K2_add_s, ↓KA_0]
      obtain ⟨B, b1, b2, b3⟩ := hB
      have hsq2 : ∀ (k : Wk × Nat → Mem → Rs (Fl × Ev)) (m : Mem), kSeqI k (.tup (r.parts.map D.int)) m = k (wkSeq (.tup (r.parts.map D.int)), (r.parts.map D.int).length) m := fun k m => rfl
      simp_arith [↓K_bodyG_nm, ↓b3, ↓K_sFor, ↓cut_row, ↓hsq2]
      have hpl : r.parts.length ≤ 3 := by cases r <;> simp [Row.parts]
      refine W_seq (ys := r.parts) (enc := D.int) (fun jj ρ m6 => m6 = m5 ∧ ∃ a, ρ = [some (.scr ns), some (.loc k), some (.int (0 + (i : Nat))), some (encP p), some (.str (B ++ rowK r jj)), some r.enc, a]) (List.length_map _) (fun jj ρ m6 _ => rfl) ⟨rfl, _, by rw [rowK_0]⟩ (fun jj u ρ m6 hu hJ => ?_) fun ρ m6 hJ => ?_
      · obtain ⟨rfl, a, rfl⟩ := hJ
        have hui := hrn u (List.mem_of_getElem? hu)
        have hk := rowK_len hrn jj
        have hn3 := (numT_ok hui.1 hui.2).most
        have l1 : (B ++ rowK r jj).length + (Str.ofString " ").length ≤ sizeLine := by rw [len_app, y1]; omega
        have l2 : (B ++ rowK r jj ++ Str.ofString " ").length + (numT u).length ≤ sizeLine := by rw [len_app, len_app, y1, len_tl (numT u)]; omega
        simp_arith [↓K_bodyG_nm, ↓K2_add_s, ↓KN_str u (log_small hui.1 hui.2)]
        refine .ok ⟨rfl, some (.int u), ?_⟩
        rw [rowK_s hu, app_assoc (B ++ rowK r jj), app_assoc B, app_assoc (rowK r jj)]
      · obtain ⟨rfl, a, rfl⟩ := hJ
        refine .ok ⟨rfl, some r.enc, a, ?_⟩
        rw [rowK_all, b2]
    · obtain ⟨rfl, a5, a6, rfl⟩ := hJ
      rw [List.take_length]
      have w1 := written_run hpo m5
      simp_arith [↓KF_ok w1, ↓KF_ok (alike_ok 6 m5 _ _ (Al_str (progT p))), Bool.not_true]
      refine WP_F (read_run hpo m5) fun d m6 q => ?_
      obtain ⟨rfl, k6⟩ := q
      simp_arith [↓KF_ok (alike_ok 6 m6 _ _ (al_prog hpo.most m6)), Bool.not_true]
      exact .ok ⟨d4.keep k6, _, _, _, _, _, rfl⟩
  · obtain ⟨d2, a2, a3, a4, a5, a6, rfl⟩ := hI
    simp_arith []
    exact .ok rfl
end
end LB

set_option Elab.async false
set_option linter.all false
set_option maxRecDepth 100000
set_option maxHeartbeats 0
namespace LB
open PySem PySem.Spec PyProof.Rows L2
def top (i : Nat) : Stmt := PySem.Challenge.pw_lateboxes_k19_written_and_read.main.body.getD i (.Pass ⟨0, 0, 0, 0⟩)
abbrev s_l_alike : Stmt := top 22
abbrev N_l_alike : List Str := ["_law_found", "_law_due", "_law_k"]
theorem S_l_alike : FnScope N_l_alike ["_law_found", "_law_due"] (defScope s_l_alike) := ⟨rfl, rfl, rfl, by decide +kernel, rfl, by decide +kernel, by decide +kernel⟩
abbrev s_l_mix : Stmt := top 20
abbrev N_l_mix : List Str := ["_law_script", "_law_seed", "_law_mixed", "_law_cell"]
theorem S_l_mix : FnScope N_l_mix ["_law_script", "_law_seed"] (defScope s_l_mix) := ⟨rfl, rfl, rfl, by decide +kernel, rfl, by decide +kernel, by decide +kernel⟩
abbrev s_l_next : Stmt := top 21
abbrev N_l_next : List Str := ["_law_h", "_law_many", "_law_at", "_law_cell"]
theorem S_l_next : FnScope N_l_next ["_law_h", "_law_many"] (defScope s_l_next) := ⟨rfl, rfl, rfl, by decide +kernel, rfl, by decide +kernel, by decide +kernel⟩
abbrev s_l_boxes : Stmt := top 25
abbrev N_l_boxes : List Str := ["_law_h"]
theorem S_l_boxes : FnScope N_l_boxes ["_law_h"] (defScope s_l_boxes) := ⟨rfl, rfl, rfl, by decide +kernel, rfl, by decide +kernel, by decide +kernel⟩
abbrev s_l_number : Stmt := top 24
abbrev N_l_number : List Str := ["_law_h"]
theorem S_l_number : FnScope N_l_number ["_law_h"] (defScope s_l_number) := ⟨rfl, rfl, rfl, by decide +kernel, rfl, by decide +kernel, by decide +kernel⟩
abbrev s_l_deed : Stmt := top 26
abbrev N_l_deed : List Str := ["_law_h", "_law_e", "_law_words", "_law_word", "_law_b", "_law_c", "_law_d", "_law_k"]
theorem S_l_deed : FnScope N_l_deed ["_law_h", "_law_e"] (defScope s_l_deed) := ⟨rfl, rfl, rfl, by decide +kernel, rfl, by decide +kernel, by decide +kernel⟩
abbrev s_l_jump : Stmt := top 27
abbrev N_l_jump : List Str := ["_law_h", "_law_e", "_law_at", "_law_rows", "_law_goal", "_law_box"]
theorem S_l_jump : FnScope N_l_jump ["_law_h", "_law_e", "_law_at", "_law_rows"] (defScope s_l_jump) := ⟨rfl, rfl, rfl, by decide +kernel, rfl, by decide +kernel, by decide +kernel⟩
abbrev s_l_plain : Stmt := top 28
abbrev N_l_plain : List Str := ["_law_h", "_law_most", "_law_e", "_law_rows", "_law_often", "_law_at"]
theorem S_l_plain : FnScope N_l_plain ["_law_h", "_law_most"] (defScope s_l_plain) := ⟨rfl, rfl, rfl, by decide +kernel, rfl, by decide +kernel, by decide +kernel⟩
abbrev s_is_number : Stmt := top 9
abbrev N_is_number : List Str := ["part", "low", "high"]
theorem S_is_number : FnScope N_is_number ["part", "low", "high"] (defScope s_is_number) := ⟨rfl, rfl, rfl, by decide +kernel, rfl, by decide +kernel, by decide +kernel⟩
abbrev s_is_row : Stmt := top 10
abbrev N_is_row : List Str := ["row", "rows", "most", "form", "part", "sort"]
theorem S_is_row : FnScope N_is_row ["row", "rows"] (defScope s_is_row) := ⟨rfl, rfl, rfl, by decide +kernel, rfl, by decide +kernel, by decide +kernel⟩
abbrev s_number_of : Stmt := top 16
abbrev N_number_of : List Str := ["word", "sign"]
theorem S_number_of : FnScope N_number_of ["word"] (defScope s_number_of) := ⟨rfl, rfl, rfl, by decide +kernel, rfl, by decide +kernel, by decide +kernel⟩
abbrev s_row_of : Stmt := top 17
abbrev N_row_of : List Str := ["line", "rows", "words", "row", "word"]
theorem S_row_of : FnScope N_row_of ["line", "rows"] (defScope s_row_of) := ⟨rfl, rfl, rfl, by decide +kernel, rfl, by decide +kernel, by decide +kernel⟩
abbrev s_read : Stmt := top 18
abbrev N_read : List Str := ["text", "lines", "found", "number", "row"]
theorem S_read : FnScope N_read ["text"] (defScope s_read) := ⟨rfl, rfl, rfl, by decide +kernel, rfl, by decide +kernel, by decide +kernel⟩
abbrev s_need_program : Stmt := top 11
abbrev N_need_program : List Str := ["program", "number"]
theorem S_need_program : FnScope N_need_program ["program"] (defScope s_need_program) := ⟨rfl, rfl, rfl, by decide +kernel, rfl, by decide +kernel, by decide +kernel⟩
abbrev s_written : Stmt := top 15
abbrev N_written : List Str := ["program", "row", "part"]
theorem S_written : FnScope N_written ["program"] (defScope s_written) := ⟨rfl, rfl, rfl, by decide +kernel, rfl, by decide +kernel, by decide +kernel⟩
abbrev s_law : Stmt := top 29
abbrev N_law : List Str := ["_law_script", "_law_h", "_law_turn", "_law_program", "_law_text", "_law_row", "_law_part"]
theorem S_law : FnScope N_law ["_law_script"] (defScope s_law) := ⟨rfl, rfl, rfl, by decide +kernel, rfl, by decide +kernel, by decide +kernel⟩
def fn : List He.DefD := [⟨("_law_alike", none), "_law_alike", "_law_alike", defArgs s_l_alike, defBody s_l_alike, defScope s_l_alike, [], []⟩,
  ⟨("_law_mix", none), "_law_mix", "_law_mix", defArgs s_l_mix, defBody s_l_mix, defScope s_l_mix, [], []⟩,
  ⟨("_law_next", none), "_law_next", "_law_next", defArgs s_l_next, defBody s_l_next, defScope s_l_next, [], []⟩,
  ⟨("_law_boxes", none), "_law_boxes", "_law_boxes", defArgs s_l_boxes, defBody s_l_boxes, defScope s_l_boxes, [], []⟩,
  ⟨("_law_number", none), "_law_number", "_law_number", defArgs s_l_number, defBody s_l_number, defScope s_l_number, [], []⟩,
  ⟨("_law_deed", none), "_law_deed", "_law_deed", defArgs s_l_deed, defBody s_l_deed, defScope s_l_deed, [], []⟩,
  ⟨("_law_jump", none), "_law_jump", "_law_jump", defArgs s_l_jump, defBody s_l_jump, defScope s_l_jump, [], []⟩,
  ⟨("_law_plain", none), "_law_plain", "_law_plain", defArgs s_l_plain, defBody s_l_plain, defScope s_l_plain, [], []⟩,
  ⟨("is_number", none), "is_number", "is_number", defArgs s_is_number, defBody s_is_number, defScope s_is_number, [], []⟩,
  ⟨("is_row", none), "is_row", "is_row", defArgs s_is_row, defBody s_is_row, defScope s_is_row, [], []⟩,
  ⟨("number_of", none), "number_of", "number_of", defArgs s_number_of, defBody s_number_of, defScope s_number_of, [], []⟩,
  ⟨("row_of", none), "row_of", "row_of", defArgs s_row_of, defBody s_row_of, defScope s_row_of, [], []⟩,
  ⟨("read", none), "read", "read", defArgs s_read, defBody s_read, defScope s_read, [], []⟩,
  ⟨("need_program", none), "need_program", "need_program", defArgs s_need_program, defBody s_need_program, defScope s_need_program, [], []⟩,
  ⟨("written", none), "written", "written", defArgs s_written, defBody s_written, defScope s_written, [], []⟩,
  ⟨("law", none), "law", "law", defArgs s_law, defBody s_law, defScope s_law, [], []⟩]
def fa : List He.Fa := [.free "range", .free "int", .free "str", .free "isinstance", .free "tuple", .free "len", .int "MOST_ROWS" 200, .int "BOXES" 8, .int "RING" 1000, .free "zip", .free "bool", .int "MOST_FIGURES" 3, .str "FIGURES" "0123456789", .free "max", .free "min", .free "list", .glo "_law_alike", .glo "_law_mix", .glo "_law_next", .glo "_law_boxes", .glo "_law_number", .glo "_law_deed", .glo "_law_jump", .glo "_law_plain", .glo "is_number", .glo "is_row", .glo "number_of", .glo "row_of", .glo "read", .glo "need_program", .glo "written", .glo "law", .glo "FORMS"]
def ts : List He.Tab := [((fun K => He.ga K "FORMS"), ["put", "move", "add", "take", "times", "get", "set", "say", "rest", "go", "if", "stop"])]
def ex : PySem.W.Frag → Bool := fun K => tabB K (He.ga K "FORMS") tbF
abbrev C (w : World) (K : PySem.W.Frag) (mg : Str → Option Value) : Prop := Ctx fa fn ts ex w K mg
abbrev PK (K : PySem.W.Frag) : Pm := ⟨K, fun _ => 0, fun _ => Str.empty⟩
theorem bb_bool : bootBuiltins "bool" = some (.type "bool") := by decide +kernel
theorem bb_int : bootBuiltins "int" = some (.type "int") := by decide +kernel
theorem bb_len : bootBuiltins "len" = some (.builtin "len") := by decide +kernel
theorem bb_list : bootBuiltins "list" = some (.type "list") := by decide +kernel
theorem bb_max : bootBuiltins "max" = some (.builtin "max") := by decide +kernel
theorem bb_min : bootBuiltins "min" = some (.builtin "min") := by decide +kernel
theorem bb_str : bootBuiltins "str" = some (.type "str") := by decide +kernel
theorem bb_tuple : bootBuiltins "tuple" = some (.type "tuple") := by decide +kernel
section
variable {Pg : Program} {w : World} {K : PySem.W.Frag} {mg : Str → Option Value} {base : Heap}
theorem tb_FORMS (c : C w K mg) : Tb K w mg "FORMS" tbF := tb_of (c.glo 32) (c.tab 0) (c.more)
theorem cal_l_alike : ∀ (n : Nat) (c : C w K mg), Cal Pg w K mg base (PK K) "_law_alike" (n + 1) 2 (m_l_alike n)
  | 0, c => cal_of c (st := s_l_alike) (N := N_l_alike) (fb := sBad) 16 0 S_l_alike (fun _ _ _ _ _ _ us hl => match us, hl with | [_, _], _ => rfl) (fun ds m _ => .bad _) fun f cdv A outer s H E hr hp ho => xss_never
  | n + 1, c => by
    have S := S_l_alike
    have h_rec : Cal Pg w K mg base (PK K) "_law_alike" (n + 1) 2 (m_l_alike n) := cal_l_alike n c
    exact cal_of c (st := s_l_alike) (N := N_l_alike) (fb := f_l_alike (m_l_alike n)) 16 0 S (fun _ _ _ _ _ _ us hl => match us, hl with | [_, _], _ => rfl) (fun ds m _ => le_l_alike n ds m) fun f cdv A outer s H E hr hp ho => xss_cons (xs_if (xt_V (xe_isi2 rfl (by decide) (by decide) rfl (c.free 3) rfl (c.free 4) bb_tuple rfl (c.free 15) bb_list (xe_vr 1))) (xss_cons (xs_if (PW.pt (xw_or (xt_not (xt_V (xe_isi2 rfl (by decide) (by decide) rfl (c.free 3) rfl (c.free 4) bb_tuple rfl (c.free 15) bb_list (xe_vr 0)))) (xw_or1 (xt_cmp (op_neA hr) op2_ne (xe_isi rfl (by decide) rfl (c.free 3) rfl (c.free 15) bb_list (xe_vr 0)) (xe_isi rfl (by decide) rfl (c.free 3) rfl (c.free 15) bb_list (xe_vr 1)) (nomark _))))) (xss_one (xs_ret (xe_bl))) (xss_nil)) (xss_cons (xs_if (xt_cmp (op_neA hr) op2_ne (xe_callB call_lenA opN_len rfl (c.free 5) bb_len (xa_cons (xe_vr 0) (xa_nil))) (xe_callB call_lenA opN_len rfl (c.free 5) bb_len (xa_cons (xe_vr 1) (xa_nil))) (nomark _)) (xss_one (xs_ret (xe_bl))) (xss_nil)) (xss_one (xs_ret (xe_cmp (op_eqA hr) op2_eq (xe_comp (own := [("_law_k", 2)]) rfl S.nd (xi_rng1 rfl (c.free 0) (xa_cons (xe_callB call_lenA opN_len rfl (c.free 5) bb_len (xa_cons (xe_vr 1) (xa_nil))) (xa_nil))) (blkOk_by (own := [("_law_k", 2)]) (N := N_l_alike) (sc := defScope s_l_alike) (by decide +kernel)) (fun _ _ _ _ _ => xg_nm (i := 2) S.nd) (fun _ _ _ _ _ => xts_one (xt_not (xt_V (xe_callC h_rec (hr.mono (by omega)) passL (xa_cons (xe_ix ix_seq op2_ix (xe_vr 0) (xe_vr 2) (fun _ _ => rfl)) (xa_cons (xe_ix ix_seq op2_ix (xe_vr 1) (xe_vr 2) (fun _ _ => rfl)) (xa_nil))))))) (fun _ _ _ _ _ => xe_vr 2) (by decide)) (xe_lsl (xa_nil)) (nomark _)))))) (xss_nil)) (xss_cons (xs_if (xt_cmp op_isN op2_isN (xe_vr 1) (xe_non) (nomark _)) (xss_one (xs_ret (xe_cmp op_isN op2_isN (xe_vr 0) (xe_non) (nomark _)))) (xss_nil)) (xss_cons (xs_if (xt_V (xe_isi rfl (by decide) rfl (c.free 3) rfl (c.free 2) bb_str (xe_vr 1))) (xss_one (xs_ret (xe_and (xe_isi rfl (by decide) rfl (c.free 3) rfl (c.free 2) bb_str (xe_vr 0)) (xe_one (xe_cmp (op_eqA hr) op2_eq (xe_vr 0) (xe_vr 1) (nomark _)))))) (xss_nil)) (xss_cons (xs_if (PW.pt (xw_or (xt_V (xe_isi rfl (by decide) rfl (c.free 3) rfl (c.free 10) bb_bool (xe_vr 1))) (xw_or1 (xt_V (xe_isi rfl (by decide) rfl (c.free 3) rfl (c.free 10) bb_bool (xe_vr 0)))))) (xss_one (xs_ret (xe_and (xe_isi rfl (by decide) rfl (c.free 3) rfl (c.free 10) bb_bool (xe_vr 1)) (xe_and (xe_isi rfl (by decide) rfl (c.free 3) rfl (c.free 10) bb_bool (xe_vr 0)) (xe_one (xe_cmp (op_eqA hr) op2_eq (xe_vr 0) (xe_vr 1) (nomark _))))))) (xss_nil)) (xss_one (xs_ret (xe_and (xe_isi rfl (by decide) rfl (c.free 3) rfl (c.free 1) bb_int (xe_vr 0)) (xe_one (xe_cmp (op_eqA hr) op2_eq (xe_vr 0) (xe_vr 1) (nomark _)))))))))
theorem cal_l_mix (c : C w K mg) : Cal Pg w K mg base (PK K) "_law_mix" 1 2 m_l_mix := by
  have S := S_l_mix
  exact cal_of c (st := s_l_mix) (N := N_l_mix) (fb := f_l_mix) 17 1 S (fun _ _ _ _ _ _ us hl => match us, hl with | [_, _], _ => rfl) (fun ds m _ => le_l_mix ds m) fun f cdv A outer s H E hr hp ho => xss_cons (xs_set (i := 2) S.nd (xe_vr 1)) (xss_cons (xs_for ho rfl (xi_seq rfl (xe_vr 0)) (xg_nm (i := 3) S.nd) (xss_one (xs_set (i := 2) S.nd (xe_op op_modN op2_mod (xe_op op_addA op2_add (xe_op op_addA op2_add (xe_op op_mul op2_mul (xe_vr 2) (xe_int)) (xe_op op_modN op2_mod (xe_vr 3) (xe_int))) (xe_int)) (xe_int))))) (xss_one (xs_ret (xe_lsm (xa_cons (xe_vr 2) (xa_cons (xe_callTyM call_list_of opNM_list rfl (c.free 15) bb_list (xa_cons (xe_vr 0) (xa_nil))) (xa_cons (xe_int) (xa_nil))))))))
theorem cal_l_next (c : C w K mg) : Cal Pg w K mg base (PK K) "_law_next" 1 2 m_l_next := by
  have S := S_l_next
  exact cal_of c (st := s_l_next) (N := N_l_next) (fb := f_l_next) 18 2 S (fun _ _ _ _ _ _ us hl => match us, hl with | [_, _], _ => rfl) (fun ds m _ => le_l_next ds m) fun f cdv A outer s H E hr hp ho => xss_cons (xs_set (i := 2) S.nd (xe_op op_modN op2_mod (xe_ix ix_seq op2_ix (xe_vr 0) (xe_int) (fun _ _ => rfl)) (xe_callB (call_max2 rfl) opN_max2 rfl (c.free 13) bb_max (xa_cons (xe_int) (xa_cons (xe_callB call_lenA opN_len rfl (c.free 5) bb_len (xa_cons (xe_ix ix_seq op2_ix (xe_vr 0) (xe_int) (fun _ _ => rfl)) (xa_nil))) (xa_nil)))))) (xss_cons (xs_set (i := 3) S.nd (xe_if (xt_cmp (op_neA hr) op2_ne (xe_ix ix_seq op2_ix (xe_vr 0) (xe_int) (fun _ _ => rfl)) (xe_lsl (xa_nil)) (nomark _)) (xe_ix ix_seq op2_ix (xe_ix ix_seq op2_ix (xe_vr 0) (xe_int) (fun _ _ => rfl)) (xe_vr 2) (fun _ _ => rfl)) (xe_int))) (xss_cons (xs_if (xt_cmp op_ge op2_ge (xe_vr 3) (xe_op op_pow op2_pow (xe_int) (xe_int)) (nomark _)) (xss_cons (xs_lput (xe_ix ix_seq op2_ix (xe_vr 0) (xe_int) (fun _ _ => rfl)) (xe_vr 2) (xe_op op_fdivN op2_fdiv (xe_vr 3) (xe_vr 1))) (xss_one (xs_ret (xe_op op_modN op2_mod (xe_vr 3) (xe_vr 1))))) (xss_nil)) (xss_cons (xs_lput (xe_vr 0) (xe_int) (xe_op op_modN op2_mod (xe_op op_addA op2_add (xe_op op_addA op2_add (xe_op op_mul op2_mul (xe_ix ix_seq op2_ix (xe_vr 0) (xe_int) (fun _ _ => rfl)) (xe_int)) (xe_op op_mul op2_mul (xe_vr 3) (xe_int))) (xe_int)) (xe_int))) (xss_cons (xs_lput (xe_vr 0) (xe_int) (xe_op op_addA op2_add (xe_ix ix_seq op2_ix (xe_vr 0) (xe_int) (fun _ _ => rfl)) (xe_int))) (xss_one (xs_ret (xe_op op_modN op2_mod (xe_op op_fdivN op2_fdiv (xe_ix ix_seq op2_ix (xe_vr 0) (xe_int) (fun _ _ => rfl)) (xe_int)) (xe_vr 1))))))))
theorem cal_l_boxes (c : C w K mg) : Cal Pg w K mg base (PK K) "_law_boxes" 2 1 m_l_boxes := by
  have S := S_l_boxes
  have h_l_next : Cal Pg w K mg base (PK K) "_law_next" 1 2 m_l_next := cal_l_next c
  exact cal_of c (st := s_l_boxes) (N := N_l_boxes) (fb := f_l_boxes) 19 3 S (fun _ _ _ _ _ _ us hl => match us, hl with | [_], _ => rfl) (fun ds m _ => le_l_boxes ds m) fun f cdv A outer s H E hr hp ho => xss_one (xs_ret (xe_tpl (xa_cons (xe_callC h_l_next (hr.mono (by decide)) hp (xa_cons (xe_vr 0) (xa_cons (xe_int) (xa_nil)))) (xa_cons (xe_ix ix_seq op2_ix (xe_lsl (xa_cons (xe_int) (xa_cons (xe_int) (xa_cons (xe_int) (xa_nil))))) (xe_callC h_l_next (hr.mono (by decide)) hp (xa_cons (xe_vr 0) (xa_cons (xe_int) (xa_nil)))) (fun _ _ => rfl)) (xa_nil)))))
theorem cal_l_number (c : C w K mg) : Cal Pg w K mg base (PK K) "_law_number" 2 1 m_l_number := by
  have S := S_l_number
  have h_l_next : Cal Pg w K mg base (PK K) "_law_next" 1 2 m_l_next := cal_l_next c
  exact cal_of c (st := s_l_number) (N := N_l_number) (fb := f_l_number) 20 4 S (fun _ _ _ _ _ _ us hl => match us, hl with | [_], _ => rfl) (fun ds m _ => le_l_number ds m) fun f cdv A outer s H E hr hp ho => xss_one (xs_ret (xe_ix ix_seq op2_ix (xe_lsl (xa_cons (xe_callC h_l_next (hr.mono (by decide)) hp (xa_cons (xe_vr 0) (xa_cons (xe_int) (xa_nil)))) (xa_cons (xe_callC h_l_next (hr.mono (by decide)) hp (xa_cons (xe_vr 0) (xa_cons (xe_int) (xa_nil)))) (xa_nil)))) (xe_callC h_l_next (hr.mono (by decide)) hp (xa_cons (xe_vr 0) (xa_cons (xe_int) (xa_nil)))) (fun _ _ => rfl)))
theorem cal_l_deed (c : C w K mg) : Cal Pg w K mg base (PK K) "_law_deed" 3 2 m_l_deed := by
  have S := S_l_deed
  have h_l_next : Cal Pg w K mg base (PK K) "_law_next" 1 2 m_l_next := cal_l_next c
  have h_l_number : Cal Pg w K mg base (PK K) "_law_number" 2 1 m_l_number := cal_l_number c
  exact cal_of c (st := s_l_deed) (N := N_l_deed) (fb := f_l_deed) 21 5 S (fun _ _ _ _ _ _ us hl => match us, hl with | [_, _], _ => rfl) (fun ds m _ => le_l_deed ds m) fun f cdv A outer s H E hr hp ho => xss_cons (xs_set (i := 2) S.nd (xe_lsl (xa_cons (xe_str) (xa_cons (xe_str) (xa_cons (xe_str) (xa_cons (xe_str) (xa_cons (xe_str) (xa_cons (xe_str) (xa_cons (xe_str) (xa_cons (xe_str) (xa_cons (xe_str) (xa_cons (xe_str) (xa_cons (xe_str) (xa_cons (xe_str) (xa_cons (xe_str) (xa_cons (xe_str) (xa_nil))))))))))))))))) (xss_cons (xs_set (i := 3) S.nd (xe_ix ix_seq op2_ix (xe_op op_addA op2_add (xe_vr 2) (xe_lsl (xa_cons (xe_str) (xa_nil)))) (xe_callC h_l_next (hr.mono (by decide)) hp (xa_cons (xe_vr 0) (xa_cons (xe_int) (xa_nil)))) (fun _ _ => rfl))) (xss_cons (xs_asgU rfl rfl (xe_comp (own := [("_law_k", 7)]) rfl S.nd (xi_rng1 rfl (c.free 0) (xa_cons (xe_int) (xa_nil))) (blkOk_by (own := [("_law_k", 7)]) (N := N_l_deed) (sc := defScope s_l_deed) (by decide +kernel)) (fun _ _ _ _ _ => xg_nm (i := 7) S.nd) (fun _ _ _ _ _ => xts_nil) (fun _ _ _ _ _ => xe_op op_modN op2_mod (xe_op op_addA op2_add (xe_ix ix_seq op2_ix (xe_vr 1) (xe_int) (fun _ _ => rfl)) (xe_callC h_l_next (hr.mono (by decide)) passL (xa_cons (xe_vr 0) (xa_cons (xe_ix ix_seq op2_ix (xe_vr 1) (xe_int) (fun _ _ => rfl)) (xa_nil))))) (xe_int)) (by decide)) (xgs_cons (i := 4) S.nd (xgs_cons (i := 5) S.nd (xgs_cons (i := 6) S.nd (xgs_nil))))) (xss_cons (xs_if (xt_cmp (op_inA hr) op2_in (xe_vr 3) (xe_tpl (xa_cons (xe_str) (xa_cons (xe_str) (xa_cons (xe_str) (xa_nil))))) rfl) (xss_one (xs_ret (xe_tpl (xa_cons (xe_vr 3) (xa_cons (xe_vr 4) (xa_cons (xe_vr 5) (xa_cons (xe_vr 6) (xa_nil)))))))) (xss_nil)) (xss_one (xs_ret (xe_dget2 hr (xe_dsp (xp_cons (xe_str) (xe_tpl (xa_cons (xe_vr 3) (xa_cons (xe_vr 4) (xa_cons (xe_callC h_l_number (hr.mono (by decide)) hp (xa_cons (xe_vr 0) (xa_nil))) (xa_nil))))) (xp_cons (xe_str) (xe_tpl (xa_cons (xe_vr 3) (xa_cons (xe_vr 5) (xa_nil)))) (xp_cons (xe_str) (xe_tpl (xa_cons (xe_vr 3) (xa_nil))) (xp_nil))))) (xe_vr 3) (xe_tpl (xa_cons (xe_vr 3) (xa_cons (xe_vr 4) (xa_cons (xe_vr 5) (xa_nil)))))))))))
theorem cal_l_jump (c : C w K mg) : Cal Pg w K mg base (PK K) "_law_jump" 2 4 m_l_jump := by
  have S := S_l_jump
  have h_l_next : Cal Pg w K mg base (PK K) "_law_next" 1 2 m_l_next := cal_l_next c
  exact cal_of c (st := s_l_jump) (N := N_l_jump) (fb := f_l_jump) 22 6 S (fun _ _ _ _ _ _ us hl => match us, hl with | [_, _, _, _], _ => rfl) (fun ds m _ => le_l_jump ds m) fun f cdv A outer s H E hr hp ho => xss_cons (xs_set (i := 4) S.nd (xe_callB (call_min2 rfl) opN_min2 rfl (c.free 14) bb_min (xa_cons (xe_op op_sub op2_sub (xe_vr 3) (xe_int)) (xa_cons (xe_op op_addA op2_add (xe_op op_addA op2_add (xe_vr 2) (xe_int)) (xe_callC h_l_next (hr.mono (by decide)) hp (xa_cons (xe_vr 0) (xa_cons (xe_op op_sub op2_sub (xe_vr 3) (xe_vr 2)) (xa_nil))))) (xa_nil))))) (xss_cons (xs_if (xt_cmp (op_eqA hr) op2_eq (xe_callC h_l_next (hr.mono (by decide)) hp (xa_cons (xe_vr 0) (xa_cons (xe_int) (xa_nil)))) (xe_int) (nomark _)) (xss_one (xs_set (i := 4) S.nd (xe_callC h_l_next (hr.mono (by decide)) hp (xa_cons (xe_vr 0) (xa_cons (xe_vr 3) (xa_nil)))))) (xss_nil)) (xss_cons (xs_set (i := 5) S.nd (xe_op op_modN op2_mod (xe_op op_addA op2_add (xe_ix ix_seq op2_ix (xe_vr 1) (xe_int) (fun _ _ => rfl)) (xe_callC h_l_next (hr.mono (by decide)) hp (xa_cons (xe_vr 0) (xa_cons (xe_ix ix_seq op2_ix (xe_vr 1) (xe_int) (fun _ _ => rfl)) (xa_nil))))) (xe_int))) (xss_one (xs_ret (xe_ix ix_seq op2_ix (xe_lsl (xa_cons (xe_tpl (xa_cons (xe_str) (xa_cons (xe_vr 4) (xa_nil)))) (xa_cons (xe_tpl (xa_cons (xe_str) (xa_cons (xe_vr 5) (xa_cons (xe_vr 4) (xa_nil))))) (xa_cons (xe_tpl (xa_cons (xe_str) (xa_cons (xe_vr 5) (xa_cons (xe_vr 4) (xa_nil))))) (xa_cons (xe_tpl (xa_cons (xe_str) (xa_nil))) (xa_nil)))))) (xe_callC h_l_next (hr.mono (by decide)) hp (xa_cons (xe_vr 0) (xa_cons (xe_int) (xa_nil)))) (fun _ _ => rfl))))))
theorem cal_l_plain (c : C w K mg) : Cal Pg w K mg base (PK K) "_law_plain" 4 2 m_l_plain := by
  have S := S_l_plain
  have h_l_boxes : Cal Pg w K mg base (PK K) "_law_boxes" 2 1 m_l_boxes := cal_l_boxes c
  have h_l_deed : Cal Pg w K mg base (PK K) "_law_deed" 3 2 m_l_deed := cal_l_deed c
  have h_l_jump : Cal Pg w K mg base (PK K) "_law_jump" 2 4 m_l_jump := cal_l_jump c
  have h_l_next : Cal Pg w K mg base (PK K) "_law_next" 1 2 m_l_next := cal_l_next c
  exact cal_of c (st := s_l_plain) (N := N_l_plain) (fb := f_l_plain) 23 7 S (fun _ _ _ _ _ _ us hl => match us, hl with | [_, _], _ => rfl) (fun ds m _ => le_l_plain ds m) fun f cdv A outer s H E hr hp ho => xss_cons (xs_set (i := 2) S.nd (xe_callC h_l_boxes (hr.mono (by decide)) hp (xa_cons (xe_vr 0) (xa_nil)))) (xss_cons (xs_set (i := 3) S.nd (xe_op op_addA op2_add (xe_int) (xe_callC h_l_next (hr.mono (by decide)) hp (xa_cons (xe_vr 0) (xa_cons (xe_vr 1) (xa_nil)))))) (xss_cons (xs_set (i := 4) S.nd (xe_ix ix_seq op2_ix (xe_lsl (xa_cons (xe_int) (xa_cons (xe_int) (xa_cons (xe_int) (xa_nil))))) (xe_callC h_l_next (hr.mono (by decide)) hp (xa_cons (xe_vr 0) (xa_cons (xe_int) (xa_nil)))) (fun _ _ => rfl))) (xss_one (xs_ret (xe_callTy call_tuple_of opN_tuple rfl (c.free 4) bb_tuple (xa_cons (xe_comp (own := [("_law_at", 5)]) rfl S.nd (xi_rng1 rfl (c.free 0) (xa_cons (xe_vr 3) (xa_nil))) (blkOk_by (own := [("_law_at", 5)]) (N := N_l_plain) (sc := defScope s_l_plain) (by decide +kernel)) (fun _ _ _ _ _ => xg_nm (i := 5) S.nd) (fun _ _ _ _ _ => xts_nil) (fun _ _ _ _ _ => xe_if (xt_cmp (op_eqA hr) op2_eq (xe_callC h_l_next (hr.mono (by decide)) passL (xa_cons (xe_vr 0) (xa_cons (xe_vr 4) (xa_nil)))) (xe_int) (nomark _)) (xe_callC h_l_jump (hr.mono (by decide)) passL (xa_cons (xe_vr 0) (xa_cons (xe_vr 2) (xa_cons (xe_vr 5) (xa_cons (xe_vr 3) (xa_nil)))))) (xe_callC h_l_deed (hr.mono (by decide)) passL (xa_cons (xe_vr 0) (xa_cons (xe_vr 2) (xa_nil))))) (by decide)) (xa_nil)))))))
theorem cal_is_number (c : C w K mg) : Cal Pg w K mg base (PK K) "is_number" 1 3 m_is_number := by
  have S := S_is_number
  exact cal_of c (st := s_is_number) (N := N_is_number) (fb := f_is_number) 24 8 S (fun _ _ _ _ _ _ us hl => match us, hl with | [_, _, _], _ => rfl) (fun ds m _ => le_is_number ds m) fun f cdv A outer s H E hr hp ho => xss_one (xs_ret (xe_and (xe_isi rfl (by decide) rfl (c.free 3) rfl (c.free 1) bb_int (xe_vr 0)) (xe_and (xe_not (xe_isi rfl (by decide) rfl (c.free 3) rfl (c.free 10) bb_bool (xe_vr 0))) (xe_one (xe_chain op_le op_le op2_le op2_le (xe_vr 1) (xe_vr 0) (xe_vr 2))))))
theorem cal_is_row (c : C w K mg) : Cal Pg w K mg base (PK K) "is_row" 2 2 m_is_row := by
  have S := S_is_row
  have h_is_number : Cal Pg w K mg base (PK K) "is_number" 1 3 m_is_number := cal_is_number c
  exact cal_of c (st := s_is_row) (N := N_is_row) (fb := f_is_row) 25 9 S (fun _ _ _ _ _ _ us hl => match us, hl with | [_, _], _ => rfl) (fun ds m _ => le_is_row ds m) fun f cdv A outer s H E hr hp ho => xss_cons (xs_if (PW.pt (xw_or (xt_not (xt_V (xe_isi rfl (by decide) rfl (c.free 3) rfl (c.free 4) bb_tuple (xe_vr 0)))) (xw_or (xt_cmp (op_eqA hr) op2_eq (xe_vr 0) (xe_tpl (xa_nil)) (nomark _)) (xw_or (xt_not (xt_V (xe_isi rfl (by decide) rfl (c.free 3) rfl (c.free 2) bb_str (xe_ix ix_seq op2_ix (xe_vr 0) (xe_int) (fun _ _ => rfl))))) (xw_or1 (xe_notInK rfl (tb_FORMS c) (xe_ix ix_seq op2_ix (xe_vr 0) (xe_int) (fun _ _ => rfl)))))))) (xss_one (xs_ret (xe_bl))) (xss_nil)) (xss_cons (xs_set (i := 2) S.nd (xe_dsp (xp_cons (xe_str) (xe_gint (c.int 7)) (xp_cons (xe_str) (xe_gint (c.int 7)) (xp_cons (xe_str) (xe_gint (c.int 8)) (xp_cons (xe_str) (xe_vr 1) (xp_nil))))))) (xss_cons (xs_set (i := 3) S.nd (xe_getK rfl (tb_FORMS c) (xe_ix ix_seq op2_ix (xe_vr 0) (xe_int) (fun _ _ => rfl)))) (xss_cons (xs_if (xt_cmp (op_neA hr) op2_ne (xe_callB call_lenA opN_len rfl (c.free 5) bb_len (xa_cons (xe_vr 0) (xa_nil))) (xe_op op_addA op2_add (xe_callB call_lenA opN_len rfl (c.free 5) bb_len (xa_cons (xe_vr 3) (xa_nil))) (xe_int)) (nomark _)) (xss_one (xs_ret (xe_bl))) (xss_nil)) (xss_one (xs_ret (xe_cmp (op_eqA hr) op2_eq (xe_comp (own := [("part", 4), ("sort", 5)]) rfl S.nd (xi_zp rfl rfl (c.free 9) (xe_slc rfl (xe_vr 0) (xo_some (xe_int)) (xo_none)) (xe_vr 3)) (blkOk_by (own := [("part", 4), ("sort", 5)]) (N := N_is_row) (sc := defScope s_is_row) (by decide +kernel)) (fun _ _ _ _ _ => xg_tp rfl rfl (xgs_cons (i := 4) S.nd (xgs_cons (i := 5) S.nd (xgs_nil)))) (fun _ _ _ _ _ => xts_one (xt_not (xt_V (xe_callC h_is_number (hr.mono (by decide)) passL (xa_cons (xe_vr 4) (xa_cons (xe_int) (xa_cons (xe_op op_sub op2_sub (xe_dget hr (xe_vr 2) (xe_vr 5)) (xe_int)) (xa_nil)))))))) (fun _ _ _ _ _ => xe_vr 4) (by decide)) (xe_lsl (xa_nil)) (nomark _)))))))
theorem cal_number_of (c : C w K mg) : Cal Pg w K mg base (PK K) "number_of" 1 1 m_number_of := by
  have S := S_number_of
  exact cal_of c (st := s_number_of) (N := N_number_of) (fb := f_number_of) 26 10 S (fun _ _ _ _ _ _ us hl => match us, hl with | [_], _ => rfl) (fun ds m _ => le_number_of ds m) fun f cdv A outer s H E hr hp ho => xss_cons (xs_if (PW.pt (xw_or (xt_not (xt_chain op_le op_le op2_le op2_le (xe_int) (xe_callB call_lenA opN_len rfl (c.free 5) bb_len (xa_cons (xe_vr 0) (xa_nil))) (xe_gint (c.int 11)))) (xw_or1 (xt_cmp (op_neA hr) op2_ne (xe_comp (own := [("sign", 1)]) rfl S.nd (xi_str (xe_vr 0)) (blkOk_by (own := [("sign", 1)]) (N := N_number_of) (sc := defScope s_number_of) (by decide +kernel)) (fun _ _ _ _ _ => xg_nm (i := 1) S.nd) (fun _ _ _ _ _ => xts_one (xt_cmp L2.op_notInS op2_notInS (xe_vr 1) (xe_gstr (c.str 12)) rfl)) (fun _ _ _ _ _ => xe_vr 1) (by decide)) (xe_lsl (xa_nil)) (nomark _))))) (xss_one (xs_ret (xe_non))) (xss_nil)) (xss_one (xs_ret (xe_if (PW.pt (xw_or (xt_cmp (op_eqA hr) op2_eq (xe_vr 0) (xe_str) (nomark _)) (xw_or1 (xt_cmp (op_neA hr) op2_ne (xe_ix ix_seq op2_ix (xe_vr 0) (xe_int) (fun _ _ => rfl)) (xe_str) (nomark _))))) (xe_callTy call_int_str opN_intS rfl (c.free 1) bb_int (xa_cons (xe_vr 0) (xa_nil))) (xe_non))))
theorem cal_row_of (c : C w K mg) : Cal Pg w K mg base (PK K) "row_of" 3 2 m_row_of := by
  have S := S_row_of
  have h_is_row : Cal Pg w K mg base (PK K) "is_row" 2 2 m_is_row := cal_is_row c
  have h_number_of : Cal Pg w K mg base (PK K) "number_of" 1 1 m_number_of := cal_number_of c
  exact cal_of c (st := s_row_of) (N := N_row_of) (fb := f_row_of) 27 11 S (fun _ _ _ _ _ _ us hl => match us, hl with | [_, _], _ => rfl) (fun ds m _ => le_row_of ds m) fun f cdv A outer s H E hr hp ho => xss_cons (xs_set (i := 2) S.nd (xe_split rfl (xe_vr 0) (xe_str))) (xss_cons (xs_if (xe_notInK rfl (tb_FORMS c) (xe_ix ix_seq op2_ix (xe_vr 2) (xe_int) (fun _ _ => rfl))) (xss_one (xs_ret (xe_non))) (xss_nil)) (xss_cons (xs_set (i := 3) S.nd (xe_op op_addA op2_add (xe_tpl (xa_cons (xe_ix ix_seq op2_ix (xe_vr 2) (xe_int) (fun _ _ => rfl)) (xa_nil))) (xe_callTy call_tuple_of opN_tuple rfl (c.free 4) bb_tuple (xa_cons (xe_comp (own := [("word", 4)]) rfl S.nd (xi_seq rfl (xe_slc rfl (xe_vr 2) (xo_some (xe_int)) (xo_none))) (blkOk_by (own := [("word", 4)]) (N := N_row_of) (sc := defScope s_row_of) (by decide +kernel)) (fun _ _ _ _ _ => xg_nm (i := 4) S.nd) (fun _ _ _ _ _ => xts_nil) (fun _ _ _ _ _ => xe_callC h_number_of (hr.mono (by decide)) passL (xa_cons (xe_vr 4) (xa_nil))) (by decide)) (xa_nil))))) (xss_one (xs_ret (xe_if (xt_V (xe_callC h_is_row (hr.mono (by decide)) hp (xa_cons (xe_vr 3) (xa_cons (xe_vr 1) (xa_nil))))) (xe_vr 3) (xe_non))))))
theorem cal_read (c : C w K mg) : Cal Pg w K mg base (PK K) "read" 4 1 m_read := by
  have S := S_read
  have h_row_of : Cal Pg w K mg base (PK K) "row_of" 3 2 m_row_of := cal_row_of c
  exact cal_of c (st := s_read) (N := N_read) (fb := f_read) 28 12 S (fun _ _ _ _ _ _ us hl => match us, hl with | [_], _ => rfl) (fun ds m _ => le_read ds m) fun f cdv A outer s H E hr hp ho => xss_cons (xs_set (i := 1) S.nd (xe_split rfl (xe_vr 0) (xe_str))) (xss_cons (xs_set (i := 2) S.nd (xe_lsm (xa_nil))) (xss_cons (xs_for ho rfl (xi_rng1 rfl (c.free 0) (xa_cons (xe_callB call_lenA opN_len rfl (c.free 5) bb_len (xa_cons (xe_vr 1) (xa_nil))) (xa_nil))) (xg_nm (i := 3) S.nd) (xss_cons (xs_set (i := 4) S.nd (xe_callC h_row_of (hr.mono (by decide)) hp (xa_cons (xe_ix ix_seq op2_ix (xe_vr 1) (xe_vr 3) (fun _ _ => rfl)) (xa_cons (xe_callB call_lenA opN_len rfl (c.free 5) bb_len (xa_cons (xe_vr 1) (xa_nil))) (xa_nil))))) (xss_cons (xs_if (PW.pt (xw_or (xt_cmp op_isN op2_isN (xe_vr 4) (xe_non) (nomark _)) (xw_or1 (xt_cmp op_ge op2_ge (xe_vr 3) (xe_gint (c.int 6)) (nomark _))))) (xss_one (xs_never)) (xss_nil)) (xss_one (xs_exp (xe_app (xe_vr 2) (xe_vr 4) rfl)))))) (xss_one (xs_ret (xe_callTy call_tuple_of opN_tuple rfl (c.free 4) bb_tuple (xa_cons (xe_vr 2) (xa_nil)))))))
theorem cal_need_program (c : C w K mg) : Cal Pg w K mg base (PK K) "need_program" 3 1 m_need_program := by
  have S := S_need_program
  have h_is_row : Cal Pg w K mg base (PK K) "is_row" 2 2 m_is_row := cal_is_row c
  exact cal_of c (st := s_need_program) (N := N_need_program) (fb := f_need_program) 29 13 S (fun _ _ _ _ _ _ us hl => match us, hl with | [_], _ => rfl) (fun ds m _ => le_need_program ds m) fun f cdv A outer s H E hr hp ho => xss_cons (xs_if (PW.pt (xw_or (xt_not (xt_V (xe_isi rfl (by decide) rfl (c.free 3) rfl (c.free 4) bb_tuple (xe_vr 0)))) (xw_or1 (xt_cmp (op_eqA hr) op2_eq (xe_vr 0) (xe_tpl (xa_nil)) (nomark _))))) (xss_one (xs_never)) (xss_nil)) (xss_one (xs_for ho rfl (xi_rng1 rfl (c.free 0) (xa_cons (xe_callB call_lenA opN_len rfl (c.free 5) bb_len (xa_cons (xe_vr 0) (xa_nil))) (xa_nil))) (xg_nm (i := 1) S.nd) (xss_one (xs_if (PW.pt (xw_or (xt_cmp op_ge op2_ge (xe_vr 1) (xe_gint (c.int 6)) (nomark _)) (xw_or1 (xt_not (xt_V (xe_callC h_is_row (hr.mono (by decide)) hp (xa_cons (xe_ix ix_seq op2_ix (xe_vr 0) (xe_vr 1) (fun _ _ => rfl)) (xa_cons (xe_callB call_lenA opN_len rfl (c.free 5) bb_len (xa_cons (xe_vr 0) (xa_nil))) (xa_nil))))))))) (xss_one (xs_never)) (xss_nil)))))
theorem cal_written (c : C w K mg) : Cal Pg w K mg base (PK K) "written" 4 1 m_written := by
  have S := S_written
  have h_need_program : Cal Pg w K mg base (PK K) "need_program" 3 1 m_need_program := cal_need_program c
  exact cal_of c (st := s_written) (N := N_written) (fb := f_written) 30 14 S (fun _ _ _ _ _ _ us hl => match us, hl with | [_], _ => rfl) (fun ds m _ => le_written ds m) fun f cdv A outer s H E hr hp ho => xss_cons (xs_exp (xe_callC h_need_program (hr.mono (by decide)) hp (xa_cons (xe_vr 0) (xa_nil)))) (xss_one (xs_ret (xe_join rfl (xe_str) (xe_comp (own := [("row", 1)]) rfl S.nd (xi_seq rfl (xe_vr 0)) (blkOk_by (own := [("row", 1)]) (N := N_written) (sc := defScope s_written) (by decide +kernel)) (fun _ _ _ _ _ => xg_nm (i := 1) S.nd) (fun _ _ _ _ _ => xts_nil) (fun _ _ _ _ _ => xe_join rfl (xe_str) (xe_op op_addA op2_add (xe_lsl (xa_cons (xe_ix ix_seq op2_ix (xe_vr 1) (xe_int) (fun _ _ => rfl)) (xa_nil))) (xe_comp (own := [("part", 2)]) rfl S.nd (xi_seq rfl (xe_slc rfl (xe_vr 1) (xo_some (xe_int)) (xo_none))) (blkOk_in (own := [("part", 2)]) (N := N_written) (by decide +kernel)) (fun _ _ _ _ _ => xg_nm (i := 2) S.nd) (fun _ _ _ _ _ => xts_nil) (fun _ _ _ _ _ => xe_callTy call_str_int opN_str rfl (c.free 2) bb_str (xa_cons (xe_vr 2) (xa_nil))) (by decide)))) (by decide)))))
theorem law_fact (c : C w K mg) (f : Addr) (hf : mg "law" = some (.ref f)) : ∃ (fd : FuncData) (sp : Sp), (∀ (s : Shared) (u : Value), BindsTo s fd ⟨[u], []⟩ [("_law_script", u)]) ∧ (∀ (H : Hp) (a : Addr) (ns : List Int), ns.length ≤ 63 → SqL K H a (ns.map V.int) → sp [.ref a] H (fun v _ => v = .bl true) fun _ _ _ => False) ∧
      ∀ base : Heap, K.In base → base.Ns mainGlobals mg → FnOk Pg w K mg base (L2.CX Pg w) 8 f fd ["_law_script"] sp := by
  refine law_of (P := PK K) c (st := s_law) (N := N_law) (fb := f_law) (k := 7) 31 15 S_law (fun _ _ _ _ _ _ us hl => match us, hl with | [_], _ => rfl) (fun base f cdv A outer s H E hr hp ho => ?_) rfl rfl rfl law_true f hf
  have S := S_law
  have h_l_alike : Cal Pg w K mg base (PK K) "_law_alike" 7 2 (m_l_alike 6) := cal_l_alike 6 c
  have h_l_mix : Cal Pg w K mg base (PK K) "_law_mix" 1 2 m_l_mix := cal_l_mix c
  have h_l_next : Cal Pg w K mg base (PK K) "_law_next" 1 2 m_l_next := cal_l_next c
  have h_l_plain : Cal Pg w K mg base (PK K) "_law_plain" 4 2 m_l_plain := cal_l_plain c
  have h_read : Cal Pg w K mg base (PK K) "read" 4 1 m_read := cal_read c
  have h_written : Cal Pg w K mg base (PK K) "written" 4 1 m_written := cal_written c
  exact xss_cons (xs_set (i := 1) S.nd (xe_callC h_l_mix (hr.mono (by decide)) hp (xa_cons (xe_vr 0) (xa_cons (xe_int) (xa_nil))))) (xss_cons (xs_for ho rfl (xi_rng1 rfl (c.free 0) (xa_cons (xe_int) (xa_nil))) (xg_nm (i := 2) S.nd) (xss_cons (xs_set (i := 3) S.nd (xe_callC h_l_plain (hr.mono (by decide)) hp (xa_cons (xe_vr 1) (xa_cons (xe_ix ix_seq op2_ix (xe_lsl (xa_cons (xe_int) (xa_cons (xe_int) (xa_cons (xe_int) (xa_nil))))) (xe_callC h_l_next (hr.mono (by decide)) hp (xa_cons (xe_vr 1) (xa_cons (xe_int) (xa_nil)))) (fun _ _ => rfl)) (xa_nil))))) (xss_cons (xs_set (i := 4) S.nd (xe_str)) (xss_cons (xs_for ho rfl (xi_seq rfl (xe_vr 3)) (xg_nm (i := 5) S.nd) (xss_cons (xs_set (i := 4) S.nd (xe_op op_addA op2_add (xe_op op_addA op2_add (xe_vr 4) (xe_ix ix_seq op2_ix (xe_lsl (xa_cons (xe_str) (xa_cons (xe_str) (xa_nil)))) (xe_callTy call_int1 opN_int rfl (c.free 1) bb_int (xa_cons (xe_cmp (op_neA hr) op2_ne (xe_vr 4) (xe_str) (nomark _)) (xa_nil))) (fun _ _ => rfl))) (xe_ix ix_seq op2_ix (xe_vr 5) (xe_int) (fun _ _ => rfl)))) (xss_one (xs_for ho rfl (xi_seq rfl (xe_slc rfl (xe_vr 5) (xo_some (xe_int)) (xo_none))) (xg_nm (i := 6) S.nd) (xss_one (xs_set (i := 4) S.nd (xe_op op_addA op2_add (xe_op op_addA op2_add (xe_vr 4) (xe_str)) (xe_callTy call_str_int opN_str rfl (c.free 2) bb_str (xa_cons (xe_vr 6) (xa_nil)))))))))) (xss_one (xs_if (PW.pt (xw_or (xt_not (xt_V (xe_callC h_l_alike (hr.mono (by decide)) hp (xa_cons (xe_callC h_written (hr.mono (by decide)) hp (xa_cons (xe_vr 3) (xa_nil))) (xa_cons (xe_vr 4) (xa_nil)))))) (xw_or1 (xt_not (xt_V (xe_callC h_l_alike (hr.mono (by decide)) hp (xa_cons (xe_callC h_read (hr.mono (by decide)) hp (xa_cons (xe_vr 4) (xa_nil))) (xa_cons (xe_vr 3) (xa_nil))))))))) (xss_one (xs_ret (xe_bl))) (xss_nil))))))) (xss_one (xs_ret (xe_bl))))
end
abbrev R : PySem.W.OpenRow := PySem.W.OpenLaw.row PySem.Challenge.rw_lateboxes_k19_written_and_read
abbrev hk : PySem.W.Hook := He.hookX 4 fa fn ts [] ex
def ob (s : PySem.W.SharedT) : He.AlX := He.obsX 4 fa fn ts [] ex (HandSHeadRun.getT s)
theorem ob_eq (s : PySem.W.SharedT) : ob s = hk.obs s.abs := He.obsX_eq (HandSHeadRun.getT_eq s)
def loose : List Str := (["LateError", "BadProgram", "BadText", "BOXES", "RING", "MOST_ROWS", "FORMS", "is_number", "is_row", "need_program", "FIGURES", "MOST_FIGURES", "written", "number_of", "row_of", "read", "_law_mix", "_law_next", "_law_alike", "_law_mill", "_law_number", "_law_boxes", "_law_deed", "_law_jump", "_law_plain"] : List Str)
def RE (w : World) : Prop := HandSHeadRun.RunEq R (PySem.W.view R.prog [29]) hk ob 3000 loose w
theorem run0 (w : World) : RE (w.withFollow "special-get-raises" false) := by
  intro os
  kernel_rfl
theorem run1 (w : World) : RE (w.withFollow "special-get-raises" true) := by
  intro os
  kernel_rfl
theorem runAll (w : World) : RE w := PySem.W.byRow2 "special-get-raises" (P := RE) run0 run1 w
end LB
open PySem PySem.W PySem.Calls PyProof.Rows
theorem PySem.Challenge.cw_lateboxes_k19_written_and_read_holds : PySem.Challenge.rw_lateboxes_k19_written_and_read.Holds := by
  w_on; o_law
  refine HandSHeadRun.head_any (r := OpenLaw.row PySem.Challenge.rw_lateboxes_k19_written_and_read) (q := view (OpenLaw.row PySem.Challenge.rw_lateboxes_k19_written_and_read).prog [29]) (H := LB.hk) (ob := LB.ob) (M := 3000) (loose := LB.loose) (d := HandSHeadRun.topDef (OpenLaw.row PySem.Challenge.rw_lateboxes_k19_written_and_read).prog 29) (kwd := []) LB.ob_eq
    (by kernel_rfl) (fun s => by kernel_rfl) LB.runAll (by kernel_rfl) (by kernel_rfl) (by kernel_rfl) (by rfl) (by first | assumption | decide +kernel) (by decide +kernel) ⟨rfl, rfl, rfl, rfl, rfl, by decide +kernel⟩ ?hw ?hc
  case hw => w_witness2
  case hc =>
    refine LamX.walk_ofTsE (l := PySem.Challenge.rw_lateboxes_k19_written_and_read) (n := 63) (k := 8) (x := "_law_script") (CX := fun w => L2.CX (PySem.Challenge.rw_lateboxes_k19_written_and_read).prog w) rfl (by decide) (by kernel_rfl) ⟨rfl, by decide, by decide⟩ ?F ?G
    case G =>
      intro w H s e s' h
      obtain ⟨_, _, _, _, _, _, _, _, _, _, _, _, z⟩ := h
      exact z
    case F =>
      intro w mg fa h Y G hmg0
      obtain ⟨K, KX, c⟩ := Y
      have hmg : mg ("law" : PySem.Str) = some (.ref fa) := by
        have e : (HandSHeadRun.topDef (OpenLaw.row PySem.Challenge.rw_lateboxes_k19_written_and_read).prog 29).name = ("law" : PySem.Str) := by kernel_rfl
        rw [← e]
        exact hmg0
      obtain ⟨fd, sp, hb, hsp, hF⟩ := LB.law_fact (Pg := (PySem.Challenge.rw_lateboxes_k19_written_and_read).prog) (w := w) (K := K) (mg := mg) ⟨h, KX, G, c⟩ fa hmg
      exact ⟨K, KX, fd, [], sp, fun _ h => (by cases h), fun _ h => (by cases h), fun _ h => (by cases h), hb, fun H a ns hl _ _ hS => hsp H a ns hl hS, fun base h1 h2 _ => hF base h1 h2⟩

